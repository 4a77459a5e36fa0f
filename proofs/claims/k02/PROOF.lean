import PyProof.Rows.All
import HandS.Conv
import HandS.Deep
import HandS.Dict
import HandS.DictComp
import HandS.EndTab
import HandS.ExcField
import HandS.ExcInit
import HandS.ExcIs
import HandS.ExcSuper
import HandS.ForExc
import HandS.ForMost
import HandS.HotCalls
import HandS.IsInst
import HandS.Lambda
import HandS.More
import HandS.NoneIn
import HandS.Remove
import HandS.SetFor
import HandS.SortInts
import HandS.Strs
import HandS.Style
import HandS.Text
import HandS.TryMany
import HandS.TupAny
import HandS.TupMul
import HandS.Wide
import HandS.Zip
import KE.GoesMore
import KE.GoesZip
import KE.KDictPairs
import KE.KExcIs
import KE.KExcSuper
import KE.RegKSuper
import OpenK.AllK
import Wide.All
import Wide.FinOn
import PySem.Challenge.RW_spelledways_k02_whole_numbers_as_octets
set_option Elab.async false
set_option linter.all false
set_option maxRecDepth 100000
section
set_option maxHeartbeats 2000000
namespace DM
open PySem PySem.Spec PyProof.Rows L2
/-! ### tuples made in this run, known as plain objects -/
abbrev plT (us : List Value) : Obj := { cls := .type "tuple", data := .seq us.toArray }
abbrev plH (us : List Value) (vs : List V) : HO := .frz (plT us) (.tup vs)
theorem plain_ok {P : Program} {w : World} {H : Hp} {h : Heap} {a : Addr} {us : List Value} {vs : List V} (e : h.get? a = some (plT us)) (r : Vals vs us) (z : vs.length ≤ sizeLine) : ObjOk P w H h a (plH us vs) :=
  ⟨e, z, us, r, ⟨_, e, rfl, _, rfl⟩⟩
section
variable {X : Cx} {es : List Expr} {t : TA} {pos : Pos}
def tTupP (t : TA) : TE := fun σ H Q => t σ H fun xs H1 => xs.length ≤ sizeLine ∧ ∀ p us, H1 p = none → Q (.ref p) (upd H1 p (plH us xs))
theorem pe_tupP {x1 : Nat} (h : PA X es t) : PE X (.Tuple es x1 pos) (tTupP t) := by
  refine ⟨fun pins s σ H Q I hq => ?_⟩
  refine wpAny_Tuple_spliced (thn (h.run pos pins s σ H _ I hq) fun us s1 ⟨xs, H1, I1, r, z, q⟩ => ⟨by rw [← r.length]; exact z, ?_⟩)
  exact ⟨.ref s1.heap.objs.size, upd H1 s1.heap.objs.size (plH us xs), I1.laid (t' := s1.toks) (fun b u e => Heap.get?_push_of_some _ e) (Nat.le_refl _) (plain_ok (Heap.get?_push_size _ rfl) r z), rfl, q _ us (I1.hok.fresh (Nat.le_refl _))⟩
theorem tuple_ofP : CallR X (.type "tuple") (fun xs H Q => ∃ p ys, xs = [.ref p] ∧ ((SqL X.K H p ys ∧ ∀ l us, H l = none → Q (.ref l) (upd H l (plH us ys))) ∨ (SqT X.K H p ys ∧ Q (.ref p) H))) := by
  intro pins s σ H xs us Q I r h
  obtain ⟨p, ys, rfl, h⟩ := h
  obtain ⟨u, rfl, rx⟩ := vals1 r
  cases rx
  rcases h with ⟨sq, q⟩ | ⟨sq, q⟩
  · obtain ⟨its, rv, pl, hz⟩ := I.list sq
    have hlen := rv.length
    refine call_tuple_list pl.isList (fun h' kp => ?_) (by simp only [List.size_toArray] <;> omega)
    have I1 : Inv X pins σ H { s with heap := h' } := I.kept (t' := s.toks) kp
    exact ⟨.ref h'.objs.size, _, I1.laid (o := plH its ys) (t' := s.toks) (fun b o e => Heap.get?_push_of_some _ e) (Nat.le_refl _) (plain_ok (Heap.get?_push_size _ rfl) rv hz), rfl, q _ its (I1.hok.fresh (Nat.le_refl _))⟩
  · obtain ⟨its, rv, pl, hz⟩ := I.tuple sq
    exact call_tuple_same pl ⟨.ref p, H, I, rfl, q⟩
/-- t + u -/
def rCatP (K : PySem.W.Frag) : R2 := fun x y H Q => ∃ a b xs ys, x = .ref a ∧ y = .ref b ∧ SqT K H a xs ∧ SqT K H b ys ∧ xs.length + ys.length ≤ sizeLine ∧
  (xs = [] → Q (.ref b) H) ∧ (xs ≠ [] → ys = [] → Q (.ref a) H) ∧ (xs ≠ [] → ys ≠ [] → ∀ p us, H p = none → Q (.ref p) (upd H p (plH us (xs ++ ys))))
theorem op_catP : OpR X (binaryOp .Add) (rCatP X.K) := by
  intro pins s σ H x y v u Q I rx ry h
  obtain ⟨a, b, xs, ys, rfl, rfl, ha, hb, hz, q0, q1, q2⟩ := h
  cases rx
  cases ry
  obtain ⟨its, r1, p1, _⟩ := I.tuple ha
  obtain ⟨its2, r2, p2, _⟩ := I.tuple hb
  by_cases hx : xs = []
  · subst hx
    cases r1
    exact cat_tup0 p1 p2 ⟨.ref b, H, I, rfl, q0 rfl⟩
  · refine HT.cat_tup p1 p2 (fun z => hx (r1.nil_iff.mp z)) (fun z => ⟨.ref a, H, I, rfl, q1 hx (r2.nil_iff.mp z)⟩) (fun z => ?_) (by rw [← r1.length, ← r2.length]; exact hz)
    exact ⟨.ref s.heap.objs.size, _, I.laid (o := plH (its ++ its2) (xs ++ ys)) (t' := s.toks) (fun b ob q => Heap.get?_push_of_some _ q) (Nat.le_refl _) (plain_ok (Heap.get?_push_size _ rfl) (r1.append r2) (by rw [List.length_append]; exact hz)), rfl,
      q2 hx (fun w => z (r2.nil_iff.mpr w)) _ _ (I.hok.fresh (Nat.le_refl _))⟩
/-- t[lo:hi] -/
def rSlP (K : PySem.W.Frag) : V → Option Int → Option Int → Hp → VK → Prop := fun x lo hi H Q => ∃ a xs, x = .ref a ∧ SqT K H a xs ∧
  (HT.sIx xs.length 0 lo = 0 ∧ HT.sIx xs.length xs.length hi = xs.length → Q (.ref a) H) ∧ (¬ (HT.sIx xs.length 0 lo = 0 ∧ HT.sIx xs.length xs.length hi = xs.length) → ∀ p us, H p = none → Q (.ref p) (upd H p (plH us (cutV xs lo hi))))
theorem sl_tupP : SlR X (rSlP X.K) := by
  intro pins s σ H x v vl vu lo hi sl Q I rx hs pl pu h
  obtain ⟨a, xs, rfl, hx, q1, q2⟩ := h
  cases rx
  obtain ⟨its, r, ht, hz⟩ := I.tuple hx
  have hlen : its.toArray.size = xs.length := by rw [List.size_toArray]; exact r.length.symm
  refine ⟨"tuple", _, PyProof.Rows.slot_tuple_getitem.lookup, ht.typeIs, ?_⟩
  by_cases hw : HT.sIx xs.length 0 lo = 0 ∧ HT.sIx xs.length xs.length hi = xs.length
  · exact getItem_tuple_whole ht hs pl pu (by rw [hlen]; exact hw) ⟨.ref a, H, I, rfl, q1 hw⟩
  · refine HT.getItem_tuple_cut ht hs pl pu (by rw [hlen]; exact hw) ?_ (by rw [hlen]; exact hz)
    rw [hlen]
    exact ⟨.ref s.heap.objs.size, _, I.laid (o := plH _ (cutV xs lo hi)) (t' := s.toks) (fun b ob q => Heap.get?_push_of_some _ q) (Nat.le_refl _)
      (plain_ok (Heap.get?_push_size _ rfl) ((r.drop (HT.sIx xs.length 0 lo)).take (HT.sIx xs.length xs.length hi - HT.sIx xs.length 0 lo)) (Nat.le_trans (cutV_length xs lo hi) hz)), rfl, q2 hw _ _ (I.hok.fresh (Nat.le_refl _))⟩
end
end DM
end
section
set_option maxHeartbeats 2000000
namespace DM
open PySem PySem.Spec PyProof.Rows L2

/-- data: tuples (and lists that nobody changes) by value, changing objects by number; exv: an exception in an except suite's hand; cl: an own class; fnv: a lambda, its code at c, made at the slots σ -/
inductive D where
  | non | bl (b : Bool) | int (i : Int) | str (x : Str) | ty (n : String) | abs (a : Addr) | cl (C : Str)
  | tup (xs : List D) | qtup (xs : List D) | lst (xs : List D) | ref (n : Nat) | exv (a : Addr) (d : Option Addr) (ns : List Str) (ds : List D) | fnv (f c : Addr) (q : Str) (σ : List (Option V)) (ρ : List (Option D))
/-- a changing object; tab: a code object's table -/
inductive AO where
  | lst (xs : List D) | dk (kvs : List (Key × D)) | dt (kvs : List (List Key × D)) | ins (C : Str) (fs : List (Str × D)) | tab (P : Addr) (q : Str) | fk (od : Obj) (ws : List (Key × V)) (kvs : List (Key × D))
abbrev AH := List AO
/-- C: the class's name -/
inductive Res (α : Type) where
  | ok (a : α) (A : AH) | exc (C : Str) (fs : List (Str × D)) (A : AH) | no
def Res.bind {α β : Type} (r : Res α) (k : α → AH → Res β) : Res β := match r with
  | .ok a A => k a A
  | .exc C fs A => .exc C fs A
  | .no => .no
@[simp] theorem bind_ok {α β : Type} (a : α) (A : AH) (k : α → AH → Res β) : Res.bind (.ok a A) k = k a A := rfl
@[simp] theorem bind_exc {α β : Type} (C : Str) (fs : List (Str × D)) (A : AH) (k : α → AH → Res β) : Res.bind (.exc C fs A) k = .exc C fs A := rfl
@[simp] theorem bind_no {α β : Type} (k : α → AH → Res β) : Res.bind .no k = .no := rfl
abbrev Env := List (Option D)
abbrev ME := Env → AH → Res D
abbrev MT := Env → AH → Res Bool
abbrev MA := Env → AH → Res (List D)
inductive SRes where
  | nx (ρ : Env) (A : AH) | rt (d : D) (A : AH) | bk (ρ : Env) (A : AH) | ct (ρ : Env) (A : AH) | exc (C : Str) (fs : List (Str × D)) (ρ : Env) (A : AH) | no
abbrev MS := Env → AH → SRes

/-! ### what stands for what -/
/-- the class of a name -/
def clsV (K : PySem.W.Frag) (C : Str) : Option Value := (PySem.W.nsIn K mainGlobals C).join
/-- the numbered objects' addresses; those of lists that are being made -/
abbrev Mp := List Addr × List Addr
def Out (m : Mp) (a : Addr) : Prop := a ∉ m.1 ∧ a ∉ m.2
def SqT' (K : PySem.W.Frag) (m : Mp) (H : Hp) (a : Addr) (vs : List V) : Prop :=
  (∃ us, H a = some (plH us vs) ∧ Out m a) ∨ ∃ (o : Obj) (its : Array Value) (n : Nat), K.lookup a = some o ∧ o.cls = .type "tuple" ∧ o.dict = none ∧ o.data = .seq its n ∧ its.size ≤ sizeLine ∧ Vals vs its.toList
def SqL' (K : PySem.W.Frag) (m : Mp) (H : Hp) (a : Addr) (vs : List V) : Prop :=
  (Rd H a (.lst vs) ∧ Out m a) ∨ ∃ (o : Obj) (its : Array Value) (n : Nat), K.lookup a = some o ∧ o.cls = .type "list" ∧ o.dict = none ∧ o.data = .seq its n ∧ its.size ≤ sizeLine ∧ Vals vs its.toList
theorem SqT'.sq {K : PySem.W.Frag} {m : Mp} {H : Hp} {a : Addr} {vs : List V} (h : SqT' K m H a vs) : SqT K H a vs := h.elim (fun ⟨us, x, _⟩ => .inl (.inr ⟨_, x⟩)) fun ⟨o, its, n, a, b, _, c⟩ => .inr ⟨o, its, n, a, b, c⟩
theorem SqL'.sq {K : PySem.W.Frag} {m : Mp} {H : Hp} {a : Addr} {vs : List V} (h : SqL' K m H a vs) : SqL K H a vs := h.elim (fun x => .inl x.1) .inr
mutual
inductive RD (K : PySem.W.Frag) (m : Mp) (H : Hp) : D → V → Prop
  | non : RD K m H .non .non
  | bl (b : Bool) : RD K m H (.bl b) (.bl b)
  | int (i : Int) : RD K m H (.int i) (.int i)
  | str (x : Str) : RD K m H (.str x) (.str x)
  | ty (n : String) : RD K m H (.ty n) (.ty n)
  | abs (a : Addr) : RD K m H (.abs a) (.ref a)
  | cl {C : Str} {a : Addr} : clsV K C = some (.ref a) → RD K m H (.cl C) (.ref a)
  | tup {a : Addr} {vs : List V} {xs : List D} : SqT' K m H a vs → RDs K m H xs vs → RD K m H (.tup xs) (.ref a)
  | qtup {a : Addr} {vs : List V} {xs : List D} : Rd H a (.tup vs) → Out m a → RDs K m H xs vs → RD K m H (.qtup xs) (.ref a)
  | lst {a : Addr} {vs : List V} {xs : List D} : SqL' K m H a vs → RDs K m H xs vs → RD K m H (.lst xs) (.ref a)
  | ref {n : Nat} {a : Addr} : m.1[n]? = some a → RD K m H (.ref n) (.ref a)
  | exv0 (a : Addr) : RD K m H (.exv a none [] []) (.ref a)
  | exv1 {a dd : Addr} {gs : List (Str × V)} {ns : List Str} {ds : List D} : H dd = some (.xd gs) → Out m dd → ns = gs.map (·.1) → RDs K m H ds (gs.map (·.2)) → RD K m H (.exv a (some dd) ns ds) (.ref a)
  | fnv {f c : Addr} {q : Str} {σ : List (Option V)} {ρ : List (Option D)} : H c = some (LamX.CodeO c q) → Out m c → RDo K m H ρ σ → RD K m H (.fnv f c q σ ρ) (.ref f)
inductive RDo (K : PySem.W.Frag) (m : Mp) (H : Hp) : List (Option D) → List (Option V) → Prop
  | nil : RDo K m H [] []
  | none {ρ : List (Option D)} {x : Option V} {σ : List (Option V)} : RDo K m H ρ σ → RDo K m H (none :: ρ) (x :: σ)
  | some {d : D} {v : V} {ρ : List (Option D)} {σ : List (Option V)} : RD K m H d v → RDo K m H ρ σ → RDo K m H (some d :: ρ) (some v :: σ)
inductive RDs (K : PySem.W.Frag) (m : Mp) (H : Hp) : List D → List V → Prop
  | nil : RDs K m H [] []
  | cons {x : D} {xs : List D} {v : V} {vs : List V} : RD K m H x v → RDs K m H xs vs → RDs K m H (x :: xs) (v :: vs)
end
/-- carried over: the numbers stay, what is in nobody's hand stays -/
theorem sqT_move {K : PySem.W.Frag} {m m' : Mp} {H H' : Hp} (ho : ∀ a o, H a = some o → Out m a → H' a = some o ∧ Out m' a) {a : Addr} {vs : List V} (h : SqT' K m H a vs) : SqT' K m' H' a vs := by
  rcases h with ⟨us, r, hn⟩ | h
  · exact .inl ⟨us, (ho _ _ r hn).1, (ho _ _ r hn).2⟩
  · exact .inr h
theorem qt_move {m m' : Mp} {H H' : Hp} (ho : ∀ a o, H a = some o → Out m a → H' a = some o ∧ Out m' a) {a : Addr} {vs : List V} (r : Rd H a (.tup vs)) (hn : Out m a) : Rd H' a (.tup vs) ∧ Out m' a := by
  rcases r with r | ⟨o, r⟩
  · exact ⟨.inl (ho _ _ r hn).1, (ho _ _ r hn).2⟩
  · exact ⟨.inr ⟨o, (ho _ _ r hn).1⟩, (ho _ _ r hn).2⟩
theorem sqL_move {K : PySem.W.Frag} {m m' : Mp} {H H' : Hp} (ho : ∀ a o, H a = some o → Out m a → H' a = some o ∧ Out m' a) {a : Addr} {vs : List V} (h : SqL' K m H a vs) : SqL' K m' H' a vs := by
  rcases h with ⟨r, hn⟩ | h
  · refine .inl ?_
    rcases r with r | ⟨o, r⟩
    · exact ⟨.inl (ho _ _ r hn).1, (ho _ _ r hn).2⟩
    · exact ⟨.inr ⟨o, (ho _ _ r hn).1⟩, (ho _ _ r hn).2⟩
  · exact .inr h
/-! no number of n or more is named -/
mutual
def clo (n : Nat) : D → Prop
  | .ref i => i < n
  | .tup xs => clos n xs
  | .qtup xs => clos n xs
  | .lst xs => clos n xs
  | .exv _ _ _ ds => clos n ds
  | .fnv _ _ _ _ ρ => cloo n ρ
  | .non => True
  | .bl _ => True
  | .int _ => True
  | .str _ => True
  | .ty _ => True
  | .abs _ => True
  | .cl _ => True
def cloo (n : Nat) : List (Option D) → Prop
  | [] => True
  | none :: ρ => cloo n ρ
  | some d :: ρ => clo n d ∧ cloo n ρ
def clos (n : Nat) : List D → Prop
  | [] => True
  | d :: ds => clo n d ∧ clos n ds
end
mutual
theorem RD.moveN {K : PySem.W.Frag} {m m' : Mp} {H H' : Hp} {n : Nat} (hr : ∀ (i : Nat) (a : Addr), i < n → m.1[i]? = some a → m'.1[i]? = some a) (ho : ∀ a o, H a = some o → Out m a → H' a = some o ∧ Out m' a) : ∀ (d : D) (v : V), clo n d → RD K m H d v → RD K m' H' d v
  | .non, _, _, h => by cases h; exact .non
  | .bl b, _, _, h => by cases h; exact .bl b
  | .int i, _, _, h => by cases h; exact .int i
  | .str x, _, _, h => by cases h; exact .str x
  | .ty x, _, _, h => by cases h; exact .ty x
  | .abs x, _, _, h => by cases h; exact .abs x
  | .cl x, _, _, h => by cases h with | cl h => exact .cl h
  | .ref n, _, c, h => by cases h with | ref h => exact .ref (hr _ _ c h)
  | .tup xs, _, c, h => by cases h with | tup h r => exact .tup (sqT_move ho h) (RDs.moveN hr ho xs _ c r)
  | .qtup xs, _, c, h => by cases h with | qtup h n r => exact .qtup (qt_move ho h n).1 (qt_move ho h n).2 (RDs.moveN hr ho xs _ c r)
  | .lst xs, _, c, h => by cases h with | lst h r => exact .lst (sqL_move ho h) (RDs.moveN hr ho xs _ c r)
  | .exv a d ns ds, _, c, h => by
    cases h with
    | exv0 => exact .exv0 a
    | exv1 h1 h2 h3 r => exact .exv1 (ho _ _ h1 h2).1 (ho _ _ h1 h2).2 h3 (RDs.moveN hr ho ds _ c r)
  | .fnv f a q σ ρ, _, c, h => by cases h with | fnv h1 h2 r => exact .fnv (ho _ _ h1 h2).1 (ho _ _ h1 h2).2 (RDo.moveN hr ho ρ _ c r)
theorem RDo.moveN {K : PySem.W.Frag} {m m' : Mp} {H H' : Hp} {n : Nat} (hr : ∀ (i : Nat) (a : Addr), i < n → m.1[i]? = some a → m'.1[i]? = some a) (ho : ∀ a o, H a = some o → Out m a → H' a = some o ∧ Out m' a) : ∀ (ρ : List (Option D)) (σ : List (Option V)), cloo n ρ → RDo K m H ρ σ → RDo K m' H' ρ σ
  | [], _, _, h => by cases h; exact .nil
  | none :: ρ, _, c, h => by cases h with | none h => exact .none (RDo.moveN hr ho ρ _ c h)
  | some d :: ρ, _, c, h => by cases h with | some h r => exact .some (RD.moveN hr ho d _ c.1 h) (RDo.moveN hr ho ρ _ c.2 r)
theorem RDs.moveN {K : PySem.W.Frag} {m m' : Mp} {H H' : Hp} {n : Nat} (hr : ∀ (i : Nat) (a : Addr), i < n → m.1[i]? = some a → m'.1[i]? = some a) (ho : ∀ a o, H a = some o → Out m a → H' a = some o ∧ Out m' a) : ∀ (ds : List D) (vs : List V), clos n ds → RDs K m H ds vs → RDs K m' H' ds vs
  | [], _, _, h => by cases h; exact .nil
  | d :: ds, _, c, h => by cases h with | cons h r => exact .cons (RD.moveN hr ho d _ c.1 h) (RDs.moveN hr ho ds _ c.2 r)
end
mutual
theorem RD.clo {K : PySem.W.Frag} {m : Mp} {H : Hp} : ∀ (d : D) (v : V), RD K m H d v → DM.clo m.1.length d
  | .non, _, _ => trivial
  | .bl b, _, _ => trivial
  | .int b, _, _ => trivial
  | .str b, _, _ => trivial
  | .ty b, _, _ => trivial
  | .abs b, _, _ => trivial
  | .cl b, _, _ => trivial
  | .ref n, _, h => by cases h with | ref h => exact (List.getElem?_eq_some_iff.mp h).1
  | .tup xs, _, h => by cases h with | tup s r => exact RDs.clos xs _ r
  | .qtup xs, _, h => by cases h with | qtup s n r => exact RDs.clos xs _ r
  | .lst xs, _, h => by cases h with | lst s r => exact RDs.clos xs _ r
  | .exv a d ns ds, _, h => by
    cases h with
    | exv0 => trivial
    | exv1 _ _ _ r => exact RDs.clos ds _ r
  | .fnv f a q σ ρ, _, h => by cases h with | fnv _ _ r => exact RDo.cloo ρ _ r
theorem RDo.cloo {K : PySem.W.Frag} {m : Mp} {H : Hp} : ∀ (ρ : List (Option D)) (σ : List (Option V)), RDo K m H ρ σ → DM.cloo m.1.length ρ
  | [], _, _ => trivial
  | none :: ρ, _, h => by cases h with | none h => exact RDo.cloo ρ _ h
  | some d :: ρ, _, h => by cases h with | some h r => exact ⟨RD.clo d _ h, RDo.cloo ρ _ r⟩
theorem RDs.clos {K : PySem.W.Frag} {m : Mp} {H : Hp} : ∀ (ds : List D) (vs : List V), RDs K m H ds vs → DM.clos m.1.length ds
  | [], _, _ => trivial
  | d :: ds, _, h => by cases h with | cons h r => exact ⟨RD.clo d _ h, RDs.clos ds _ r⟩
end
/-- as above, all numbers -/
theorem RD.move {K : PySem.W.Frag} {m m' : Mp} {H H' : Hp} (hr : ∀ (i : Nat) (a : Addr), m.1[i]? = some a → m'.1[i]? = some a) (ho : ∀ a o, H a = some o → Out m a → H' a = some o ∧ Out m' a) (d : D) (v : V) (h : RD K m H d v) : RD K m' H' d v :=
  RD.moveN (n := m.1.length) (fun i a _ => hr i a) ho d v (RD.clo d v h) h
theorem RDs.move {K : PySem.W.Frag} {m m' : Mp} {H H' : Hp} (hr : ∀ (i : Nat) (a : Addr), m.1[i]? = some a → m'.1[i]? = some a) (ho : ∀ a o, H a = some o → Out m a → H' a = some o ∧ Out m' a) (d : List D) (v : List V) (h : RDs K m H d v) : RDs K m' H' d v :=
  RDs.moveN (n := m.1.length) (fun i a _ => hr i a) ho d v (RDs.clos d v h) h
structure Ext (m : Mp) (H : Hp) (m' : Mp) (H' : Hp) : Prop where
  pre : ∃ l, m'.1 = m.1 ++ l
  sub : ∀ p ∈ m.2, p ∈ m'.2
  pvs : ∀ p ∈ m'.2, p ∈ m.2 ∨ p ∈ m.1 ∨ H p = none
  new : ∀ p ∈ m'.1, p ∈ m.1 ∨ H p = none
  keep : ∀ p o, H p = some o → p ∉ m.1 → H' p = some o
theorem Ext.refl (m : Mp) (H : Hp) : Ext m H m H := ⟨⟨[], (List.append_nil m.1).symm⟩, fun _ h => h, fun _ h => .inl h, fun _ h => .inl h, fun _ _ h _ => h⟩
theorem Ext.none {m m1 : Mp} {H H1 : Hp} (a : Ext m H m1 H1) {p : Addr} (hm : p ∉ m.1) (z : H1 p = none) : H p = none := by
  cases q : H p with
  | none => rfl
  | some o =>
    have := a.keep p o q hm
    rw [z] at this; cases this
theorem Ext.trans {m m1 m2 : Mp} {H H1 H2 : Hp} (a : Ext m H m1 H1) (b : Ext m1 H1 m2 H2) : Ext m H m2 H2 := by
  have out : ∀ p o, H p = some o → p ∉ m.1 → p ∉ m1.1 := fun p o h hn hm => by
    rcases a.new p hm with z | z
    · exact hn z
    · rw [z] at h; cases h
  refine ⟨?_, fun p h => b.sub p (a.sub p h), fun p hp => ?_, fun p hp => ?_, fun p o h hn => b.keep p o (a.keep p o h hn) (out p o h hn)⟩
  · obtain ⟨l, h1⟩ := a.pre
    obtain ⟨l2, h2⟩ := b.pre
    exact ⟨l ++ l2, by rw [h2, h1, List.append_assoc]⟩
  · by_cases hm : p ∈ m.1
    · exact .inr (.inl hm)
    · rcases b.pvs p hp with z | z | z
      · exact a.pvs p z
      · rcases a.new p z with y | y
        · exact .inr (.inl y)
        · exact .inr (.inr y)
      · exact .inr (.inr (a.none hm z))
  · by_cases hm : p ∈ m.1
    · exact .inl hm
    · rcases b.new p hp with z | z
      · exact a.new p z
      · exact .inr (a.none hm z)
theorem Ext.get {m m' : Mp} {H H' : Hp} (e : Ext m H m' H') {n : Nat} {a : Addr} (h : m.1[n]? = some a) : m'.1[n]? = some a := by
  obtain ⟨l, h0⟩ := e.pre
  obtain ⟨h1, h2⟩ := List.getElem?_eq_some_iff.mp h
  rw [h0, List.getElem?_append_left h1]; exact h
theorem Ext.out {m m' : Mp} {H H' : Hp} (e : Ext m H m' H') {a : Addr} {o : HO} (q : H a = some o) (hn : Out m a) : H' a = some o ∧ Out m' a := by
  refine ⟨e.keep a o q hn.1, fun hm => ?_, fun hm => ?_⟩
  · rcases e.new a hm with z | z
    · exact hn.1 z
    · rw [z] at q; cases q
  · rcases e.pvs a hm with z | z | z
    · exact hn.2 z
    · exact hn.1 z
    · rw [z] at q; cases q
theorem RD.mono {K : PySem.W.Frag} {m m' : Mp} {H H' : Hp} (e : Ext m H m' H') (d : D) (v : V) (h : RD K m H d v) : RD K m' H' d v := RD.move (fun _ _ => e.get) (fun _ _ => e.out) d v h
theorem RDs.mono {K : PySem.W.Frag} {m m' : Mp} {H H' : Hp} (e : Ext m H m' H') (d : List D) (v : List V) (h : RDs K m H d v) : RDs K m' H' d v := RDs.move (fun _ _ => e.get) (fun _ _ => e.out) d v h
theorem RDs.length {K : PySem.W.Frag} {m : Mp} {H : Hp} : ∀ {ds : List D} {vs : List V}, RDs K m H ds vs → ds.length = vs.length
  | [], _, h => by cases h; rfl
  | d :: ds, _, h => by cases h with | cons h r => rw [List.length_cons, List.length_cons, RDs.length r]
theorem RDs.get {K : PySem.W.Frag} {m : Mp} {H : Hp} : ∀ {ds : List D} {vs : List V} {i : Nat} {d : D}, RDs K m H ds vs → ds[i]? = some d → ∃ v, vs[i]? = some v ∧ RD K m H d v
  | [], _, _, _, _, e => by simp at e
  | d :: ds, _, 0, x, h, e => by cases h with | cons h r => (simp at e; subst e; exact ⟨_, rfl, h⟩)
  | d :: ds, _, i + 1, x, h, e => by
    cases h with
    | cons h r =>
      obtain ⟨v, h1, h2⟩ := RDs.get (i := i) (d := x) r (by simpa using e)
      exact ⟨v, by simpa using h1, h2⟩
theorem RDs.append {K : PySem.W.Frag} {m : Mp} {H : Hp} : ∀ {ds es : List D} {vs ws : List V}, RDs K m H ds vs → RDs K m H es ws → RDs K m H (ds ++ es) (vs ++ ws)
  | [], _, _, _, h, q => by cases h; exact q
  | d :: ds, _, _, _, h, q => by cases h with | cons h r => exact .cons h (RDs.append r q)
theorem RDs.take {K : PySem.W.Frag} {m : Mp} {H : Hp} : ∀ {ds : List D} {vs : List V} (n : Nat), RDs K m H ds vs → RDs K m H (ds.take n) (vs.take n)
  | _, _, 0, _ => by simp; exact .nil
  | [], _, n + 1, h => by cases h; exact .nil
  | d :: ds, _, n + 1, h => by cases h with | cons h r => exact .cons h (RDs.take n r)
theorem RDs.drop {K : PySem.W.Frag} {m : Mp} {H : Hp} : ∀ {ds : List D} {vs : List V} (n : Nat), RDs K m H ds vs → RDs K m H (ds.drop n) (vs.drop n)
  | _, _, 0, h => h
  | [], _, n + 1, h => by cases h; exact .nil
  | d :: ds, _, n + 1, h => by cases h with | cons h r => exact RDs.drop n r
theorem RDs.set {K : PySem.W.Frag} {m : Mp} {H : Hp} {d : D} {v : V} (q : RD K m H d v) : ∀ {ds : List D} {vs : List V} (n : Nat), RDs K m H ds vs → RDs K m H (ds.set n d) (vs.set n v)
  | [], _, n, h => by cases h; exact .nil
  | _ :: ds, _, 0, h => by cases h with | cons h r => exact .cons q r
  | _ :: ds, _, n + 1, h => by cases h with | cons h r => exact .cons h (RDs.set q n r)


def RFs (K : PySem.W.Frag) (m : Mp) (H : Hp) (fs : List (Str × D)) (gs : List (Str × V)) : Prop := fs.map (·.1) = gs.map (·.1) ∧ RDs K m H (fs.map (·.2)) (gs.map (·.2))
/-- the values of a changing object -/
def AO.vals : AO → List D
  | .lst xs => xs
  | .dk kvs => kvs.map (·.2)
  | .dt kvs => kvs.map (·.2)
  | .ins _ fs => fs.map (·.2)
  | .tab _ _ => []
  | .fk _ _ kvs => kvs.map (·.2)
/-- the table at P: each code object that it tells bears the name q -/
def TabR (m : Mp) (H : Hp) (P : Addr) (q : Str) : Prop := ∃ ps : Array Value, H P = some (.tbl ps) ∧ TriplesOk ps.toList ∧ ∀ (pos : Pos) (cv : Value), codeAmong pos ps.toList = some cv → ∃ c, cv = .ref c ∧ H c = some (LamX.CodeO c q) ∧ Out m c
def ObjR (K : PySem.W.Frag) (m : Mp) (H : Hp) : AO → Addr → Prop
  | .lst xs, a => ∃ vs, H a = some (.lst vs) ∧ RDs K m H xs vs
  | .dk kvs, a => ∃ ws : List (Key × V), (H a = some (.dK ws) ∧ kvs.map (·.1) = ws.map (·.1)) ∧ RDs K m H (kvs.map (·.2)) (ws.map (·.2))
  | .dt kvs, a => ∃ ws : List (List Key × V), (H a = some (.dT ws) ∧ kvs.map (·.1) = ws.map (·.1)) ∧ RDs K m H (kvs.map (·.2)) (ws.map (·.2))
  | .ins C fs, a => ∃ gs : List (Str × V), (∃ c dx, clsV K C = some (.ref c) ∧ H a = some (.ins c dx gs) ∧ H dx = some (.own a) ∧ Out m dx ∧ fs.map (·.1) = gs.map (·.1)) ∧ RDs K m H (fs.map (·.2)) (gs.map (·.2))
  | .tab P q, a => a = P ∧ TabR m H P q
  | .fk od ws kvs, a => (H a = some (.frz od (.dK ws)) ∧ kvs.map (·.1) = ws.map (·.1)) ∧ RDs K m H (kvs.map (·.2)) (ws.map (·.2))
/-- its shape is carried over where its object is the same, its values where they are -/
theorem ObjR.moveN {K : PySem.W.Frag} {m m' : Mp} {H H' : Hp} {n : Nat} (hr : ∀ (i : Nat) (a : Addr), i < n → m.1[i]? = some a → m'.1[i]? = some a) (ho : ∀ a o, H a = some o → Out m a → H' a = some o ∧ Out m' a) {o : AO} {q : Addr} (hq : H' q = H q) (c : clos n o.vals) (h : ObjR K m H o q) : ObjR K m' H' o q := by
  cases o with
  | lst xs => obtain ⟨vs, e1, r⟩ := h; exact ⟨vs, hq.trans e1, RDs.moveN hr ho _ _ c r⟩
  | dk kvs => obtain ⟨vs, ⟨e1, e2⟩, r⟩ := h; exact ⟨vs, ⟨hq.trans e1, e2⟩, RDs.moveN hr ho _ _ c r⟩
  | dt kvs => obtain ⟨vs, ⟨e1, e2⟩, r⟩ := h; exact ⟨vs, ⟨hq.trans e1, e2⟩, RDs.moveN hr ho _ _ c r⟩
  | ins C fs =>
    obtain ⟨gs, ⟨cc, dx, e0, e1, e2, e3, e4⟩, r⟩ := h
    exact ⟨gs, ⟨cc, dx, e0, hq.trans e1, (ho _ _ e2 e3).1, (ho _ _ e2 e3).2, e4⟩, RDs.moveN hr ho _ _ c r⟩
  | fk od ws kvs => obtain ⟨⟨e1, e2⟩, r⟩ := h; exact ⟨⟨hq.trans e1, e2⟩, RDs.moveN hr ho _ _ c r⟩
  | tab P q =>
    obtain ⟨rfl, ps, e1, e2, e3⟩ := h
    refine ⟨rfl, ps, hq.trans e1, e2, fun pos cv hc => ?_⟩
    obtain ⟨c', f1, f2, f3⟩ := e3 pos cv hc
    exact ⟨c', f1, (ho _ _ f2 f3).1, (ho _ _ f2 f3).2⟩
theorem ObjR.clos {K : PySem.W.Frag} {m : Mp} {H : Hp} {o : AO} {q : Addr} (h : ObjR K m H o q) : DM.clos m.1.length o.vals := by
  cases o with
  | lst xs => obtain ⟨vs, e1, r⟩ := h; exact RDs.clos _ _ r
  | dk kvs => obtain ⟨vs, e1, r⟩ := h; exact RDs.clos _ _ r
  | dt kvs => obtain ⟨vs, e1, r⟩ := h; exact RDs.clos _ _ r
  | ins C fs => obtain ⟨vs, e1, r⟩ := h; exact RDs.clos _ _ r
  | tab P q => trivial
  | fk od ws kvs => exact RDs.clos _ _ h.2
theorem ObjR.move {K : PySem.W.Frag} {m m' : Mp} {H H' : Hp} (hr : ∀ (i : Nat) (a : Addr), m.1[i]? = some a → m'.1[i]? = some a) (ho : ∀ a o, H a = some o → Out m a → H' a = some o ∧ Out m' a) {o : AO} {q : Addr} (hq : H' q = H q) (h : ObjR K m H o q) : ObjR K m' H' o q :=
  ObjR.moveN (n := m.1.length) (fun i a _ => hr i a) ho hq h.clos h
theorem ObjR.held {K : PySem.W.Frag} {m : Mp} {H : Hp} {o : AO} {q : Addr} (h : ObjR K m H o q) : H q ≠ none := by
  cases o with
  | lst xs => obtain ⟨vs, e, _⟩ := h; rw [e]; exact fun z => nomatch z
  | dk xs => obtain ⟨vs, ⟨e, _⟩, _⟩ := h; rw [e]; exact fun z => nomatch z
  | dt xs => obtain ⟨vs, ⟨e, _⟩, _⟩ := h; rw [e]; exact fun z => nomatch z
  | ins C fs => obtain ⟨gs, ⟨c, dx, _, e, _⟩, _⟩ := h; rw [e]; exact fun z => nomatch z
  | tab P q => obtain ⟨rfl, ps, e, _⟩ := h; rw [e]; exact fun z => nomatch z
  | fk od ws kvs => obtain ⟨⟨e, _⟩, _⟩ := h; rw [e]; exact fun z => nomatch z
structure Rel (K : PySem.W.Frag) (m : Mp) (A : AH) (H : Hp) : Prop where
  len : m.1.length = A.length
  nd : m.1.Nodup
  pv : ∀ p ∈ m.2, H p ≠ none
  obj : ∀ (n : Nat) (o : AO), A[n]? = some o → ∃ a, m.1[n]? = some a ∧ ObjR K m H o a
/-- slots -/
def REnv (K : PySem.W.Frag) (m : Mp) (H : Hp) (ρ : Env) (σ : L2.St) : Prop := ρ.length = σ.length ∧ ∀ (i : Nat) (d : D), ρ[i]? = some (some d) → ∃ v, σ[i]? = some (some v) ∧ RD K m H d v
theorem REnv.mono {K : PySem.W.Frag} {m m' : Mp} {H H' : Hp} {ρ : Env} {σ : L2.St} (e : Ext m H m' H') (h : REnv K m H ρ σ) : REnv K m' H' ρ σ :=
  ⟨h.1, fun i d q => let ⟨v, h1, h2⟩ := h.2 i d q; ⟨v, h1, RD.mono e _ _ h2⟩⟩
theorem REnv.set {K : PySem.W.Frag} {m : Mp} {H : Hp} {ρ : Env} {σ : L2.St} {d : D} {v : V} (h : REnv K m H ρ σ) (r : RD K m H d v) (i : Nat) : REnv K m H (ρ.set i (some d)) (σ.set i (some v)) := by
  refine ⟨by rw [List.length_set, List.length_set]; exact h.1, fun j e q => ?_⟩
  by_cases hj : i = j
  · subst hj
    by_cases hl : i < ρ.length
    · rw [List.getElem?_set_self hl] at q
      cases q
      exact ⟨v, List.getElem?_set_self (by rw [← h.1]; exact hl), r⟩
    · rw [List.getElem?_eq_none (by simpa using hl)] at q; cases q
  · rw [List.getElem?_set_ne hj] at q ⊢
    exact h.2 j e q
theorem REnv.unset {K : PySem.W.Frag} {m : Mp} {H : Hp} {ρ : Env} {σ : L2.St} (h : REnv K m H ρ σ) (i : Nat) (x : Option V) : REnv K m H (ρ.set i none) (σ.set i x) := by
  refine ⟨by rw [List.length_set, List.length_set]; exact h.1, fun j e q => ?_⟩
  by_cases hj : i = j
  · subst hj
    by_cases hl : i < ρ.length
    · rw [List.getElem?_set_self hl] at q; cases q
    · rw [List.getElem?_eq_none (by simpa using hl)] at q; cases q
  · rw [List.getElem?_set_ne hj] at q ⊢
    exact h.2 j e q

theorem REnv.toO {K : PySem.W.Frag} {m : Mp} {H : Hp} : ∀ {ρ : Env} {σ : L2.St}, REnv K m H ρ σ → RDo K m H ρ σ
  | [], [], _ => .nil
  | [], _ :: _, h => by have := h.1; simp at this
  | _ :: _, [], h => by have := h.1; simp at this
  | o :: ρ, x :: σ, h => by
    have hr : REnv K m H ρ σ := ⟨by have := h.1; simpa using this, fun i d e => by
      have := h.2 (i + 1) d (by simpa using e)
      simpa using this⟩
    cases o with
    | none => exact .none (REnv.toO hr)
    | some d =>
      obtain ⟨v, e, r⟩ := h.2 0 d (by simp)
      simp at e
      subst e
      exact .some r (REnv.toO hr)
theorem RDo.env {K : PySem.W.Frag} {m : Mp} {H : Hp} : ∀ {ρ : Env} {σ : L2.St}, RDo K m H ρ σ → REnv K m H ρ σ
  | [], _, h => by cases h; exact ⟨rfl, fun i d e => by simp at e⟩
  | Option.none :: ρ, _, h => by
    cases h with
    | none h =>
      have r := RDo.env h
      refine ⟨by simp [r.1], fun i d e => ?_⟩
      cases i with
      | zero => simp at e
      | succ i => simpa using r.2 i d (by simpa using e)
  | Option.some x :: ρ, _, h => by
    cases h with
    | some q h =>
      have r := RDo.env h
      refine ⟨by simp [r.1], fun i d e => ?_⟩
      cases i with
      | zero => simp at e; subst e; exact ⟨_, by simp, q⟩
      | succ i => simpa using r.2 i d (by simpa using e)

/-! ### what follows -/
/-- an exception's dict -/
def ExcAt (K : PySem.W.Frag) (m : Mp) (H : Hp) (fs : List (Str × D)) (d : Option Addr) : Prop := match d with
  | some dx => fs ≠ [] ∧ ∃ gs, H dx = some (.xd gs) ∧ Out m dx ∧ RFs K m H fs gs
  | none => fs = []
def Post {α β : Type} (K : PySem.W.Frag) (R : Mp → Hp → α → β → Prop) (W : WX) (σ : L2.St) (m : Mp) (H : Hp) (r : Res α) (Q : β → Hp → Prop) : Prop := match r with
  | .ok d A' => ∀ m' H' v, Ext m H m' H' → Rel K m' A' H' → R m' H' d v → Q v H'
  | .exc C fs A' => ∀ m' H' c dx, Ext m H m' H' → Rel K m' A' H' → clsV K C = some c → ExcAt K m' H' fs dx → W c dx σ H'
  | .no => False
def PostS (K : PySem.W.Frag) (W : WX) (m : Mp) (H : Hp) (r : SRes) (D : Ends) : Prop := match r with
  | .nx ρ A' => ∀ m' H' σ', Ext m H m' H' → Rel K m' A' H' → REnv K m' H' ρ σ' → D.nx σ' H'
  | .bk ρ A' => ∀ m' H' σ', Ext m H m' H' → Rel K m' A' H' → REnv K m' H' ρ σ' → D.bk σ' H'
  | .ct ρ A' => ∀ m' H' σ', Ext m H m' H' → Rel K m' A' H' → REnv K m' H' ρ σ' → D.ct σ' H'
  | .rt d A' => ∀ m' H' v, Ext m H m' H' → Rel K m' A' H' → RD K m' H' d v → D.rt v H'
  | .exc C fs ρ A' => ∀ m' H' c dx σ', Ext m H m' H' → Rel K m' A' H' → REnv K m' H' ρ σ' → clsV K C = some c → ExcAt K m' H' fs dx → W c dx σ' H'
  | .no => False
section
variable {K : PySem.W.Frag} {W : WX} {σ : L2.St} {m m' m1 : Mp} {H H' H1 : Hp} {α β γ δ : Type}
theorem Post.mono {R : Mp → Hp → α → β → Prop} {r : Res α} {Q : β → Hp → Prop} (e : Ext m H m1 H1) (h : Post K R W σ m H r Q) : Post K R W σ m1 H1 r Q := by
  cases r with
  | ok d A' => exact fun m' H' v e' => h m' H' v (e.trans e')
  | exc C fs A' => exact fun m' H' c dx e' => h m' H' c dx (e.trans e')
  | no => exact h
theorem PostS.mono {r : SRes} {D : Ends} (e : Ext m H m1 H1) (h : PostS K W m H r D) : PostS K W m1 H1 r D := by
  cases r with
  | nx ρ A' => exact fun m' H' v e' => h m' H' v (e.trans e')
  | bk ρ A' => exact fun m' H' v e' => h m' H' v (e.trans e')
  | ct ρ A' => exact fun m' H' v e' => h m' H' v (e.trans e')
  | rt d A' => exact fun m' H' v e' => h m' H' v (e.trans e')
  | exc C fs ρ A' => exact fun m' H' c dx σ' e' => h m' H' c dx σ' (e.trans e')
  | no => exact h
theorem Post.imp {R : Mp → Hp → α → β → Prop} {r : Res α} {Q Q' : β → Hp → Prop} (h : Post K R W σ m H r Q) (q : ∀ v H', Q v H' → Q' v H') : Post K R W σ m H r Q' := by
  cases r with
  | ok d A' => exact fun m' H' v e R' r' => q _ _ (h m' H' v e R' r')
  | exc C fs A' => exact h
  | no => exact h
theorem Post.bind {R : Mp → Hp → α → β → Prop} {R2 : Mp → Hp → γ → δ → Prop} {r : Res α} {k : α → AH → Res γ} {Q : δ → Hp → Prop} (h : Post K R2 W σ m H (r.bind k) Q) :
    Post K R W σ m H r fun v H1 => ∃ m1 A1 d, Ext m H m1 H1 ∧ Rel K m1 A1 H1 ∧ R m1 H1 d v ∧ Post K R2 W σ m1 H1 (k d A1) Q := by
  cases r with
  | ok d A' => exact fun m' H' v e R' r' => ⟨m', A', d, e, R', r', Post.mono e h⟩
  | exc C fs A' => exact h
  | no => exact h
end

/-! ### judgements -/
def tE (K : PySem.W.Frag) (W : WX) (me : ME) : TE := fun σ H Q => ∃ m A ρ, Rel K m A H ∧ REnv K m H ρ σ ∧ Post K (RD K) W σ m H (me ρ A) Q
def tT (K : PySem.W.Frag) (W : WX) (me : MT) : TT := fun σ H Q => ∃ m A ρ, Rel K m A H ∧ REnv K m H ρ σ ∧ Post K (fun _ _ a b => a = b) W σ m H (me ρ A) Q
def tA (K : PySem.W.Frag) (W : WX) (me : MA) : TA := fun σ H Q => ∃ m A ρ, Rel K m A H ∧ REnv K m H ρ σ ∧ Post K (RDs K) W σ m H (me ρ A) Q
def tS (K : PySem.W.Frag) (W : WX) (ms : MS) : TS := fun D σ H => ∃ m A ρ, Rel K m A H ∧ REnv K m H ρ σ ∧ PostS K W m H (ms ρ A) D
abbrev DE (X : Cx) (W : WX) (e : Expr) (me : ME) : Prop := PE X e (tE X.K W me)
abbrev DT (X : Cx) (W : WX) (e : Expr) (me : MT) : Prop := PT X e (tT X.K W me)
abbrev DW (X : Cx) (W : WX) (e : Expr) (me : MT) : Prop := PW X e (tT X.K W me)
abbrev DA (X : Cx) (W : WX) (es : List Expr) (me : MA) : Prop := PA X es (tA X.K W me)
abbrev DS (X : Cx) (W : WX) (st : Stmt) (ms : MS) : Prop := PS X st (tS X.K W ms)
abbrev DSs (X : Cx) (W : WX) (st : List Stmt) (ms : MS) : Prop := PSs X st (tS X.K W ms)
theorem PEi {X : Cx} {e : Expr} {t t' : TE} (h : PE X e t) (q : ∀ σ H Q, t' σ H Q → t σ H Q) : PE X e t' := ⟨fun pins s σ H Q I w => h.run pins s σ H Q I (q σ H Q w)⟩
theorem PTi {X : Cx} {e : Expr} {t t' : TT} (h : PT X e t) (q : ∀ σ H Q, t' σ H Q → t σ H Q) : PT X e t' := ⟨fun pins s σ H Q I w => h.run pins s σ H Q I (q σ H Q w)⟩
theorem PWi {X : Cx} {e : Expr} {t t' : TT} (h : PW X e t) (q : ∀ σ H Q, t' σ H Q → t σ H Q) : PW X e t' := ⟨fun wh pins s σ H Q I w => h.run wh pins s σ H Q I (q σ H Q w)⟩
theorem PAi {X : Cx} {e : List Expr} {t t' : TA} (h : PA X e t) (q : ∀ σ H Q, t' σ H Q → t σ H Q) : PA X e t' := ⟨fun pos pins s σ H Q I w => h.run pos pins s σ H Q I (q σ H Q w)⟩
theorem PSi {X : Cx} {e : Stmt} {t t' : TS} (h : PS X e t) (q : ∀ D σ H, t' D σ H → t D σ H) : PS X e t' := ⟨fun pins s σ H D I w => h.run pins s σ H D I (q D σ H w)⟩
theorem PSsi {X : Cx} {e : List Stmt} {t t' : TS} (h : PSs X e t) (q : ∀ D σ H, t' D σ H → t D σ H) : PSs X e t' := ⟨fun pins s σ H D I w => h.run pins s σ H D I (q D σ H w)⟩

section
variable {K : PySem.W.Frag} {W : WX} {σ : L2.St} {m : Mp} {A : AH} {ρ : Env} {H : Hp} {α β γ : Type}
/-- first an expression, then k -/
theorem tE.bind {R2 : Mp → Hp → γ → β → Prop} {me : ME} {k : D → AH → Res γ} {Q : β → Hp → Prop} {T : V → Hp → Prop} (R : Rel K m A H) (E : REnv K m H ρ σ) (h : Post K R2 W σ m H ((me ρ A).bind k) Q)
    (q : ∀ m1 A1 d v H1, Ext m H m1 H1 → Rel K m1 A1 H1 → REnv K m1 H1 ρ σ → RD K m1 H1 d v → Post K R2 W σ m1 H1 (k d A1) Q → T v H1) : tE K W me σ H T :=
  ⟨m, A, ρ, R, E, Post.imp (Post.bind h) fun v H1 ⟨m1, A1, d, e, R1, r, p⟩ => q m1 A1 d v H1 e R1 (E.mono e) r p⟩
theorem tT.bind {R2 : Mp → Hp → γ → β → Prop} {me : MT} {k : Bool → AH → Res γ} {Q : β → Hp → Prop} {T : Bool → Hp → Prop} (R : Rel K m A H) (E : REnv K m H ρ σ) (h : Post K R2 W σ m H ((me ρ A).bind k) Q)
    (q : ∀ m1 A1 b H1, Ext m H m1 H1 → Rel K m1 A1 H1 → REnv K m1 H1 ρ σ → Post K R2 W σ m1 H1 (k b A1) Q → T b H1) : tT K W me σ H T :=
  ⟨m, A, ρ, R, E, Post.imp (Post.bind (R := fun _ _ a b => a = b) h) fun v H1 ⟨m1, A1, d, e, R1, r, p⟩ => by subst r; exact q m1 A1 _ H1 e R1 (E.mono e) p⟩
theorem tA.bind {R2 : Mp → Hp → γ → β → Prop} {me : MA} {k : List D → AH → Res γ} {Q : β → Hp → Prop} {T : List V → Hp → Prop} (R : Rel K m A H) (E : REnv K m H ρ σ) (h : Post K R2 W σ m H ((me ρ A).bind k) Q)
    (q : ∀ m1 A1 ds vs H1, Ext m H m1 H1 → Rel K m1 A1 H1 → REnv K m1 H1 ρ σ → RDs K m1 H1 ds vs → Post K R2 W σ m1 H1 (k ds A1) Q → T vs H1) : tA K W me σ H T :=
  ⟨m, A, ρ, R, E, Post.imp (Post.bind h) fun v H1 ⟨m1, A1, d, e, R1, r, p⟩ => q m1 A1 d v H1 e R1 (E.mono e) r p⟩
/-- the end: a value, nothing changed -/
theorem Post.here {R : Mp → Hp → α → β → Prop} {d : α} {v : β} {Q : β → Hp → Prop} (R1 : Rel K m A H) (r : R m H d v) (h : Post K R W σ m H (.ok d A) Q) : Q v H := h m H v (Ext.refl m H) R1 r
end
end DM
end
section
set_option maxHeartbeats 2000000
namespace DM
open PySem PySem.Spec PyProof.Rows L2
section
variable {X : Cx} {W : WX} {a b c e : Expr} {es : List Expr} {ma mb mc me : ME} {pos p : Pos}
/-! ### names, constants -/
def mVar (i : Nat) : ME := fun ρ A => match ρ[i]? with | some (some d) => .ok d A | _ => .no
def mK (d : D) : ME := fun _ A => .ok d A
theorem d_var (i : Nat) {x : Str} (hN : X.N[i]? = some x := by rfl) (hv : Vis X.env.scope x := by first | exact Or.inl rfl | exact Or.inr (Or.inl rfl) | exact Or.inr (Or.inr rfl)) (hd : (x == ("__debug__" : Str)) = false := by decide)
    (hcd : (x == ("__classdict__" : Str)) = false := by decide) : DE X W (.Name x pos) (mVar i) := PEi (pe_var hN hv hd hcd) fun σ H Q ⟨m, A, ρ, R, E, h⟩ => by
  unfold mVar at h
  split at h
  · rename_i d hd
    obtain ⟨v, h1, h2⟩ := E.2 i d hd
    exact ⟨v, h1, Post.here R h2 h⟩
  · exact h.elim
theorem d_int {i : Int} {j : Nat} : DE X W (.Constant (.int i) j pos) (mK (.int i)) := PEi pe_int fun σ H Q ⟨m, A, ρ, R, E, h⟩ => Post.here R (.int i) h
theorem d_bl {i : Bool} {j : Nat} : DE X W (.Constant (.bool i) j pos) (mK (.bl i)) := PEi pe_bl fun σ H Q ⟨m, A, ρ, R, E, h⟩ => Post.here R (.bl i) h
theorem d_non {j : Nat} : DE X W (.Constant .none j pos) (mK .non) := PEi pe_non fun σ H Q ⟨m, A, ρ, R, E, h⟩ => Post.here R .non h
theorem d_str {i : Str} {j : Nat} : DE X W (.Constant (.str i) j pos) (mK (.str i)) := PEi pe_str fun σ H Q ⟨m, A, ρ, R, E, h⟩ => Post.here R (.str i) h
/-- a module's number, text .. -/
theorem d_glob {x : Str} {d : D} {v : V} {u : Value} (hg : Gl X x) (hm : X.mg x = some u) (r : RelV v u) (q : ∀ m H, RD X.K m H d v) (hd : (x == ("__debug__" : Str)) = false := by decide) : DE X W (.Name x pos) (mK d) :=
  PEi (pe_glob hg hm r hd) fun σ H Q ⟨m, A, ρ, R, E, h⟩ => Post.here R (q m H) h

theorem d_gint {x : Str} {i : Int} {t : Tok} (hm : X.mg x = some (.int i t)) (hg : Gl X x := by rfl) (hd : (x == ("__debug__" : Str)) = false := by decide) : DE X W (.Name x pos) (mK (.int i)) := d_glob hg hm (v := .int i) ⟨t, rfl⟩ (fun _ _ => .int i) hd
/-! ### two-place operations -/
def OpD (K : PySem.W.Frag) (f : D → D → AH → Res D) (r : R2) : Prop :=
  ∀ (W : WX) (σ : L2.St) (m : Mp) (A : AH) (H : Hp) (x y : V) (d e : D) (Q : VK), Rel K m A H → RD K m H d x → RD K m H e y → Post K (RD K) W σ m H (f d e A) Q → r x y H Q
def mOp (f : D → D → AH → Res D) (ma mb : ME) : ME := fun ρ A => (ma ρ A).bind fun x A1 => (mb ρ A1).bind fun y A2 => f x y A2
theorem tOpD {K : PySem.W.Frag} {f : D → D → AH → Res D} {r : R2} (hf : OpD K f r) {σ : L2.St} {H : Hp} {Q : VK} (h : tE K W (mOp f ma mb) σ H Q) : tOp r (tE K W ma) (tE K W mb) σ H Q := by
  obtain ⟨m, A, ρ, R, E, h⟩ := h
  exact tE.bind R E h fun m1 A1 d v H1 e1 R1 E1 r1 h1 => tE.bind R1 E1 h1 fun m2 A2 d2 v2 H2 e2 R2 E2 r2 h2 => hf W σ m2 A2 H2 v v2 d d2 Q R2 (RD.mono e2 _ _ r1) r2 h2
theorem d_op {op : Operator} {f : D → D → AH → Res D} {r : R2} (ho : OpR X (binaryOp op) r) (hf : OpD X.K f r) (ha : DE X W a ma) (hb : DE X W b mb) : DE X W (.BinOp a op b pos) (mOp f ma mb) :=
  PEi (pe_op ho ha hb) fun _ _ _ h => tOpD hf h
/-- ints in -/
def fI (C : Int → Int → Prop) [∀ i j, Decidable (C i j)] (g : Int → Int → D) : D → D → AH → Res D := fun d e A => match d, e with
  | .int i, .int j => if C i j then .ok (g i j) A else .no
  | _, _ => .no
theorem fI_ok {K : PySem.W.Frag} {C C' : Int → Int → Prop} [∀ i j, Decidable (C i j)] {g : Int → Int → D} {g' : Int → Int → V} (hC : ∀ i j, C i j → C' i j) (hg : ∀ m H i j, RD K m H (g i j) (g' i j)) : OpD K (fI C g) (rI C' g') := by
  intro W σ m A H x y d e Q R hx hy h
  unfold fI at h
  split at h
  · rename_i i j
    cases hx; cases hy
    split at h
    · rename_i hc
      exact ⟨i, j, rfl, rfl, hC i j hc, Post.here R (hg m H i j) h⟩
    · exact h.elim
  · exact h.elim
def fI0 (g : Int → Int → D) : D → D → AH → Res D := fun d e A => match d, e with
  | .int i, .int j => .ok (g i j) A
  | _, _ => .no
theorem fI0_ok {K : PySem.W.Frag} {g : Int → Int → D} {g' : Int → Int → V} (hg : ∀ m H i j, RD K m H (g i j) (g' i j)) : OpD K (fI0 g) (rI0 g') := by
  intro W σ m A H x y d e Q R hx hy h
  unfold fI0 at h
  split at h
  · rename_i i j
    cases hx; cases hy
    exact ⟨i, j, rfl, rfl, Post.here R (hg m H i j) h⟩
  · exact h.elim
instance (i j : Int) : Decidable (CMul i j) := by unfold CMul; infer_instance
instance (i j : Int) : Decidable (CPow i j) := by unfold CPow; infer_instance
instance (i j : Int) : Decidable (CDiv i j) := by unfold CDiv; infer_instance
instance (i j : Int) : Decidable (CDivW i j) := by unfold CDivW; infer_instance
theorem cdw_of {i j : Int} (h : CDiv i j) : CDivW i j := wide_div (b := 30) h.1 (by have := h.1; have := h.2; omega) (by decide) (by decide)
theorem cdw_big {i j : Int} (h0 : 0 < j) (h1 : j < 1180591620717411303424) : CDivW i j := wide_div (b := 70) h0 (by omega) (by decide) (by decide)
def fSub : D → D → AH → Res D := fI0 fun i j => .int (i - j)
def fDiv : D → D → AH → Res D := fI CDivW fun i j => .int (i / j)
def fMod : D → D → AH → Res D := fI (fun _ j => 0 < j) fun i j => .int (i % j)
def fPow : D → D → AH → Res D := fI CPow fun i j => .int (i ^ j.toNat)
def fShr : D → D → AH → Res D := fI (fun _ j => 0 ≤ j) fun i j => .int (i / 2 ^ j.toNat)
def fShl : D → D → AH → Res D := fI CPow fun i j => .int (i * 2 ^ j.toNat)
def fAnd : D → D → AH → Res D := fI0 fun i j => .int (Builtin.bitAnd i j)
theorem d_sub (ha : DE X W a ma) (hb : DE X W b mb) : DE X W (.BinOp a .Sub b pos) (mOp fSub ma mb) := d_op op_sub (fI0_ok fun _ _ _ _ => .int _) ha hb
theorem d_div (ha : DE X W a ma) (hb : DE X W b mb) : DE X W (.BinOp a .FloorDiv b pos) (mOp fDiv ma mb) := d_op op_fdivW (fI_ok (fun _ _ h => h) fun _ _ _ _ => .int _) ha hb
theorem d_mod (ha : DE X W a ma) (hb : DE X W b mb) : DE X W (.BinOp a .Mod b pos) (mOp fMod ma mb) := d_op op_mod (fI_ok (fun _ _ h => h) fun _ _ _ _ => .int _) ha hb
theorem d_pow (ha : DE X W a ma) (hb : DE X W b mb) : DE X W (.BinOp a .Pow b pos) (mOp fPow ma mb) := d_op op_pow (fI_ok (fun _ _ h => h) fun _ _ _ _ => .int _) ha hb
theorem d_shl (ha : DE X W a ma) (hb : DE X W b mb) : DE X W (.BinOp a .LShift b pos) (mOp fShl ma mb) := d_op op_shl (fI_ok (fun _ _ h => h) fun _ _ _ _ => .int _) ha hb
theorem d_and (ha : DE X W a ma) (hb : DE X W b mb) : DE X W (.BinOp a .BitAnd b pos) (mOp fAnd ma mb) := d_op op_and (fI0_ok fun _ _ _ _ => .int _) ha hb

/-! ### a new object that is a value -/
theorem Rel.there {K : PySem.W.Frag} {m : Mp} {A : AH} {H : Hp} (R : Rel K m A H) {q : Addr} (hq : q ∈ m.1) : ∃ (n : Nat) (o : AO), m.1[n]? = some q ∧ A[n]? = some o ∧ ObjR K m H o q := by
  obtain ⟨n, hn, e⟩ := List.mem_iff_getElem.mp hq
  have hA : A[n]? = some (A[n]'(by rw [← R.len]; exact hn)) := List.getElem?_eq_getElem _
  obtain ⟨a, h1, h2⟩ := R.obj n _ hA
  have h0 : m.1[n]? = some q := by rw [List.getElem?_eq_getElem hn, e]
  rw [h0] at h1; cases h1
  exact ⟨n, _, h0, hA, h2⟩
theorem ObjR.keep {K : PySem.W.Frag} {m m' : Mp} {H H' : Hp} (e : Ext m H m' H') {o : AO} {q : Addr} (hq : H' q = H q) (h : ObjR K m H o q) : ObjR K m' H' o q := ObjR.move (fun _ _ => e.get) (fun _ _ => e.out) hq h
theorem Rel.out {K : PySem.W.Frag} {m : Mp} {A : AH} {H : Hp} (R : Rel K m A H) {q : Addr} (h : H q = none) : Out m q := ⟨fun hq => by
  obtain ⟨n, o, _, _, r⟩ := R.there hq
  exact r.held h, fun hq => R.pv q hq h⟩
theorem held_keep {H H' : Hp} (k : ∀ p o, H p = some o → H' p = some o) {q : Addr} (h : H q ≠ none) : H' q ≠ none := by
  cases z : H q with
  | none => exact absurd z h
  | some u => rw [k q u z]; exact fun y => nomatch y
/-- the numbered objects as they were, something else new -/
theorem Rel.beside {K : PySem.W.Frag} {m : Mp} {A : AH} {H H' : Hp} (R : Rel K m A H) (k : ∀ p o, H p = some o → H' p = some o) : Rel K m A H' ∧ Ext m H m H' := by
  have e : Ext m H m H' := ⟨⟨[], (List.append_nil m.1).symm⟩, fun _ h => h, fun _ h => .inl h, fun _ h => .inl h, fun p o h _ => k p o h⟩
  refine ⟨⟨R.len, R.nd, fun p hp => held_keep k (R.pv p hp), fun n o hn => ?_⟩, e⟩
  obtain ⟨q, h1, h2⟩ := R.obj n o hn
  refine ⟨q, h1, h2.keep e ?_⟩
  cases z : H q with
  | none => exact absurd z h2.held
  | some u => exact k q u z
theorem Rel.new {K : PySem.W.Frag} {m : Mp} {A : AH} {H : Hp} (R : Rel K m A H) {q : Addr} (h : H q = none) (o : HO) : Rel K m A (upd H q o) ∧ Ext m H m (upd H q o) :=
  R.beside fun p u z => by rw [upd_ne (ne_of_none z h)]; exact z
/-- one of them changed -/
theorem Rel.write {K : PySem.W.Frag} {m : Mp} {A : AH} {H H' : Hp} (R : Rel K m A H) {n : Nat} {q : Addr} {o : AO} (hn : m.1[n]? = some q) (k : ∀ p u, p ≠ q → H p = some u → H' p = some u) (ho : Ext m H m H' → ObjR K m H' o q) : Rel K m (A.set n o) H' ∧ Ext m H m H' := by
  have hm : q ∈ m.1 := List.mem_of_getElem? hn
  have e : Ext m H m H' := ⟨⟨[], (List.append_nil m.1).symm⟩, fun _ h => h, fun _ h => .inl h, fun _ h => .inl h, fun p u h hp => k p u (fun z => hp (by rw [z]; exact hm)) h⟩
  refine ⟨⟨by rw [List.length_set]; exact R.len, R.nd, fun p hp z => ?_, fun j u hj => ?_⟩, e⟩
  · by_cases hpq : p = q
    · subst hpq
      exact (ho e).held z
    · cases y : H p with
      | none => exact R.pv p hp y
      | some u => rw [k p u hpq y] at z; cases z
  · by_cases hjn : n = j
    · subst hjn
      have hl : n < A.length := by rw [← R.len]; exact (List.getElem?_eq_some_iff.mp hn).1
      rw [List.getElem?_set_self hl] at hj; cases hj
      exact ⟨q, hn, ho e⟩
    · rw [List.getElem?_set_ne hjn] at hj
      obtain ⟨p, h1, h2⟩ := R.obj j u hj
      refine ⟨p, h1, h2.keep e ?_⟩
      have hpq : p ≠ q := fun z => by
        subst z
        obtain ⟨l1, e1⟩ := List.getElem?_eq_some_iff.mp h1
        obtain ⟨l2, e2⟩ := List.getElem?_eq_some_iff.mp hn
        exact hjn ((List.getElem_inj R.nd).mp (e2.trans e1.symm))
      cases z : H p with
      | none => exact absurd z h2.held
      | some w => exact k p w hpq z
/-- a new one -/
theorem Rel.push {K : PySem.W.Frag} {m : Mp} {A : AH} {H H' : Hp} (R : Rel K m A H) {q : Addr} {o : AO} (h : H q = none) (k : ∀ p u, H p = some u → H' p = some u) (ho : Ext m H (m.1 ++ [q], m.2) H' → ObjR K (m.1 ++ [q], m.2) H' o q) : Rel K (m.1 ++ [q], m.2) (A ++ [o]) H' ∧ Ext m H (m.1 ++ [q], m.2) H' := by
  have e : Ext m H (m.1 ++ [q], m.2) H' := ⟨⟨[q], rfl⟩, fun _ h => h, fun _ h => .inl h, fun p hp => (List.mem_append.mp hp).elim .inl fun z => .inr (by rw [List.mem_singleton.mp z]; exact h), fun p u z _ => k p u z⟩
  refine ⟨⟨by rw [List.length_append, List.length_append, R.len]; rfl, List.nodup_append.mpr ⟨R.nd, by simp, fun x hx y hy z => (R.out h).1 (by rw [← List.mem_singleton.mp hy, ← z]; exact hx)⟩, fun p hp => held_keep k (R.pv p hp), fun n u hn => ?_⟩, e⟩
  by_cases hl : n < A.length
  · rw [List.getElem?_append_left hl] at hn
    obtain ⟨p, h1, h2⟩ := R.obj n u hn
    refine ⟨p, e.get h1, h2.keep e ?_⟩
    cases z : H p with
    | none => exact absurd z h2.held
    | some w => exact k p w z
  · rw [List.getElem?_append_right (by omega)] at hn
    have h0 : n - A.length = 0 := by
      have := (List.getElem?_eq_some_iff.mp hn).1
      simp at this; omega
    rw [h0] at hn
    cases hn
    refine ⟨q, ?_, ho e⟩
    show (m.1 ++ [q])[n]? = some q
    rw [List.getElem?_append_right (by rw [R.len]; omega), R.len, h0]; rfl
theorem tup_new {K : PySem.W.Frag} {m : Mp} {A : AH} {H : Hp} {σ : L2.St} {ds : List D} {vs : List V} {Q : VK} (R : Rel K m A H) (r : RDs K m H ds vs) (h : Post K (RD K) W σ m H (.ok (.tup ds) A) Q) : ∀ p us, H p = none → Q (.ref p) (upd H p (plH us vs)) := fun p us hp =>
  let ⟨R1, e1⟩ := R.new hp (plH us vs)
  h m _ _ e1 R1 (.tup (.inl ⟨us, upd_same, R.out hp⟩) (RDs.mono e1 _ _ r))
theorem lst_new {K : PySem.W.Frag} {m : Mp} {A : AH} {H : Hp} {σ : L2.St} {ds : List D} {vs : List V} {Q : VK} (R : Rel K m A H) (r : RDs K m H ds vs) (h : Post K (RD K) W σ m H (.ok (.lst ds) A) Q) : ∀ p, H p = none → Q (.ref p) (upd H p (.lst vs)) := fun p hp =>
  let ⟨R1, e1⟩ := R.new hp (.lst vs)
  h m _ _ e1 R1 (.lst (.inl ⟨.inl upd_same, R.out hp⟩) (RDs.mono e1 _ _ r))
theorem ref_new {K : PySem.W.Frag} {m : Mp} {A : AH} {H : Hp} {σ : L2.St} {ds : List D} {vs : List V} {Q : VK} (R : Rel K m A H) (r : RDs K m H ds vs) (h : Post K (RD K) W σ m H (.ok (.ref A.length) (A ++ [.lst ds])) Q) : ∀ p, H p = none → Q (.ref p) (upd H p (.lst vs)) := fun p hp =>
  let ⟨R1, e1⟩ := R.push (H' := upd H p (.lst vs)) (o := .lst ds) hp (fun q u z => by rw [upd_ne (ne_of_none z hp)]; exact z) fun e => ⟨vs, upd_same, RDs.mono e _ _ r⟩
  h _ _ _ e1 R1 (.ref (by rw [← R.len]; simp))
/-! ### a + b -/
def fAdd : D → D → AH → Res D := fun d e A => match d, e with
  | .int i, .int j => .ok (.int (i + j)) A
  | .str x, .str y => if x.length + y.length ≤ 16777216 then .ok (.str (x ++ y)) A else .no
  | .tup xs, .tup ys => if xs.length + ys.length ≤ 16777216 then .ok (.tup (xs ++ ys)) A else .no
  | .lst xs, .lst ys => if xs.length + ys.length ≤ 16777216 then .ok (.lst (xs ++ ys)) A else .no
  | _, _ => .no
def rCatL (K : PySem.W.Frag) : R2 := fun x y H Q => ∃ l b xs zs, x = .ref l ∧ y = .ref b ∧ SqL K H l xs ∧ SqL K H b zs ∧ xs.length + zs.length ≤ sizeLine ∧ ∀ p, H p = none → Q (.ref p) (upd H p (.lst (xs ++ zs)))
theorem fAdd_ok {K : PySem.W.Frag} : OpD K fAdd (fun x y H Q => rI0 (fun i j => .int (i + j)) x y H Q ∨ (∃ i j, x = .str i ∧ y = .str j ∧ i.length + j.length ≤ sizeLine ∧ Q (.str (i ++ j)) H) ∨ rCatP K x y H Q ∨ rCatL K x y H Q) := by
  intro W σ m A H x y d e Q R hx hy h
  have sz : (sizeLine : Nat) = 16777216 := sizeLine_eq
  unfold fAdd at h
  split at h
  · rename_i i j
    cases hx; cases hy
    exact .inl ⟨i, j, rfl, rfl, Post.here R (.int _) h⟩
  · rename_i i j
    cases hx; cases hy
    split at h
    · rename_i hz
      exact .inr (.inl ⟨i, j, rfl, rfl, by rw [sz]; exact hz, Post.here R (.str _) h⟩)
    · exact h.elim
  · rename_i xs ys
    cases hx with
    | tup sx rx =>
      cases hy with
      | tup sy ry =>
        rename_i a vs b ws
        split at h
        · rename_i hz
          refine .inr (.inr (.inl ⟨a, b, vs, ws, rfl, rfl, sx.sq, sy.sq, by rw [sz, ← rx.length, ← ry.length]; exact hz, fun e0 => ?_, fun _ e0 => ?_, fun _ _ => tup_new R (rx.append ry) h⟩))
          · subst e0
            cases rx
            exact Post.here R (.tup sy ry) h
          · subst e0
            cases ry
            rw [List.append_nil] at h
            exact Post.here R (.tup sx rx) h
        · exact h.elim
  · rename_i xs ys
    cases hx with
    | lst sx rx =>
      cases hy with
      | lst sy ry =>
        rename_i a vs b ws
        split at h
        · rename_i hz
          exact .inr (.inr (.inr ⟨a, b, vs, ws, rfl, rfl, sx.sq, sy.sq, by rw [sz, ← rx.length, ← ry.length]; exact hz, lst_new R (rx.append ry) h⟩))
        · exact h.elim
  · exact h.elim
/-- two lists that are read, joined -/
theorem op_catL : OpR X (binaryOp .Add) (rCatL X.K) := by
  intro pins s σ H x y v u Q I rx ry h
  obtain ⟨l, b, xs, zs, rfl, rfl, hx, hz, hl, q⟩ := h
  cases rx; cases ry
  obtain ⟨i1, r1, ⟨o1, n1, g1, c1, d1, t1⟩, l1⟩ := I.list hx
  obtain ⟨i2, r2, ⟨o2, n2, g2, c2, d2, t2⟩, l2⟩ := I.list hz
  obtain ⟨oc1, od1, ot1, os1⟩ := o1
  obtain ⟨oc2, od2, ot2, os2⟩ := o2
  simp only at c1 d1 t1 c2 d2 t2
  subst c1 d1 t1 c2 d2 t2
  have e1 := r1.length
  have e2 := r2.length
  refine concat_meets ⟨_, g1, rfl⟩ ⟨_, g2, rfl⟩ noFill_list_add seq_list_add PySem.F.slot_list_add PySem.F.entry_list_add (PySem.F.args_list_add_2 _ _)
    (list_addW l b i1.toArray i2.toArray n1 n2 none none os1 os2 (by rw [List.size_toArray, List.size_toArray]; omega)) ⟨g1, g2, ?_⟩
  rw [show i1.toArray ++ i2.toArray = (i1 ++ i2).toArray by simp]
  exact ⟨.ref _, _, I.lnew (t' := s.toks) (r1.append r2) (by rw [List.length_append]; omega), rfl, q _ I.fresh⟩
end
end DM
end
section
set_option maxHeartbeats 2000000
namespace DM
open PySem PySem.Spec PyProof.Rows L2
/-! ### plain data -/
mutual
def toPy : D → Option PyData
  | .non => some .none
  | .bl b => some (.bool b)
  | .int i => some (.int i)
  | .str x => some (.str x)
  | .tup xs => (toPys xs).map .tuple
  | .qtup xs => (toPys xs).map .tuple
  | .lst xs => (toPys xs).map .list
  | .ty _ => none
  | .abs _ => none
  | .cl _ => none
  | .ref _ => none
  | .exv _ _ _ _ => none
  | .fnv _ _ _ _ _ => none
def toPys : List D → Option (List PyData)
  | [] => some []
  | x :: xs => match toPy x, toPys xs with
    | some d, some ds => some (d :: ds)
    | _, _ => none
end
mutual
def toPyG (g : Nat → Option PyData) : D → Option PyData
  | .non => some .none
  | .bl b => some (.bool b)
  | .int i => some (.int i)
  | .str x => some (.str x)
  | .tup xs => (toPysG g xs).map .tuple
  | .qtup xs => (toPysG g xs).map .tuple
  | .lst xs => (toPysG g xs).map .list
  | .ty _ => none
  | .abs _ => none
  | .cl _ => none
  | .ref n => g n
  | .exv _ _ _ _ => none
  | .fnv _ _ _ _ _ => none
def toPysG (g : Nat → Option PyData) : List D → Option (List PyData)
  | [] => some []
  | x :: xs => match toPyG g x, toPysG g xs with
    | some d, some ds => some (d :: ds)
    | _, _ => none
end
/-- changing lists, within one another k deep -/
def refPy (A : AH) : Nat → Nat → Option PyData
  | 0, _ => none
  | k + 1, n => match A[n]? with
    | some (.lst xs) => (toPysG (refPy A k) xs).map .list
    | _ => none
def toPyA (A : AH) (d : D) : Option PyData := match toPy d with
  | some p => some p
  | none => toPyG (refPy A 3) d
mutual
theorem RD.dp {K : PySem.W.Frag} {m : Mp} {H : Hp} : ∀ (d : D) (v : V) (p : PyData), RD K m H d v → toPy d = some p → Dp K H v p
  | .non, _, _, h, e => by cases h; cases e; exact .non
  | .bl b, _, _, h, e => by cases h; cases e; exact .bl b
  | .int b, _, _, h, e => by cases h; cases e; exact .int b
  | .str b, _, _, h, e => by cases h; cases e; exact .str b
  | .tup xs, _, _, h, e => by
    cases h with
    | tup s r =>
      simp only [toPy, Option.map_eq_some_iff] at e
      obtain ⟨ds, e1, rfl⟩ := e
      exact .tup s.sq (RDs.dp xs _ ds r e1)
  | .qtup xs, _, _, h, e => by
    cases h with
    | qtup s n r =>
      simp only [toPy, Option.map_eq_some_iff] at e
      obtain ⟨ds, e1, rfl⟩ := e
      exact .tup (.inl s) (RDs.dp xs _ ds r e1)
  | .lst xs, _, _, h, e => by
    cases h with
    | lst s r =>
      simp only [toPy, Option.map_eq_some_iff] at e
      obtain ⟨ds, e1, rfl⟩ := e
      exact .lst s.sq (RDs.dp xs _ ds r e1)
  | .ty _, _, _, _, e => by cases e
  | .abs _, _, _, _, e => by cases e
  | .cl _, _, _, _, e => by cases e
  | .ref _, _, _, _, e => by cases e
  | .exv _ _ _ _, _, _, _, e => by cases e
  | .fnv _ _ _ _ _, _, _, _, e => by cases e
theorem RDs.dp {K : PySem.W.Frag} {m : Mp} {H : Hp} : ∀ (ds : List D) (vs : List V) (ps : List PyData), RDs K m H ds vs → toPys ds = some ps → DpAll K H vs ps
  | [], _, _, h, e => by cases h; cases e; exact .nil
  | d :: ds, _, _, h, e => by
    cases h with
    | cons h r =>
      unfold toPys at e
      split at e
      · rename_i p ps e1 e2
        cases e
        exact .cons (RD.dp d _ p h e1) (RDs.dp ds _ ps r e2)
      · cases e
end
mutual
theorem RD.dpG {K : PySem.W.Frag} {m : Mp} {H : Hp} {g : Nat → Option PyData} (hg : ∀ n a p, m.1[n]? = some a → g n = some p → Dp K H (.ref a) p) : ∀ (d : D) (v : V) (p : PyData), RD K m H d v → toPyG g d = some p → Dp K H v p
  | .non, _, _, h, e => by cases h; cases e; exact .non
  | .bl b, _, _, h, e => by cases h; cases e; exact .bl b
  | .int b, _, _, h, e => by cases h; cases e; exact .int b
  | .str b, _, _, h, e => by cases h; cases e; exact .str b
  | .tup xs, _, _, h, e => by
    cases h with
    | tup s r =>
      simp only [toPyG, Option.map_eq_some_iff] at e
      obtain ⟨ds, e1, rfl⟩ := e
      exact .tup s.sq (RDs.dpG hg xs _ ds r e1)
  | .qtup xs, _, _, h, e => by
    cases h with
    | qtup s n r =>
      simp only [toPyG, Option.map_eq_some_iff] at e
      obtain ⟨ds, e1, rfl⟩ := e
      exact .tup (.inl s) (RDs.dpG hg xs _ ds r e1)
  | .lst xs, _, _, h, e => by
    cases h with
    | lst s r =>
      simp only [toPyG, Option.map_eq_some_iff] at e
      obtain ⟨ds, e1, rfl⟩ := e
      exact .lst s.sq (RDs.dpG hg xs _ ds r e1)
  | .ty _, _, _, _, e => by cases e
  | .abs _, _, _, _, e => by cases e
  | .cl _, _, _, _, e => by cases e
  | .ref n, _, _, h, e => by cases h with | ref hm => exact hg n _ _ hm e
  | .exv _ _ _ _, _, _, _, e => by cases e
  | .fnv _ _ _ _ _, _, _, _, e => by cases e
theorem RDs.dpG {K : PySem.W.Frag} {m : Mp} {H : Hp} {g : Nat → Option PyData} (hg : ∀ n a p, m.1[n]? = some a → g n = some p → Dp K H (.ref a) p) : ∀ (ds : List D) (vs : List V) (ps : List PyData), RDs K m H ds vs → toPysG g ds = some ps → DpAll K H vs ps
  | [], _, _, h, e => by cases h; cases e; exact .nil
  | d :: ds, _, _, h, e => by
    cases h with
    | cons h r =>
      unfold toPysG at e
      split at e
      · rename_i p ps e1 e2
        cases e
        exact .cons (RD.dpG hg d _ p h e1) (RDs.dpG hg ds _ ps r e2)
      · cases e
end
theorem refPy_ok {K : PySem.W.Frag} {m : Mp} {A : AH} {H : Hp} (R : Rel K m A H) : ∀ (k n : Nat) (a : Addr) (p : PyData), m.1[n]? = some a → refPy A k n = some p → Dp K H (.ref a) p
  | 0, _, _, _, _, e => by cases e
  | k + 1, n, a, p, hm, e => by
    unfold refPy at e
    split at e
    · rename_i xs hA
      obtain ⟨q, h1, vs, h2, r⟩ := R.obj n _ hA
      rw [hm] at h1; cases h1
      simp only [Option.map_eq_some_iff] at e
      obtain ⟨ds, e1, rfl⟩ := e
      exact .lst (.inl (.inl h2)) (RDs.dpG (refPy_ok R k) xs _ ds r e1)
    · cases e
theorem RD.dpA {K : PySem.W.Frag} {m : Mp} {A : AH} {H : Hp} {d : D} {v : V} {p : PyData} (R : Rel K m A H) (h : RD K m H d v) (e : toPyA A d = some p) : Dp K H v p := by
  unfold toPyA at e
  split at e
  · rename_i q hq
    cases e
    exact RD.dp _ _ _ h hq
  · exact RD.dpG (refPy_ok R 3) _ _ _ h e

section
variable {X : Cx} {W : WX} {a b c e : Expr} {es : List Expr} {ma mb mc me : ME} {mt mu : MT} {ms : MA} {pos p : Pos}
/-! ### comparisons -/
/-- == -/
def cEq (A : AH) (d e : D) : Option Bool := match d, e with
  | .int i, .int j => some (decide (i = j))
  | .str x, .str y => some (decide (x = y))
  | .bl x, .bl y => some (decide (x = y))
  | d, e => match toPyA A d, toPyA A e with
    | some p, some q => if SeqAt.shaped p = true ∧ SeqAt.shaped q = true then some (PyData.eqv p q) else none
    | _, _ => none
def fEq (neg : Bool) : D → D → AH → Res D := fun d e A => match cEq A d e with
  | some k => .ok (.bl (if neg then !k else k)) A
  | none => .no
theorem cEq_ok {K : PySem.W.Frag} {m : Mp} {A : AH} {H : Hp} {x y : V} {d e : D} {k : Bool} (R : Rel K m A H) (hx : RD K m H d x) (hy : RD K m H e y) (h : cEq A d e = some k) :
    (scal x y = true ∧ k = decide (x = y)) ∨ ∃ p q, Dp K H x p ∧ Dp K H y q ∧ SeqAt.shaped p = true ∧ SeqAt.shaped q = true ∧ k = PyData.eqv p q := by
  unfold cEq at h
  split at h
  · cases hx; cases hy
    cases h
    refine .inl ⟨rfl, ?_⟩
    simp
  · cases hx; cases hy
    cases h
    refine .inl ⟨rfl, ?_⟩
    simp
  · cases hx; cases hy
    cases h
    refine .inl ⟨rfl, ?_⟩
    simp
  · split at h
    · rename_i p q h1 h2
      split at h
      · rename_i hs
        cases h
        exact .inr ⟨p, q, RD.dpA R hx h1, RD.dpA R hy h2, hs.1, hs.2, rfl⟩
      · cases h
    · cases h
theorem fEq_ok {K : PySem.W.Frag} : OpD K (fEq false) (fun x y H Q => rEq x y H Q ∨ rEqD K x y H Q) := by
  intro W σ m A H x y d e Q R hx hy h
  unfold fEq at h
  split at h
  · rename_i k hk
    have q := Post.here R (.bl _) h
    rcases cEq_ok R hx hy hk with ⟨h1, rfl⟩ | ⟨p, q', h1, h2, h3, h4, rfl⟩
    · exact .inl ⟨h1, q⟩
    · exact .inr ⟨p, q', h1, h2, h3, h4, q⟩
  · exact h.elim
theorem fNe_ok {K : PySem.W.Frag} : OpD K (fEq true) (fun x y H Q => rNe x y H Q ∨ rNeD K x y H Q) := by
  intro W σ m A H x y d e Q R hx hy h
  unfold fEq at h
  split at h
  · rename_i k hk
    have q := Post.here R (.bl _) h
    rcases cEq_ok R hx hy hk with ⟨h1, rfl⟩ | ⟨p, q', h1, h2, h3, h4, rfl⟩
    · exact .inl ⟨h1, q⟩
    · exact .inr ⟨p, q', h1, h2, h3, h4, q⟩
  · exact h.elim
/-- is None -/
def isNon : D → Bool
  | .non => true
  | _ => false
def fIsN (neg : Bool) : D → D → AH → Res D := fun d e A => match e with
  | .non => .ok (.bl (if neg then !isNon d else isNon d)) A
  | _ => .no
theorem isNon_ok {K : PySem.W.Frag} {m : Mp} {H : Hp} {d : D} {x : V} (h : RD K m H d x) : isNon d = decide (x = .non) := by
  cases h <;> simp [isNon]
theorem fIsN_ok {K : PySem.W.Frag} : OpD K (fIsN false) (fun x y H Q => y = .non ∧ Q (.bl (decide (x = .non))) H) := by
  intro W σ m A H x y d e Q R hx hy h
  unfold fIsN at h
  split at h
  · cases hy
    rw [← isNon_ok hx]
    exact ⟨rfl, Post.here R (.bl _) h⟩
  · exact h.elim
theorem fNotN_ok {K : PySem.W.Frag} : OpD K (fIsN true) (fun x y H Q => y = .non ∧ Q (.bl (!decide (x = .non))) H) := by
  intro W σ m A H x y d e Q R hx hy h
  unfold fIsN at h
  split at h
  · cases hy
    rw [← isNon_ok hx]
    exact ⟨rfl, Post.here R (.bl _) h⟩
  · exact h.elim
/-- the items of a list, a tuple -/
def seqOf (A : AH) (d : D) : Option (List D) := match d with
  | .tup xs => some xs
  | .lst xs => some xs
  | .ref n => match A[n]? with
    | some (.lst xs) => some xs
    | _ => none
  | _ => none
theorem seqOf_ok {K : PySem.W.Frag} {m : Mp} {A : AH} {H : Hp} {d : D} {v : V} {xs : List D} (R : Rel K m A H) (h : RD K m H d v) (e : seqOf A d = some xs) :
    ∃ a vs, v = .ref a ∧ (SqL K H a vs ∨ SqT K H a vs) ∧ RDs K m H xs vs := by
  unfold seqOf at e
  split at e
  · cases e
    cases h with
    | tup s r => exact ⟨_, _, rfl, .inr s.sq, r⟩
  · cases e
    cases h with
    | lst s r => exact ⟨_, _, rfl, .inl s.sq, r⟩
  · split at e
    · rename_i hA
      cases e
      cases h with
      | ref hm =>
        obtain ⟨q, h1, vs, h2, r⟩ := R.obj _ _ hA
        rw [hm] at h1; cases h1
        exact ⟨_, vs, rfl, .inl (.inl (.inl h2)), r⟩
    · cases e
  · cases e
def fLt : D → D → AH → Res D := fI0 fun i j => .bl (decide (i < j))
def fLe : D → D → AH → Res D := fI0 fun i j => .bl (decide (i ≤ j))
def fGt : D → D → AH → Res D := fI0 fun i j => .bl (decide (j < i))
def fGe : D → D → AH → Res D := fI0 fun i j => .bl (decide (j ≤ i))
theorem fCmp_ok {K : PySem.W.Frag} {g : Int → Int → Bool} : OpD K (fI0 fun i j => .bl (g i j)) (rI0 fun i j => .bl (g i j)) := fI0_ok fun _ _ _ _ => .bl _
/-- a value as a test: a bool -/
def mTst (me : ME) : MT := fun ρ A => (me ρ A).bind fun d A1 => match d with
  | .bl k => .ok k A1
  | _ => .no
theorem d_cmp {op : CmpOp} {f : D → D → AH → Res D} {r : R2} (ho : OpR X (compareOp op) r) (hf : OpD X.K f r) (ha : DE X W a ma) (hb : DE X W b mb) (hm : behindInMarks op b = false := by first | exact nomark _ | rfl) : DE X W (.Compare a [op] [b] pos) (mOp f ma mb) :=
  PEi (pe_cmpR ho ha hb hm) fun _ _ _ h => tOpD hf h
theorem tTstD {K : PySem.W.Frag} {t : TE} {σ : L2.St} {H : Hp} {Q : Bool → Hp → Prop} (ht : ∀ Q' : VK, tE K W me σ H Q' → t σ H Q') (h : tT K W (mTst me) σ H Q) : t σ H fun x H' => ∃ k, x = .bl k ∧ Q k H' := by
  obtain ⟨m, A, ρ, R, E, h⟩ := h
  refine ht _ (tE.bind R E h fun m1 A1 d v H1 e1 R1 E1 r1 h1 => ?_)
  split at h1
  · cases r1
    exact ⟨_, rfl, Post.here R1 rfl h1⟩
  · exact h1.elim
theorem t_cmp {op : CmpOp} {f : D → D → AH → Res D} {r : R2} (ho : OpR X (compareOp op) r) (hf : OpD X.K f r) (ha : DE X W a ma) (hb : DE X W b mb) (hm : behindInMarks op b = false := by first | exact nomark _ | rfl) : DT X W (.Compare a [op] [b] pos) (mTst (mOp f ma mb)) :=
  PTi (pt_cmpR ho ha hb hm) fun _ _ _ h => tTstD (fun _ q => tOpD hf q) h
/-- a < b < c -/
def mChn (f g : D → D → AH → Res D) (ma mb mc : ME) : ME := fun ρ A => (ma ρ A).bind fun x A1 => (mb ρ A1).bind fun y A2 => (f x y A2).bind fun z A3 => match z with
  | .bl true => (mc ρ A3).bind fun w A4 => g y w A4
  | .bl false => .ok (.bl false) A3
  | _ => .no
/-- tests -/
theorem t_val (ha : DE X W a ma) (he : ∀ whole, isTrue a X.env whole = (do let v ← whole; standAt a.pos; holding [v] (truthy v)) := by intro _; rfl) : DT X W a (mTst ma) :=
  PTi (pt_val ha he) fun _ _ _ h => tTstD (fun _ q => q) h
def mAnd (mt mu : MT) : MT := fun ρ A => (mt ρ A).bind fun k A1 => if k = true then mu ρ A1 else .ok false A1
def mOr (mt mu : MT) : MT := fun ρ A => (mt ρ A).bind fun k A1 => if k = true then .ok true A1 else mu ρ A1
def mNot (mt : MT) : MT := fun ρ A => (mt ρ A).bind fun k A1 => .ok (!k) A1
theorem w_and1 (ha : DT X W a mt) : DW X W (.BoolOp .And [a] pos) mt := pw_and1 ha
theorem w_or1 (ha : DT X W a mt) : DW X W (.BoolOp .Or [a] pos) mt := pw_or1 ha
theorem w_and (ha : DT X W a mt) (hb : DW X W (.BoolOp .And (b :: es) pos) mu) : DW X W (.BoolOp .And (a :: b :: es) pos) (mAnd mt mu) :=
  PWi (pw_and ha hb) fun σ H Q ⟨m, A, ρ, R, E, h⟩ => tT.bind R E h fun m1 A1 k H1 e1 R1 E1 h1 => by
    cases k with
    | true => exact ⟨m1, A1, ρ, R1, E1, h1⟩
    | false => exact Post.here R1 rfl h1
theorem w_or (ha : DT X W a mt) (hb : DW X W (.BoolOp .Or (b :: es) pos) mu) : DW X W (.BoolOp .Or (a :: b :: es) pos) (mOr mt mu) :=
  PWi (pw_or ha hb) fun σ H Q ⟨m, A, ρ, R, E, h⟩ => tT.bind R E h fun m1 A1 k H1 e1 R1 E1 h1 => by
    cases k with
    | false => exact ⟨m1, A1, ρ, R1, E1, h1⟩
    | true => exact Post.here R1 rfl h1
theorem t_not (ha : DT X W a mt) : DT X W (.UnaryOp .Not a pos) (mNot mt) :=
  PTi (pt_not ha) fun σ H Q ⟨m, A, ρ, R, E, h⟩ => tT.bind R E h fun m1 A1 k H1 e1 R1 E1 h1 => Post.here R1 rfl h1
/-- as values -/
def mAndV (ma mb : ME) : ME := fun ρ A => (ma ρ A).bind fun d A1 => match d with
  | .bl true => mb ρ A1
  | .bl false => .ok (.bl false) A1
  | _ => .no
def mOrV (ma mb : ME) : ME := fun ρ A => (ma ρ A).bind fun d A1 => match d with
  | .bl true => .ok (.bl true) A1
  | .bl false => mb ρ A1
  | _ => .no
def mNotV (ma : ME) : ME := fun ρ A => (ma ρ A).bind fun d A1 => match d with
  | .bl k => .ok (.bl (!k)) A1
  | _ => .no
theorem d_one {op : BoolOp} (h : DE X W a ma) : DE X W (.BoolOp op [a] pos) ma := pe_one h
theorem d_andV (ha : DE X W a ma) (hb : DE X W (.BoolOp .And (b :: es) pos) mb) : DE X W (.BoolOp .And (a :: b :: es) pos) (mAndV ma mb) :=
  PEi (pe_and ha hb) fun σ H Q ⟨m, A, ρ, R, E, h⟩ => tE.bind R E h fun m1 A1 d v H1 e1 R1 E1 r1 h1 => by
    split at h1
    · cases r1; exact ⟨true, rfl, m1, A1, ρ, R1, E1, h1⟩
    · cases r1; exact ⟨false, rfl, Post.here R1 (.bl _) h1⟩
    · exact h1.elim
theorem d_notV (ha : DE X W a ma) : DE X W (.UnaryOp .Not a pos) (mNotV ma) :=
  PEi (pe_not ha) fun σ H Q ⟨m, A, ρ, R, E, h⟩ => tE.bind R E h fun m1 A1 d v H1 e1 R1 E1 r1 h1 => by
    split at h1
    · cases r1; exact ⟨_, rfl, Post.here R1 (.bl _) h1⟩
    · exact h1.elim
def mIf (mt : MT) (ma mb : ME) : ME := fun ρ A => (mt ρ A).bind fun k A1 => if k = true then ma ρ A1 else mb ρ A1
theorem d_if (hc : DT X W c mt) (ha : DE X W a ma) (hb : DE X W b mb) : DE X W (.IfExp c a b pos) (mIf mt ma mb) :=
  PEi (pe_ifExp hc ha hb) fun σ H Q ⟨m, A, ρ, R, E, h⟩ => tT.bind R E h fun m1 A1 k H1 e1 R1 E1 h1 => by
    cases k with
    | true => exact ⟨m1, A1, ρ, R1, E1, h1⟩
    | false => exact ⟨m1, A1, ρ, R1, E1, h1⟩
/-- - a -/
def mNeg (ma : ME) : ME := fun ρ A => (ma ρ A).bind fun d A1 => match d with
  | .int i => .ok (.int (-i)) A1
  | _ => .no
theorem d_neg (ha : DE X W a ma) : DE X W (.UnaryOp .USub a pos) (mNeg ma) :=
  PEi (pe_un un_neg ha) fun σ H Q ⟨m, A, ρ, R, E, h⟩ => tE.bind R E h fun m1 A1 d v H1 e1 R1 E1 r1 h1 => by
    split at h1
    · cases r1; exact ⟨_, rfl, Post.here R1 (.int _) h1⟩
    · exact h1.elim
/-- the comparisons one writes -/
theorem d_add (ha : DE X W a ma) (hb : DE X W b mb) : DE X W (.BinOp a .Add b pos) (mOp fAdd ma mb) := d_op (op_add.or (op_add_str.or (op_catP.or op_catL))) fAdd_ok ha hb
theorem d_eq (hu : X.A.units + 64 < cLine) (ha : DE X W a ma) (hb : DE X W b mb) : DE X W (.Compare a [.Eq] [b] pos) (mOp (fEq false) ma mb) := d_cmp (op_eq.or (op_eqD hu)) fEq_ok ha hb
theorem t_eq (hu : X.A.units + 64 < cLine) (ha : DE X W a ma) (hb : DE X W b mb) : DT X W (.Compare a [.Eq] [b] pos) (mTst (mOp (fEq false) ma mb)) := t_cmp (op_eq.or (op_eqD hu)) fEq_ok ha hb
theorem t_ne (hu : X.A.units + 64 < cLine) (ha : DE X W a ma) (hb : DE X W b mb) : DT X W (.Compare a [.NotEq] [b] pos) (mTst (mOp (fEq true) ma mb)) := t_cmp (op_ne.or (op_neD hu)) fNe_ok ha hb
theorem t_is (ha : DE X W a ma) (hb : DE X W b mb) : DT X W (.Compare a [.Is] [b] pos) (mTst (mOp (fIsN false) ma mb)) := t_cmp op_isN fIsN_ok ha hb
theorem t_isnt (ha : DE X W a ma) (hb : DE X W b mb) : DT X W (.Compare a [.IsNot] [b] pos) (mTst (mOp (fIsN true) ma mb)) := t_cmp op_notN fNotN_ok ha hb
theorem t_lt (ha : DE X W a ma) (hb : DE X W b mb) : DT X W (.Compare a [.Lt] [b] pos) (mTst (mOp fLt ma mb)) := t_cmp op_lt fCmp_ok ha hb
theorem t_gt (ha : DE X W a ma) (hb : DE X W b mb) : DT X W (.Compare a [.Gt] [b] pos) (mTst (mOp fGt ma mb)) := t_cmp op_gt fCmp_ok ha hb
theorem t_ge (ha : DE X W a ma) (hb : DE X W b mb) : DT X W (.Compare a [.GtE] [b] pos) (mTst (mOp fGe ma mb)) := t_cmp op_ge fCmp_ok ha hb
/-- a chain of two orders of ints -/
theorem chnD {K : PySem.W.Frag} {f g : D → D → AH → Res D} {r r' : R2} (hf : OpD K f r) (hg : OpD K g r') {σ : L2.St} {H : Hp} {Q : VK} (h : tE K W (mChn f g ma mb mc) σ H Q) : tChain r r' (tE K W ma) (tE K W mb) (tE K W mc) σ H Q := by
  obtain ⟨m, A, ρ, R, E, h⟩ := h
  refine tE.bind R E h fun m1 A1 d v H1 e1 R1 E1 r1 h1 => tE.bind R1 E1 h1 fun m2 A2 d2 v2 H2 e2 R2 E2 r2 h2 => ?_
  refine hf W σ m2 A2 H2 v v2 d d2 _ R2 (RD.mono e2 _ _ r1) r2 (Post.imp (Post.bind (R := RD K) h2) fun z H3 ⟨m3, A3, dz, e3, R3, rz, h3⟩ => ?_)
  split at h3
  · cases rz
    refine ⟨true, rfl, ?_⟩
    rw [if_pos rfl]
    exact tE.bind R3 (E2.mono e3) h3 fun m4 A4 d4 v4 H4 e4 R4 E4 r4 h4 => hg W σ m4 A4 H4 v2 v4 d2 d4 Q R4 (RD.mono (e3.trans e4) _ _ r2) r4 h4
  · cases rz
    refine ⟨false, rfl, ?_⟩
    rw [if_neg (by decide)]
    exact Post.here R3 (.bl _) h3
  · exact h3.elim
theorem t_chn {op op' : CmpOp} {f g : D → D → AH → Res D} {r r' : R2} (ho : OpR X (compareOp op) r) (ho' : OpR X (compareOp op') r') (hf : OpD X.K f r) (hg : OpD X.K g r') (ha : DE X W a ma) (hb : DE X W b mb) (hc : DE X W c mc) (hm : lastMarks [op, op'] [b, c] = false := by with_unfolding_all rfl) :
    DT X W (.Compare a [op, op'] [b, c] pos) (mTst (mChn f g ma mb mc)) := PTi (pt_chain ho ho' ha hb hc hm) fun _ _ _ h => tTstD (fun _ q => chnD hf hg q) h
end
end DM
end
section
set_option maxHeartbeats 2000000
namespace DM
open PySem PySem.Spec PyProof.Rows L2
section
variable {X : Cx} {W : WX} {a b c e tg : Expr} {es : List Expr} {ma mb mc me : ME} {mt mu : MT} {ms : MA} {pos p p2 : Pos}
/-! ### argument lists, displays -/
def mNil : MA := fun _ A => .ok [] A
def mCons (me : ME) (ms : MA) : MA := fun ρ A => (me ρ A).bind fun d A1 => (ms ρ A1).bind fun ds A2 => .ok (d :: ds) A2
theorem a_nil : DA X W [] mNil := PAi pa_nil fun σ H Q ⟨m, A, ρ, R, E, h⟩ => Post.here R .nil h
theorem a_cons (ha : DE X W e me) (hr : DA X W es ms) (hs : starEach (e :: es) X.env = (false, eval e X.env) :: starEach es X.env := by rfl) : DA X W (e :: es) (mCons me ms) :=
  PAi (pa_cons ha hr hs) fun σ H Q ⟨m, A, ρ, R, E, h⟩ => tE.bind R E h fun m1 A1 d v H1 e1 R1 E1 r1 h1 => tA.bind R1 E1 h1 fun m2 A2 ds vs H2 e2 R2 E2 r2 h2 => Post.here R2 (.cons (RD.mono e2 _ _ r1) r2) h2
def mTup (ms : MA) : ME := fun ρ A => (ms ρ A).bind fun ds A1 => if ds.length ≤ 1000 then .ok (.tup ds) A1 else .no
def mLst (ms : MA) : ME := fun ρ A => (ms ρ A).bind fun ds A1 => if ds.length ≤ 1000 then .ok (.lst ds) A1 else .no
/-- a list that will change -/
def mNew (ms : MA) : ME := fun ρ A => (ms ρ A).bind fun ds A1 => if ds.length ≤ 1000 then .ok (.ref A1.length) (A1 ++ [.lst ds]) else .no
theorem k1000 {ds : List D} {vs : List V} {K : PySem.W.Frag} {m : Mp} {H : Hp} (r : RDs K m H ds vs) (h : ds.length ≤ 1000) : vs.length ≤ sizeLine := by
  rw [← r.length, sizeLine_eq]; omega
theorem d_tup {x1 : Nat} (h : DA X W es ms) : DE X W (.Tuple es x1 pos) (mTup ms) :=
  PEi (pe_tupP h) fun σ H Q ⟨m, A, ρ, R, E, h⟩ => tA.bind R E h fun m1 A1 ds vs H1 e1 R1 E1 r1 h1 => by
    split at h1
    · rename_i hz
      exact ⟨k1000 r1 hz, tup_new R1 r1 h1⟩
    · exact h1.elim
theorem d_lst (h : DA X W es ms) : DE X W (.List es pos) (mLst ms) :=
  PEi (pe_lst h) fun σ H Q ⟨m, A, ρ, R, E, h⟩ => tA.bind R E h fun m1 A1 ds vs H1 e1 R1 E1 r1 h1 => by
    split at h1
    · rename_i hz
      exact ⟨k1000 r1 hz, lst_new R1 r1 h1⟩
    · exact h1.elim
theorem d_new (h : DA X W es ms) : DE X W (.List es pos) (mNew ms) :=
  PEi (pe_lst h) fun σ H Q ⟨m, A, ρ, R, E, h⟩ => tA.bind R E h fun m1 A1 ds vs H1 e1 R1 E1 r1 h1 => by
    split at h1
    · rename_i hz
      exact ⟨k1000 r1 hz, ref_new R1 r1 h1⟩
    · exact h1.elim
theorem RDs.rep {K : PySem.W.Frag} {m : Mp} {H : Hp} {ds : List D} {vs : List V} (r : RDs K m H ds vs) : ∀ n : Nat, RDs K m H (List.replicate n ds).flatten (List.replicate n vs).flatten
  | 0 => .nil
  | n + 1 => by
    rw [List.replicate_succ, List.replicate_succ, List.flatten_cons, List.flatten_cons]
    exact r.append (RDs.rep r n)
/-! ### built-ins -/
def CallD (K : PySem.W.Frag) (f : List D → AH → Res D) (r : List V → Hp → VK → Prop) : Prop :=
  ∀ (W : WX) (σ : L2.St) (m : Mp) (A : AH) (H : Hp) (xs : List V) (ds : List D) (Q : VK), Rel K m A H → RDs K m H ds xs → Post K (RD K) W σ m H (f ds A) Q → r xs H Q
def mCall (f : List D → AH → Res D) (ms : MA) : ME := fun ρ A => (ms ρ A).bind fun ds A1 => f ds A1
theorem tCB_D {K : PySem.W.Frag} {f : List D → AH → Res D} {r : List V → Hp → VK → Prop} (hf : CallD K f r) {σ : L2.St} {H : Hp} {Q : VK} (h : tE K W (mCall f ms) σ H Q) : tCB r (tA K W ms) σ H Q := by
  obtain ⟨m, A, ρ, R, E, h⟩ := h
  exact tA.bind R E h fun m1 A1 ds vs H1 e1 R1 E1 r1 h1 => hf W σ m1 A1 H1 vs ds Q R1 r1 h1
theorem d_callB {id : String} {x : Str} {f : List D → AH → Res D} {r : List V → Hp → VK → Prop} (hc : CallR X (.builtin id) r) (hf : CallD X.K f r) (hg : Gl X x) (hm : X.mg x = none) (hv : bootBuiltins x = some (.builtin id)) (ha : DA X W (e :: es) ms) (hn : x ≠ "__name__" := by decide)
    (hdb : (x == ("__debug__" : Str)) = false := by decide) (he : starEach (e :: es) X.env = (false, eval e X.env) :: starEach es X.env := by rfl) (hpl : (backTo pos (starEach es X.env)).any (·.1) = false := by rfl) :
    DE X W (.Call (.Name x p) (e :: es) [] pos) (mCall f ms) := PEi (pe_callB hc hg hm hv ha hn hdb he hpl) fun _ _ _ h => tCB_D hf h
theorem d_callTy {T : String} {x : Str} {f : List D → AH → Res D} {r : List V → Hp → VK → Prop} (hc : CallR X (.type T) r) (hf : CallD X.K f r) (hg : Gl X x) (hm : X.mg x = none) (hv : bootBuiltins x = some (.type T)) (ha : DA X W (e :: es) ms) (hn : x ≠ "__name__" := by decide)
    (hdb : (x == ("__debug__" : Str)) = false := by decide) (he : starEach (e :: es) X.env = (false, eval e X.env) :: starEach es X.env := by rfl) (hpl : (backTo pos (starEach es X.env)).any (·.1) = false := by rfl) :
    DE X W (.Call (.Name x p) (e :: es) [] pos) (mCall f ms) := PEi (pe_callTy hc hg hm hv ha hn hdb he hpl) fun _ _ _ h => tCB_D hf h
theorem RDs.one {K : PySem.W.Frag} {m : Mp} {H : Hp} {d : D} {xs : List V} (h : RDs K m H [d] xs) : ∃ v, xs = [v] ∧ RD K m H d v := by
  cases h with
  | cons h r => cases r; exact ⟨_, rfl, h⟩
/-- len -/
def fLen : List D → AH → Res D := fun ds A => match ds with
  | [.str x] => if x.length ≤ 16777216 then .ok (.int x.length) A else .no
  | [d] => match seqOf A d with
    | some xs => .ok (.int xs.length) A
    | none => .no
  | _ => .no
theorem fLen_ok {K : PySem.W.Frag} : CallD K fLen (fun xs H Q => ∃ x n, xs = [x] ∧ LenV K x H n ∧ Q (.int n) H) := by
  intro W σ m A H xs ds Q R hx h
  unfold fLen at h
  split at h
  · rename_i x
    obtain ⟨v, rfl, r⟩ := hx.one
    cases r
    split at h
    · rename_i hz
      exact ⟨.str x, x.length, rfl, ⟨by rw [sizeLine_eq]; exact hz, rfl⟩, Post.here R (.int _) h⟩
    · exact h.elim
  · rename_i d _
    obtain ⟨v, rfl, r⟩ := hx.one
    split at h
    · rename_i ys hs
      obtain ⟨q, vs, rfl, sq, rs⟩ := seqOf_ok R r hs
      refine ⟨.ref q, vs.length, rfl, ?_, ?_⟩
      · rcases sq with sq | sq
        · exact .inl ⟨vs, sq, rfl⟩
        · exact .inr ⟨vs, sq, rfl⟩
      · rw [← rs.length]
        exact Post.here R (.int _) h
    · exact h.elim
  · exact h.elim
theorem d_len (hm : X.mg "len" = none) (ha : DA X W [e] ms) (hg : Gl X "len" := by rfl) (he : starEach [e] X.env = (false, eval e X.env) :: starEach [] X.env := by rfl) (hpl : (backTo pos (starEach [] X.env)).any (·.1) = false := by rfl) :
    DE X W (.Call (.Name "len" p) [e] [] pos) (mCall fLen ms) := d_callB call_len fLen_ok hg hm PySem.boot_len ha (by decide) (by decide) he hpl
/-- int of an int, of a bool -/
def fInt : List D → AH → Res D := fun ds A => match ds with
  | [.int i] => .ok (.int i) A
  | [.bl k] => .ok (.int (if k then 1 else 0)) A
  | _ => .no
theorem fInt_ok {K : PySem.W.Frag} : CallD K fInt (fun xs H Q => (∃ i, xs = [.int i] ∧ Q (.int i) H) ∨ ∃ k, xs = [.bl k] ∧ Q (.int (if k then 1 else 0)) H) := by
  intro W σ m A H xs ds Q R hx h
  unfold fInt at h
  split at h
  · obtain ⟨v, rfl, r⟩ := hx.one
    cases r
    exact .inl ⟨_, rfl, Post.here R (.int _) h⟩
  · obtain ⟨v, rfl, r⟩ := hx.one
    cases r
    exact .inr ⟨_, rfl, Post.here R (.int _) h⟩
  · exact h.elim
theorem d_intf (hm : X.mg "int" = none) (ha : DA X W [e] ms) (hg : Gl X "int" := by rfl) (he : starEach [e] X.env = (false, eval e X.env) :: starEach [] X.env := by rfl) (hpl : (backTo pos (starEach [] X.env)).any (·.1) = false := by rfl) :
    DE X W (.Call (.Name "int" p) [e] [] pos) (mCall fInt ms) := d_callTy call_int1 fInt_ok hg hm (by decide +kernel) ha (by decide) (by decide) he hpl
def fAbs : List D → AH → Res D := fun ds A => match ds with
  | [.int i] => .ok (.int (if i < 0 then -i else i)) A
  | _ => .no
theorem fAbs_ok {K : PySem.W.Frag} : CallD K fAbs (fun xs H Q => ∃ i, xs = [.int i] ∧ Q (.int (if i < 0 then -i else i)) H) := by
  intro W σ m A H xs ds Q R hx h
  unfold fAbs at h
  split at h
  · obtain ⟨v, rfl, r⟩ := hx.one
    cases r
    exact ⟨_, rfl, Post.here R (.int _) h⟩
  · exact h.elim
theorem d_abs (hm : X.mg "abs" = none) (ha : DA X W [e] ms) (hg : Gl X "abs" := by rfl) (he : starEach [e] X.env = (false, eval e X.env) :: starEach [] X.env := by rfl) (hpl : (backTo pos (starEach [] X.env)).any (·.1) = false := by rfl) :
    DE X W (.Call (.Name "abs" p) [e] [] pos) (mCall fAbs ms) := d_callB call_abs fAbs_ok hg hm (by decide +kernel) ha (by decide) (by decide) he hpl
/-- tuple of a list, a tuple -/
def fTup : List D → AH → Res D := fun ds A => match ds with
  | [d] => match seqOf A d with
    | some xs => .ok (.tup xs) A
    | none => .no
  | _ => .no
def isTup : D → Bool
  | .tup _ => true
  | _ => false
theorem seqOf_is {K : PySem.W.Frag} {m : Mp} {A : AH} {H : Hp} {d : D} {v : V} {xs : List D} (R : Rel K m A H) (h : RD K m H d v) (e : seqOf A d = some xs) :
    ∃ a vs, v = .ref a ∧ RDs K m H xs vs ∧ ((d = .tup xs ∧ SqT K H a vs) ∨ (isTup d = false ∧ SqL K H a vs)) := by
  unfold seqOf at e
  split at e
  · cases e
    cases h with
    | tup s r => exact ⟨_, _, rfl, r, .inl ⟨rfl, s.sq⟩⟩
  · cases e
    cases h with
    | lst s r => exact ⟨_, _, rfl, r, .inr ⟨rfl, s.sq⟩⟩
  · split at e
    · rename_i hA
      cases e
      cases h with
      | ref hm =>
        obtain ⟨q, h1, vs, h2, r⟩ := R.obj _ _ hA
        rw [hm] at h1; cases h1
        exact ⟨_, vs, rfl, r, .inr ⟨rfl, .inl (.inl h2)⟩⟩
    · cases e
  · cases e
theorem fTup_ok {K : PySem.W.Frag} : CallD K fTup (fun xs H Q => ∃ p ys, xs = [.ref p] ∧ ((SqL K H p ys ∧ ∀ l us, H l = none → Q (.ref l) (upd H l (plH us ys))) ∨ (SqT K H p ys ∧ Q (.ref p) H))) := by
  intro W σ m A H xs ds Q R hx h
  unfold fTup at h
  split at h
  · rename_i d
    obtain ⟨v, rfl, r⟩ := hx.one
    split at h
    · rename_i ys hs
      obtain ⟨q, vs, rfl, rs, sq⟩ := seqOf_is R r hs
      refine ⟨q, vs, rfl, ?_⟩
      rcases sq with ⟨rfl, sq⟩ | ⟨_, sq⟩
      · exact .inr ⟨sq, Post.here R r h⟩
      · exact .inl ⟨sq, tup_new R rs h⟩
    · exact h.elim
  · exact h.elim
theorem d_tuple (hm : X.mg "tuple" = none) (ha : DA X W [e] ms) (hg : Gl X "tuple" := by rfl) (he : starEach [e] X.env = (false, eval e X.env) :: starEach [] X.env := by rfl) (hpl : (backTo pos (starEach [] X.env)).any (·.1) = false := by rfl) :
    DE X W (.Call (.Name "tuple" p) [e] [] pos) (mCall fTup ms) := d_callTy tuple_ofP fTup_ok hg hm (by decide +kernel) ha (by decide) (by decide) he hpl
/-- repr -/
def fRepr : List D → AH → Res D := fun ds A => match ds with
  | [d] => match toPyA A d with
    | some q => if q.showable = true ∧ q.shown.length ≤ 16777216 ∧ q.depth ≤ 32 then .ok (.str q.shown) A else .no
    | none => .no
  | _ => .no
def rRepr (K : PySem.W.Frag) : List V → Hp → VK → Prop := fun xs H Q => ∃ x q, xs = [x] ∧ Dp K H x q ∧ q.showable = true ∧ q.shown.length ≤ sizeLine ∧ q.depth ≤ 32 ∧ Q (.str q.shown) H
mutual
theorem Dp.noDict {K : PySem.W.Frag} {H : Hp} : ∀ (q : PyData) (x : V), Dp K H x q → q.hasDict = false
  | .none, _, _ => by simp [PyData.hasDict]
  | .bool _, _, _ => by simp [PyData.hasDict]
  | .int _, _, _ => by simp [PyData.hasDict]
  | .str _, _, _ => by simp [PyData.hasDict]
  | .list ds, _, h => by cases h with | lst s r => (simp only [PyData.hasDict]; exact DpAll.noDict ds _ r)
  | .tuple ds, _, h => by cases h with | tup s r => (simp only [PyData.hasDict]; exact DpAll.noDict ds _ r)
  | .dict _, _, h => by cases h
theorem DpAll.noDict {K : PySem.W.Frag} {H : Hp} : ∀ (qs : List PyData) (xs : List V), DpAll K H xs qs → PyData.hasDictAll qs = false
  | [], _, _ => by simp [PyData.hasDictAll]
  | q :: qs, _, h => by
    cases h with
    | cons h r => simp only [PyData.hasDictAll, Dp.noDict q _ h, DpAll.noDict qs _ r, Bool.or_self]
end
theorem call_reprD (hg : X.A.guards = some []) (hu : X.A.units + 64 < cLine) : CallR X (.builtin "repr") (rRepr X.K) := by
  intro pins s σ H xs us Q I r h
  obtain ⟨x, q, rfl, hd, hs, hz, hdep, k⟩ := h
  obtain ⟨u, rfl, ru⟩ := vals1 r
  obtain ⟨as, rd⟩ := Dp.reads I q x u hd ru
  have hn := Dp.noDict q x hd
  have fin : ∀ h' t tk, (∀ b o, s.heap.get? b = some o → h'.get? b = some o) → EP X pins σ Q (.str q.shown t) { s with heap := h', toks := tk } := fun h' t tk kp => ⟨.str q.shown, H, I.kept (t' := tk) kp, ⟨t, rfl⟩, k⟩
  cases rd with
  | none =>
    simp only [PyData.shown] at fin
    exact PySem.P.repr_of_none (fin s.heap _ _ fun _ _ z => z)
  | bool b => 
    simp only [PyData.shown] at fin
    exact PySem.P.repr_of_bool (fin s.heap _ _ fun _ _ z => z)
  | int i t =>
    simp only [PyData.shown] at fin
    exact PySem.P.repr_of_int (by simpa [PyData.showable] using hs) (fin s.heap _ _ fun _ _ z => z)
  | str y t => 
    simp only [PyData.shown] at fin
    exact PySem.P.repr_of_str (fin s.heap _ _ fun _ _ z => z) (by simpa only [PyData.shown] using hz)
  | list h1 h2 h3 h4 =>
    exact repr_of_reads' (Reads.list h1 h2 h3 h4) hs (fun z => by rw [hn] at z; cases z) hg (by omega) (fun _ _ z => z) fin hz
  | tuple h1 h2 h3 h4 =>
    exact repr_of_reads' (Reads.tuple h1 h2 h3 h4) hs (fun z => by rw [hn] at z; cases z) hg (by omega) (fun _ _ z => z) fin hz
  | dict h1 h2 h3 h4 h5 => exact repr_of_reads' (Reads.dict h1 h2 h3 h4 h5) hs (fun z => by rw [hn] at z; cases z) hg (by omega) (fun _ _ z => z) fin hz
theorem fRepr_ok {K : PySem.W.Frag} : CallD K fRepr (rRepr K) := by
  intro W σ m A H xs ds Q R hx h
  unfold fRepr at h
  split at h
  · obtain ⟨v, rfl, r⟩ := hx.one
    split at h
    · rename_i q hq
      split at h
      · rename_i hc
        exact ⟨v, q, rfl, RD.dpA R r hq, hc.1, by rw [sizeLine_eq]; exact hc.2.1, hc.2.2, Post.here R (.str _) h⟩
      · exact h.elim
    · exact h.elim
  · exact h.elim
theorem d_repr (gd : X.A.guards = some []) (hu : X.A.units + 64 < cLine) (hm : X.mg "repr" = none) (ha : DA X W [e] ms) (hg : Gl X "repr" := by rfl) (he : starEach [e] X.env = (false, eval e X.env) :: starEach [] X.env := by rfl) (hpl : (backTo pos (starEach [] X.env)).any (·.1) = false := by rfl) :
    DE X W (.Call (.Name "repr" p) [e] [] pos) (mCall fRepr ms) := d_callB (call_reprD gd hu) fRepr_ok hg hm (by decide +kernel) ha (by decide) (by decide) he hpl
end
end DM
end
section
set_option maxHeartbeats 2000000
namespace DM
open PySem PySem.Spec PyProof.Rows L2
section
variable {X : Cx} {W : WX} {a b c e tg : Expr} {es : List Expr} {ma mb mc me : ME} {mt mu : MT} {ms : MA} {pos p p2 : Pos}
/-! ### a[b] -/
def fIx : D → D → AH → Res D := fun d e A => match d, e with
  | .str z, .int i => if z.length ≤ 16777216 then (match atI z.cps.toList i with | some c => .ok (.str ⟨#[c]⟩) A | none => .no) else .no
  | d, .int i => match seqOf A d with
    | some xs => match atI xs i with
      | some v => .ok v A
      | none => .no
    | none => .no
  | _, _ => .no
theorem atI_rel {K : PySem.W.Frag} {m : Mp} {H : Hp} {xs : List D} {vs : List V} {i : Int} {d : D} (r : RDs K m H xs vs) (h : atI xs i = some d) : ∃ v, atI vs i = some v ∧ RD K m H d v := by
  unfold atI at h ⊢
  rw [← r.length]
  cases hn : ixN xs.length i with
  | none => rw [hn] at h; cases h
  | some j =>
    rw [hn] at h
    obtain ⟨v, h1, h2⟩ := r.get h
    exact ⟨v, h1, h2⟩
theorem fIx_ok {K : PySem.W.Frag} : OpD K fIx (rIx K) := by
  intro W σ m A H x y d e Q R hx hy h
  unfold fIx at h
  split at h
  · rename_i z i
    cases hx; cases hy
    split at h
    · rename_i hz
      split at h
      · rename_i c hc
        exact .inr (.inr ⟨z, i, c, rfl, rfl, by rw [sizeLine_eq]; exact hz, hc, Post.here R (.str _) h⟩)
      · exact h.elim
    · exact h.elim
  · rename_i i _
    cases hy
    split at h
    · rename_i xs hs
      obtain ⟨q, vs, rfl, rs, sq⟩ := seqOf_is R hx hs
      split at h
      · rename_i v hv
        obtain ⟨w, h1, h2⟩ := atI_rel rs hv
        have k := Post.here R h2 h
        rcases sq with ⟨_, sq⟩ | ⟨_, sq⟩
        · exact .inr (.inl ⟨q, vs, i, w, rfl, rfl, sq, h1, k⟩)
        · exact .inl ⟨q, vs, i, w, rfl, rfl, sq, h1, k⟩
      · exact h.elim
    · exact h.elim
  · exact h.elim
theorem d_ix (ha : DE X W a ma) (hb : DE X W b mb) (hs : PlainIx b := by exact fun _ _ => rfl) : DE X W (.Subscript a b pos) (mOp fIx ma mb) := PEi (pe_ix ix_seq ha hb hs) fun _ _ _ h => tOpD fIx_ok h
/-! ### slices -/
abbrev MO := Env → AH → Res (Option Int)
def tO (K : PySem.W.Frag) (W : WX) (mo : MO) : TO := fun σ H Q => ∃ m A ρ, Rel K m A H ∧ REnv K m H ρ σ ∧ Post K (fun _ _ a b => a = b) W σ m H (mo ρ A) Q
def mNone : MO := fun _ A => .ok none A
def mSome (me : ME) : MO := fun ρ A => (me ρ A).bind fun d A1 => match d with
  | .int i => .ok (some i) A1
  | _ => .no
structure DO (X : Cx) (W : WX) (e : Option Expr) (mo : MO) : Prop where
  go : PO X e (tO X.K W mo)
theorem POi {X : Cx} {e : Option Expr} {t t' : TO} (h : PO X e t) (q : ∀ σ H Q, t' σ H Q → t σ H Q) : PO X e t' := ⟨fun pins s σ H Q I w => h.run pins s σ H Q I (q σ H Q w)⟩
theorem o_none : DO X W none mNone := ⟨POi po_none fun σ H Q ⟨m, A, ρ, R, E, h⟩ => Post.here R rfl h⟩
theorem o_some (ha : DE X W e me) : DO X W (some e) (mSome me) := ⟨POi (po_some ha) fun σ H Q ⟨m, A, ρ, R, E, h⟩ => tE.bind R E h fun m1 A1 d v H1 e1 R1 E1 r1 h1 => by
  split at h1
  · cases r1; exact ⟨_, rfl, Post.here R1 rfl h1⟩
  · exact h1.elim⟩
theorem tO.bind {K : PySem.W.Frag} {σ : L2.St} {m : Mp} {A : AH} {ρ : Env} {H : Hp} {β γ : Type} {R2 : Mp → Hp → γ → β → Prop} {me : MO} {k : Option Int → AH → Res γ} {Q : β → Hp → Prop} {T : Option Int → Hp → Prop} (R : Rel K m A H) (E : REnv K m H ρ σ)
    (h : Post K R2 W σ m H ((me ρ A).bind k) Q) (q : ∀ m1 A1 b H1, Ext m H m1 H1 → Rel K m1 A1 H1 → REnv K m1 H1 ρ σ → Post K R2 W σ m1 H1 (k b A1) Q → T b H1) : tO K W me σ H T :=
  ⟨m, A, ρ, R, E, Post.imp (Post.bind (R := fun _ _ a b => a = b) h) fun v H1 ⟨m1, A1, d, e, R1, r, p⟩ => by subst r; exact q m1 A1 _ H1 e R1 (E.mono e) p⟩
def cutD (xs : List D) (lo hi : Option Int) : List D := (xs.drop (HT.sIx xs.length 0 lo)).take (HT.sIx xs.length xs.length hi - HT.sIx xs.length 0 lo)
theorem cut_rel {K : PySem.W.Frag} {m : Mp} {H : Hp} {xs : List D} {vs : List V} {lo hi : Option Int} (r : RDs K m H xs vs) : RDs K m H (cutD xs lo hi) (cutV vs lo hi) := by
  unfold cutD cutV
  rw [← r.length]
  exact (r.drop _).take _
theorem cut_whole {xs : List D} {lo hi : Option Int} (h : HT.sIx xs.length 0 lo = 0 ∧ HT.sIx xs.length xs.length hi = xs.length) : cutD xs lo hi = xs := by
  unfold cutD
  rw [h.1, h.2]
  simp
def fSl : D → Option Int → Option Int → AH → Res D := fun d lo hi A => match d with
  | .tup xs => .ok (.tup (cutD xs lo hi)) A
  | d => match seqOf A d with
    | some xs => .ok (.lst (cutD xs lo hi)) A
    | none => .no
def mSl (me : ME) (ml mh : MO) : ME := fun ρ A => (me ρ A).bind fun d A1 => (ml ρ A1).bind fun lo A2 => (mh ρ A2).bind fun hi A3 => fSl d lo hi A3
theorem d_sl {lo hi : Option Expr} {ml mh : MO} (he : DE X W e me) (hl : DO X W lo ml) (hh : DO X W hi mh) : DE X W (.Subscript e (.Slice lo hi none p2) pos) (mSl me ml mh) :=
  PEi (pe_slice (sl_tupP.or sl_list) he hl.go hh.go) fun σ H Q ⟨m, A, ρ, R, E, h⟩ => tE.bind R E h fun m1 A1 d v H1 e1 R1 E1 r1 h1 => tO.bind R1 E1 h1 fun m2 A2 l H2 e2 R2 E2 h2 => tO.bind R2 E2 h2 fun m3 A3 u H3 e3 R3 E3 h3 => by
    have r3 := RD.mono (e2.trans e3) _ _ r1
    unfold fSl at h3
    split at h3
    · rename_i xs
      have r3' := r3
      cases r3 with
      | tup s r =>
        rename_i q vs
        refine .inl ⟨q, vs, rfl, s.sq, fun hw => ?_, fun _ => tup_new R3 (cut_rel r) h3⟩
        rw [← r.length] at hw
        rw [cut_whole hw] at h3
        exact Post.here R3 r3' h3
    · rename_i d hd
      split at h3
      · rename_i xs hs
        obtain ⟨q, vs, rfl, rs, sq⟩ := seqOf_is R3 r3 hs
        rcases sq with ⟨rfl, _⟩ | ⟨_, sq⟩
        · exact (hd xs rfl).elim
        · exact .inr ⟨q, vs, rfl, sq, lst_new R3 (cut_rel rs) h3⟩
      · exact h3.elim
theorem RDs.rev {K : PySem.W.Frag} {m : Mp} {H : Hp} : ∀ {xs : List D} {vs : List V}, RDs K m H xs vs → RDs K m H xs.reverse vs.reverse
  | [], _, h => by cases h; exact .nil
  | x :: xs, _, h => by
    cases h with
    | cons h r =>
      rw [List.reverse_cons, List.reverse_cons]
      exact (RDs.rev r).append (.cons h .nil)
/-- xs[::-1] of a list, to stay or to change -/
def mRev (chg : Bool) (me : ME) : ME := fun ρ A => (me ρ A).bind fun d A1 => if isTup d = true then .no else match seqOf A1 d with
  | some xs => if chg then .ok (.ref A1.length) (A1 ++ [.lst xs.reverse]) else .ok (.lst xs.reverse) A1
  | none => .no
theorem d_rev {k : Nat} {q1 q2 q3 : Pos} (chg : Bool) (he : DE X W e me) : DE X W (.Subscript e (.Slice none none (some (.UnaryOp .USub (.Constant (.int 1) k q1) q2)) q3) pos) (mRev chg me) :=
  PEi (pe_revL he) fun σ H Q ⟨m, A, ρ, R, E, h⟩ => tE.bind R E h fun m1 A1 d v H1 e1 R1 E1 r1 h1 => by
    split at h1
    · exact h1.elim
    · rename_i hn
      split at h1
      · rename_i xs hs
        obtain ⟨q, vs, rfl, rs, sq⟩ := seqOf_is R1 r1 hs
        rcases sq with ⟨rfl, _⟩ | ⟨_, sq⟩
        · exact (hn rfl).elim
        · cases chg with
          | true => exact ⟨q, vs, rfl, sq, ref_new R1 rs.rev h1⟩
          | false => exact ⟨q, vs, rfl, sq, lst_new R1 rs.rev h1⟩
      · exact h1.elim
/-! ### methods of lists -/
def fApp : Nat → List D → AH → Res D := fun n ds A => match ds with
  | [x] => match A[n]? with
    | some (.lst xs) => if xs.length < 16777216 then .ok .non (A.set n (.lst (xs ++ [x]))) else .no
    | _ => .no
  | _ => .no
/-- a method of a changing list -/
def mMet (f : Nat → List D → AH → Res D) (mo : ME) (ms : MA) : ME := fun ρ A => (mo ρ A).bind fun d A1 => match d with
  | .ref n => (match A1[n]? with
    | some (.lst _) => (ms ρ A1).bind fun ds A2 => f n ds A2
    | _ => .no)
  | _ => .no
theorem Rel.lst {K : PySem.W.Frag} {m : Mp} {A : AH} {H : Hp} (R : Rel K m A H) {n : Nat} {q : Addr} {xs : List D} (hm : m.1[n]? = some q) (hA : A[n]? = some (.lst xs)) : ∃ vs, H q = some (.lst vs) ∧ RDs K m H xs vs := by
  obtain ⟨q2, h3, ws, h4, rw4⟩ := R.obj _ _ hA
  rw [hm] at h3; cases h3
  exact ⟨ws, h4, rw4⟩
theorem wr_lst {K : PySem.W.Frag} {m : Mp} {A : AH} {H : Hp} {σ : L2.St} {n : Nat} {q : Addr} {ds : List D} {vs : List V} {d : D} {v : V} {Q : VK} (R : Rel K m A H) (hn : m.1[n]? = some q) (r : RDs K m H ds vs) (rv : RD K m H d v)
    (h : Post K (RD K) W σ m H (.ok d (A.set n (.lst ds))) Q) : Q v (upd H q (.lst vs)) :=
  let ⟨R1, e1⟩ := R.write (H' := upd H q (.lst vs)) (o := .lst ds) hn (fun p u hp z => by rw [upd_ne hp]; exact z) fun e => ⟨vs, upd_same, RDs.mono e _ _ r⟩
  h m _ _ e1 R1 (RD.mono e1 _ _ rv)
theorem d_app {o : Expr} {mo : ME} {apos : Pos} (ho : DE X W o mo) (ha : DA X W [e] ms) (hb1 : attributeBase o "append" X.env (eval o X.env) = eval o X.env := by rfl)
    (hfew : ((backTo pos (starEach [e] X.env)).all (fun x => !x.1) && (backToKw pos (keywordEach [] X.env)).all (fun x => x.1.isSome)
      && decide ([e].length + ([] : List Keyword).length + (if ([] : List Keyword).isEmpty then 0 else 1) < 30)) = true := by rfl)
    (hline : (apos.endLine == pos.line) = true := by rfl) (hs : starEach [e] X.env = (false, eval e X.env) :: starEach [] X.env := by rfl) (hpl : (backTo pos (starEach [] X.env)).any (·.1) = false := by rfl) :
    DE X W (.Call (.Attribute o "append" apos) [e] [] pos) (mMet fApp mo ms) :=
  PEi (pe_bm PySem.F.plainAttrs_list PySem.F.slot_list_append PySem.F.type_list_append mt_append ho ha hb1 hfew hline hs hpl) fun σ H Q ⟨m, A, ρ, R, E, h⟩ => tE.bind R E h fun m1 A1 d v H1 e1 R1 E1 r1 h1 => by
    split at h1
    · rename_i n
      split at h1
      rotate_left
      · exact h1.elim
      rename_i xs0 hA0
      cases r1 with
      | ref hm =>
        rename_i q
        obtain ⟨ws, hw, _⟩ := R1.lst hm hA0
        refine ⟨.inl ⟨rfl, ws, .inl (.inl hw)⟩, tA.bind R1 E1 h1 fun m2 A2 ds vs H2 e2 R2 E2 r2 h2 => ?_⟩
        unfold fApp at h2
        split at h2
        · obtain ⟨y, rfl, ry⟩ := r2.one
          split at h2
          · rename_i xs hA
            split at h2
            · rename_i hz
              have hm2 := e2.get hm
              obtain ⟨us, h4, rw4⟩ := R2.lst hm2 hA
              exact ⟨q, us, y, rfl, rfl, h4, by rw [← rw4.length, sizeLine_eq]; exact hz, wr_lst R2 hm2 (rw4.append (.cons ry .nil)) .non h2⟩
            · exact h2.elim
          · exact h2.elim
        · exact h2.elim
    · exact h1.elim
/-- xs.pop() -/
def mPop (mo : ME) : ME := fun ρ A => (mo ρ A).bind fun d A1 => match d with
  | .ref n => match A1[n]? with
    | some (.lst xs) => match xs[xs.length - 1]? with
      | some x => .ok x (A1.set n (.lst xs.dropLast))
      | none => .no
    | _ => .no
  | _ => .no
theorem RDs.dropLast {K : PySem.W.Frag} {m : Mp} {H : Hp} {xs : List D} {vs : List V} (h : RDs K m H xs vs) : RDs K m H xs.dropLast vs.dropLast := by
  rw [List.dropLast_eq_take, List.dropLast_eq_take, ← h.length]
  exact h.take _
theorem d_pop {o : Expr} {mo : ME} {apos : Pos} (ho : DE X W o mo) (hb1 : attributeBase o "pop" X.env (eval o X.env) = eval o X.env := by rfl) (hline : (apos.endLine == pos.line) = true := by rfl) :
    DE X W (.Call (.Attribute o "pop" apos) [] [] pos) (mPop mo) :=
  PEi (pe_bm0 PySem.F.plainAttrs_list PySem.F.slot_list_pop PySem.F.type_list_pop mt_pop ho hb1 hline) fun σ H Q ⟨m, A, ρ, R, E, h⟩ => tE.bind R E h fun m1 A1 d v H1 e1 R1 E1 r1 h1 => by
    split at h1
    · rename_i n
      cases r1 with
      | ref hm =>
        rename_i q
        split at h1
        · rename_i xs hA
          split at h1
          · rename_i x hx
            obtain ⟨us, h4, rw4⟩ := R1.lst hm hA
            obtain ⟨y, h5, r5⟩ := rw4.get hx
            exact ⟨.inl ⟨rfl, us, .inl (.inl h4)⟩, q, us, y, rfl, rfl, h4, by rw [← rw4.length]; exact h5, wr_lst R1 hm rw4.dropLast r5 h1⟩
          · exact h1.elim
        · exact h1.elim
    · exact h1.elim
end
end DM
end
section
set_option maxHeartbeats 2000000
namespace DM
open PySem PySem.Spec PyProof.Rows L2
/-! ### statements -/
def lift {α : Type} (r : Res α) (ρ : Env) (k : α → AH → SRes) : SRes := match r with
  | .ok d A => k d A
  | .exc C fs A => .exc C fs ρ A
  | .no => .no
@[simp] theorem lift_ok {α : Type} (d : α) (A : AH) (ρ : Env) (k : α → AH → SRes) : lift (.ok d A) ρ k = k d A := rfl
@[simp] theorem lift_exc {α : Type} (C : Str) (fs : List (Str × D)) (A : AH) (ρ : Env) (k : α → AH → SRes) : lift (.exc C fs A) ρ k = .exc C fs ρ A := rfl
@[simp] theorem lift_no {α : Type} (ρ : Env) (k : α → AH → SRes) : lift .no ρ k = .no := rfl
section
variable {K : PySem.W.Frag} {W : WX} {σ : L2.St} {m : Mp} {A : AH} {ρ : Env} {H : Hp} {D0 : Ends}
theorem post_lift {α β : Type} {R0 : Mp → Hp → α → β → Prop} {r : Res α} {k : α → AH → SRes} {T : β → Hp → Prop} (E : REnv K m H ρ σ) (h : PostS K W m H (lift r ρ k) D0)
    (q : ∀ m1 A1 d v H1, Ext m H m1 H1 → Rel K m1 A1 H1 → R0 m1 H1 d v → PostS K W m1 H1 (k d A1) D0 → T v H1) : Post K R0 W σ m H r T := by
  cases r with
  | ok d A' => exact fun m' H' v e R' r' => q m' A' d v H' e R' r' (PostS.mono e h)
  | exc C fs A' => exact fun m' H' c dx e R' hc hx => h m' H' c dx σ e R' (E.mono e) hc hx
  | no => exact h
theorem tE.lift {me : ME} {k : D → AH → SRes} {T : V → Hp → Prop} (R : Rel K m A H) (E : REnv K m H ρ σ) (h : PostS K W m H (lift (me ρ A) ρ k) D0)
    (q : ∀ m1 A1 d v H1, Ext m H m1 H1 → Rel K m1 A1 H1 → REnv K m1 H1 ρ σ → RD K m1 H1 d v → PostS K W m1 H1 (k d A1) D0 → T v H1) : tE K W me σ H T :=
  ⟨m, A, ρ, R, E, post_lift E h fun m1 A1 d v H1 e R1 r p => q m1 A1 d v H1 e R1 (E.mono e) r p⟩
theorem tT.lift {me : MT} {k : Bool → AH → SRes} {T : Bool → Hp → Prop} (R : Rel K m A H) (E : REnv K m H ρ σ) (h : PostS K W m H (lift (me ρ A) ρ k) D0)
    (q : ∀ m1 A1 b H1, Ext m H m1 H1 → Rel K m1 A1 H1 → REnv K m1 H1 ρ σ → PostS K W m1 H1 (k b A1) D0 → T b H1) : tT K W me σ H T :=
  ⟨m, A, ρ, R, E, post_lift E h fun m1 A1 d v H1 e R1 r p => by subst r; exact q m1 A1 _ H1 e R1 (E.mono e) p⟩
theorem tA.lift {me : MA} {k : List D → AH → SRes} {T : List V → Hp → Prop} (R : Rel K m A H) (E : REnv K m H ρ σ) (h : PostS K W m H (lift (me ρ A) ρ k) D0)
    (q : ∀ m1 A1 ds vs H1, Ext m H m1 H1 → Rel K m1 A1 H1 → REnv K m1 H1 ρ σ → RDs K m1 H1 ds vs → PostS K W m1 H1 (k ds A1) D0 → T vs H1) : tA K W me σ H T :=
  ⟨m, A, ρ, R, E, post_lift E h fun m1 A1 d v H1 e R1 r p => q m1 A1 d v H1 e R1 (E.mono e) r p⟩
theorem PostS.nx (R : Rel K m A H) (E : REnv K m H ρ σ) (h : PostS K W m H (.nx ρ A) D0) : D0.nx σ H := h m H σ (Ext.refl m H) R E
theorem PostS.bk (R : Rel K m A H) (E : REnv K m H ρ σ) (h : PostS K W m H (.bk ρ A) D0) : D0.bk σ H := h m H σ (Ext.refl m H) R E
theorem PostS.ct (R : Rel K m A H) (E : REnv K m H ρ σ) (h : PostS K W m H (.ct ρ A) D0) : D0.ct σ H := h m H σ (Ext.refl m H) R E
theorem PostS.rt {d : D} {v : V} (R : Rel K m A H) (r : RD K m H d v) (h : PostS K W m H (.rt d A) D0) : D0.rt v H := h m H v (Ext.refl m H) R r
end
def mNext : MS := fun ρ A => .nx ρ A
def mSeq (a b : MS) : MS := fun ρ A => match a ρ A with
  | .nx ρ1 A1 => b ρ1 A1
  | r => r
def mDrop (me : ME) : MS := fun ρ A => lift (me ρ A) ρ fun _ A1 => .nx ρ A1
def mRet (me : ME) : MS := fun ρ A => lift (me ρ A) ρ fun d A1 => .rt d A1
def mIfS (mt : MT) (a b : MS) : MS := fun ρ A => lift (mt ρ A) ρ fun k A1 => if k = true then a ρ A1 else b ρ A1
def mSet (i : Nat) (me : ME) : MS := fun ρ A => lift (me ρ A) ρ fun d A1 => .nx (ρ.set i (some d)) A1
section
variable {X : Cx} {W : WX} {a b c e tg : Expr} {es : List Expr} {st : Stmt} {sts sts' : List Stmt} {ma mb mc me : ME} {mt mu : MT} {ms : MA} {sa sb : MS} {pos p p2 : Pos}
theorem s_nil : DSs X W [] mNext := PSsi pss_nil fun D σ H ⟨m, A, ρ, R, E, h⟩ => PostS.nx R E h
/-- behind a statement, the rest -/
theorem seqD {K : PySem.W.Frag} {t : TS} {D : Ends} {σ : L2.St} {H : Hp} (hs : ∀ D' : Ends, tS K W sa D' σ H → t D' σ H) (h : tS K W (mSeq sa sb) D σ H) : tSeq t (tS K W sb) D σ H := by
  obtain ⟨m, A, ρ, R, E, h⟩ := h
  refine hs _ ⟨m, A, ρ, R, E, ?_⟩
  unfold mSeq at h
  cases hr : sa ρ A with
  | nx ρ1 A1 => rw [hr] at h; exact fun m' H' σ' e R' E' => ⟨m', A1, ρ1, R', E', PostS.mono e h⟩
  | rt d A1 => rw [hr] at h; exact h
  | bk ρ1 A1 => rw [hr] at h; exact h
  | ct ρ1 A1 => rw [hr] at h; exact h
  | exc C fs ρ1 A1 => rw [hr] at h; exact h
  | no => rw [hr] at h; exact h
theorem s_cons (h1 : DS X W st sa) (h2 : DSs X W sts sb) : DSs X W (st :: sts) (mSeq sa sb) := PSsi (pss_cons h1 h2) fun _ _ _ h => seqD (fun _ q => q) h
theorem s_one (h1 : DS X W st sa) : DSs X W [st] sa := pss_one h1
theorem s_expr (he : DE X W e me) (hs : swapsWith e none pos.line X.env = pure false := by rfl) : DS X W (.Expr e pos) (mDrop me) :=
  PSi (ps_expr he hs) fun D σ H ⟨m, A, ρ, R, E, h⟩ => tE.lift R E h fun m1 A1 d v H1 e1 R1 E1 r1 h1 => PostS.nx R1 E1 h1
theorem s_ret (he : DE X W e me) : DS X W (.Return (some e) pos) (mRet me) :=
  PSi (ps_ret he) fun D σ H ⟨m, A, ρ, R, E, h⟩ => tE.lift R E h fun m1 A1 d v H1 e1 R1 E1 r1 h1 => PostS.rt R1 r1 h1
theorem s_if (hc : DT X W c mt) (ha : DSs X W sts sa) (hb : DSs X W sts' sb) : DS X W (.If c sts sts' pos) (mIfS mt sa sb) :=
  PSi (ps_if hc ha hb) fun D σ H ⟨m, A, ρ, R, E, h⟩ => tT.lift R E h fun m1 A1 k H1 e1 R1 E1 h1 => by
    cases k with
    | true => exact ⟨m1, A1, ρ, R1, E1, h1⟩
    | false => exact ⟨m1, A1, ρ, R1, E1, h1⟩
theorem setD {K : PySem.W.Frag} {t : TE} {D : Ends} {σ : L2.St} {H : Hp} {i : Nat} (ht : ∀ Q : VK, tE K W me σ H Q → t σ H Q) (h : tS K W (mSet i me) D σ H) : tAsg t (gName i) D σ H := by
  obtain ⟨m, A, ρ, R, E, h⟩ := h
  exact ht _ (tE.lift R E h fun m1 A1 d v H1 e1 R1 E1 r1 h1 => PostS.nx R1 (E1.set r1 i) h1)
theorem s_set {i : Nat} {x : Str} {pos' : Pos} (hN : X.N.Nodup) (he : DE X W e me) (hi : X.N[i]? = some x := by rfl) (hx : Loc X.env.scope x := by first | exact Or.inl rfl | exact Or.inr rfl) (hs : swapsWith e (some (.Name x pos')) pos.line X.env = pure false := by rfl)
    (hf : X.fn x = true ∨ X.env.scope.names.lookup x = some .local := by first | exact .inl rfl | exact .inr rfl | assumption) : DS X W (.Assign [.Name x pos'] e pos) (mSet i me) := PSi (ps_set hN hi hx he hs hf) fun _ _ _ h => setD (fun _ q => q) h
/-- x, y = a, b -/
def mPar2 (i j : Nat) (ms : MA) : MS := fun ρ A => lift (ms ρ A) ρ fun ds A1 => match ds with
  | [x, y] => .nx ((ρ.set i (some x)).set j (some y)) A1
  | _ => .no
def mPar3 (i j l : Nat) (ms : MA) : MS := fun ρ A => lift (ms ρ A) ρ fun ds A1 => match ds with
  | [x, y, z] => .nx (((ρ.set i (some x)).set j (some y)).set l (some z)) A1
  | _ => .no
theorem par2D {K : PySem.W.Frag} {i j : Nat} {D : Ends} {σ : L2.St} {H : Hp} (h : tS K W (mPar2 i j ms) D σ H) : tPar i j (tA K W ms) D σ H := by
  obtain ⟨m, A, ρ, R, E, h⟩ := h
  refine tA.lift R E h fun m1 A1 ds vs H1 e1 R1 E1 r1 h1 => ?_
  split at h1
  · cases r1 with
    | cons r1 q => cases q with
      | cons r2 q => cases q; exact ⟨_, _, rfl, PostS.nx R1 ((E1.set r1 i).set r2 j) h1⟩
  · exact h1.elim
theorem par3D {K : PySem.W.Frag} {i j l : Nat} {D : Ends} {σ : L2.St} {H : Hp} (h : tS K W (mPar3 i j l ms) D σ H) : tPar3 i j l (tA K W ms) D σ H := by
  obtain ⟨m, A, ρ, R, E, h⟩ := h
  refine tA.lift R E h fun m1 A1 ds vs H1 e1 R1 E1 r1 h1 => ?_
  split at h1
  · cases r1 with
    | cons r1 q => cases q with
      | cons r2 q => cases q with
        | cons r3 q => cases q; exact ⟨_, _, _, rfl, PostS.nx R1 (((E1.set r1 i).set r2 j).set r3 l) h1⟩
  · exact h1.elim
/-- x += e -/
def mAug (i : Nat) (f : D → D → AH → Res D) (me : ME) : MS := fun ρ A => match ρ[i]? with
  | some (some x) => lift ((me ρ A).bind fun y A1 => f x y A1) ρ fun z A2 => .nx (ρ.set i (some z)) A2
  | _ => .no
/-! ### targets -/
inductive Tg where
  | nm (i : Nat) | tp (ts : List Tg)
mutual
def bindT : Tg → D → Env → Option Env
  | .nm i, d, ρ => some (ρ.set i (some d))
  | .tp ts, .tup ds, ρ => bindTs ts ds ρ
  | .tp ts, .qtup ds, ρ => bindTs ts ds ρ
  | .tp _, _, _ => none
def bindTs : List Tg → List D → Env → Option Env
  | [], [], ρ => some ρ
  | t :: ts, d :: ds, ρ => (bindT t d ρ).bind fun ρ1 => bindTs ts ds ρ1
  | _, _, _ => none
end
def outside (sl : List Nat) (σ σ' : L2.St) : Prop := σ'.length = σ.length ∧ ∀ i, i ∉ sl → σ'[i]? = σ[i]?
def GD (K : PySem.W.Frag) (sl : List Nat) (g : TG) (bt : D → Env → Option Env) : Prop :=
  ∀ (m : Mp) (H : Hp) (ρ : Env) (σ : L2.St) (d : D) (v : V) (Q : L2.St → Hp → Prop) (ρ' : Env), REnv K m H ρ σ → RD K m H d v → bt d ρ = some ρ' → (∀ σ', REnv K m H ρ' σ' → outside sl σ σ' → Q σ' H) → g v σ H Q
def GDs (K : PySem.W.Frag) (sl : List Nat) (g : TGs) (bt : List D → Env → Option Env) : Prop :=
  ∀ (m : Mp) (H : Hp) (ρ : Env) (σ : L2.St) (ds : List D) (vs : List V) (Q : L2.St → Hp → Prop) (ρ' : Env), REnv K m H ρ σ → RDs K m H ds vs → bt ds ρ = some ρ' → (∀ σ', REnv K m H ρ' σ' → outside sl σ σ' → Q σ' H) → g vs σ H Q
theorem outside.refl (sl : List Nat) (σ : L2.St) : outside sl σ σ := ⟨rfl, fun _ _ => rfl⟩
theorem outside.trans {sl : List Nat} {σ σ1 σ2 : L2.St} (a : outside sl σ σ1) (b : outside sl σ1 σ2) : outside sl σ σ2 := ⟨b.1.trans a.1, fun i hi => (b.2 i hi).trans (a.2 i hi)⟩
theorem g_nm {K : PySem.W.Frag} {sl : List Nat} {i : Nat} (hi : i ∈ sl) : GD K sl (gName i) (bindT (.nm i)) := by
  intro m H ρ σ d v Q ρ' E r hb h
  cases hb
  exact h _ (E.set r i) ⟨List.length_set .., fun j hj => List.getElem?_set_ne fun z => hj (by rw [← z]; exact hi)⟩
theorem gs_nil {K : PySem.W.Frag} {sl : List Nat} : GDs K sl gNil (bindTs []) := by
  intro m H ρ σ ds vs Q ρ' E r hb h
  cases ds with
  | nil => cases r; cases hb; exact ⟨rfl, h σ E (outside.refl sl σ)⟩
  | cons d ds => cases hb
theorem gs_cons {K : PySem.W.Frag} {sl : List Nat} {g : TG} {gs : TGs} {t : Tg} {ts : List Tg} (h1 : GD K sl g (bindT t)) (h2 : GDs K sl gs (bindTs ts)) : GDs K sl (gCons g gs) (bindTs (t :: ts)) := by
  intro m H ρ σ ds vs Q ρ' E r hb h
  cases ds with
  | nil => cases hb
  | cons d ds =>
    cases r with
    | cons r rs =>
      unfold bindTs at hb
      cases hb1 : bindT t d ρ with
      | none => rw [hb1] at hb; cases hb
      | some ρ1 =>
        rw [hb1] at hb
        exact ⟨_, _, rfl, h1 m H ρ σ d _ _ ρ1 E r hb1 fun σ1 E1 o1 => h2 m H ρ1 σ1 ds _ _ ρ' E1 rs hb fun σ2 E2 o2 => h σ2 E2 (o1.trans o2)⟩
theorem bindTs_len : ∀ (ts : List Tg) (ds : List D) (ρ ρ' : Env), bindTs ts ds ρ = some ρ' → ds.length = ts.length
  | [], [], _, _, _ => rfl
  | [], _ :: _, _, _, h => by cases h
  | t :: ts, [], _, _, h => by cases h
  | t :: ts, d :: ds, ρ, ρ', h => by
    unfold bindTs at h
    cases hb1 : bindT t d ρ with
    | none => rw [hb1] at h; cases h
    | some ρ1 =>
      rw [hb1] at h
      rw [List.length_cons, List.length_cons, bindTs_len ts ds ρ1 ρ' h]
theorem g_tp {K : PySem.W.Frag} {sl : List Nat} {gs : TGs} {ts : List Tg} {n : Nat} (hn : n = ts.length) (h1 : GDs K sl gs (bindTs ts)) : GD K sl (gTup K n gs) (bindT (.tp ts)) := by
  intro m H ρ σ d v Q ρ' E r hb h
  cases d with
  | tup ds =>
    cases r with
    | tup s r => exact ⟨_, _, rfl, s.sq, by rw [hn, ← r.length]; exact bindTs_len ts ds ρ ρ' hb, h1 m H ρ σ ds _ Q ρ' E r hb h⟩
  | qtup ds =>
    cases r with
    | qtup s n r => exact ⟨_, _, rfl, .inl s, by rw [hn, ← r.length]; exact bindTs_len ts ds ρ ρ' hb, h1 m H ρ σ ds _ Q ρ' E r hb h⟩
  | _ => cases hb
mutual
def gOf (K : PySem.W.Frag) : Tg → TG
  | .nm i => gName i
  | .tp ts => gTup K ts.length (gOfs K ts)
def gOfs (K : PySem.W.Frag) : List Tg → TGs
  | [] => gNil
  | t :: ts => gCons (gOf K t) (gOfs K ts)
end
mutual
def slots : Tg → List Nat
  | .nm i => [i]
  | .tp ts => slotss ts
def slotss : List Tg → List Nat
  | [] => []
  | t :: ts => slots t ++ slotss ts
end
mutual
theorem gOf_ok {K : PySem.W.Frag} {sl : List Nat} : ∀ t : Tg, (∀ i ∈ slots t, i ∈ sl) → GD K sl (gOf K t) (bindT t)
  | .nm i, h => by
    unfold gOf
    exact g_nm (h i (by simp [slots]))
  | .tp ts, h => by
    unfold gOf
    exact g_tp rfl (gOfs_ok ts fun i hi => h i (by simpa [slots] using hi))
theorem gOfs_ok {K : PySem.W.Frag} {sl : List Nat} : ∀ ts : List Tg, (∀ i ∈ slotss ts, i ∈ sl) → GDs K sl (gOfs K ts) (bindTs ts)
  | [], _ => by unfold gOfs; exact gs_nil
  | t :: ts, h => by
    unfold gOfs
    exact gs_cons (gOf_ok t fun i hi => h i (by simp [slotss, hi])) (gOfs_ok ts fun i hi => h i (by simp [slotss, hi]))
end
abbrev DG (X : Cx) (e : Expr) (t : Tg) : Prop := PG X e (gOf X.K t)
abbrev DGs (X : Cx) (es : List Expr) (ts : List Tg) : Prop := PGs X es (gOfs X.K ts)
theorem tg_nm {i : Nat} {x : Str} (hN : X.N.Nodup) (hi : X.N[i]? = some x := by rfl) (hx : Loc X.env.scope x := by first | exact Or.inl rfl | exact Or.inr rfl) (hf : X.fn x = true ∨ X.env.scope.names.lookup x = some .local := by first | exact .inl rfl | exact .inr rfl | assumption) :
    DG X (.Name x pos) (.nm i) := pg_name hN hi hx hf
theorem tgs_nil : DGs X [] [] := pgs_nil
theorem tgs_cons {t : Tg} {ts : List Tg} (h1 : DG X e t) (h2 : DGs X es ts) (hs : (assignEach (e :: es) X.env).map (·.2) = assign e X.env :: (assignEach es X.env).map (·.2) := by rfl) : DGs X (e :: es) (t :: ts) := pgs_cons h1 h2 hs
theorem tg_tp {ts : List Tg} {k : Nat} (hc : X.calm = true) (h : DGs X es ts) (hn : (assignEach es X.env).length = ts.length := by rfl) (hst : (assignEach es X.env).findIdx? (·.1) = none := by rfl) : DG X (.Tuple es k pos) (.tp ts) := pg_tup hc h hn hst
/-- target = e -/
def mAsg (t : Tg) (me : ME) : MS := fun ρ A => lift (me ρ A) ρ fun d A1 => match bindT t d ρ with
  | some ρ1 => .nx ρ1 A1
  | none => .no
theorem s_asg {t : Tg} (he : DE X W e me) (hg : DG X tg t) (hs : swapsWithSole [tg] e pos.line X.env = pure false := by rfl) (hw : swappedStores [tg] e X.env = pure none := by rfl) (h1 : (assignEach [tg] X.env).map (·.2) = [assign tg X.env] := by rfl) :
    DS X W (.Assign [tg] e pos) (mAsg t me) := PSi (ps_asg he hg hs hw h1) fun D σ H ⟨m, A, ρ, R, E, h⟩ => tE.lift R E h fun m1 A1 d v H1 e1 R1 E1 r1 h1 => by
  split at h1
  · rename_i ρ1 hb
    exact gOf_ok (sl := slots t) t (fun _ h => h) m1 H1 ρ σ d v _ ρ1 E1 r1 hb fun σ' E' _ => PostS.nx R1 E' h1
  · exact h1.elim
end
end DM
end
section
set_option maxHeartbeats 2000000
namespace DM
open PySem PySem.Spec PyProof.Rows L2
/-! ### what is walked -/
inductive ItV where
  | sq (d : D) | rng (lo hi : Int) | en (d : D) | zp (d e : D) | fd (n : Nat) (od : Obj) (ws : List (Key × V)) (kvs : List (Key × D))
/-- a key as data -/
def keyD : Key → D
  | .inl i => .int i
  | .inr x => .str x
/-- numbered -/
def enumD : Nat → List D → List D
  | _, [] => []
  | i, x :: xs => .qtup [.int (i : Nat), x] :: enumD (i + 1) xs
def zipD : List D → List D → List D
  | x :: xs, y :: ys => .qtup [x, y] :: zipD xs ys
  | _, _ => []
open Classical in
noncomputable def itemsOf (A : AH) : ItV → Option (List D)
  | .sq d => seqOf A d
  | .en d => (seqOf A d).map (enumD 0)
  | .zp d e => match seqOf A d, seqOf A e with
    | some xs, some ys => some (zipD xs ys)
    | _, _ => none
  | .rng lo hi => some ((List.range (hi - lo).toNat).map fun i => .int (lo + (i : Nat)))
  | .fd n od ws kvs => if A[n]? = some (.fk od ws kvs) then some (kvs.map fun kv => keyD kv.1) else none
structure Iter (K : PySem.W.Frag) (J : It) (m : Mp) (H : Hp) (iv : ItV) : Prop where
  go : ∀ (m' : Mp) (A' : AH) (H' : Hp) (all : List D) (i : Nat) (d : D), Ext m H m' H' → Rel K m' A' H' → itemsOf A' iv = some all → all[i]? = some d → J.go i H' ∧ ∀ x H'', J.yld i H' x H'' → Rel K m' A' H'' ∧ Ext m' H' m' H'' ∧ RD K m' H'' d x
  stop : ∀ (m' : Mp) (A' : AH) (H' : Hp) (all : List D) (i : Nat), Ext m H m' H' → Rel K m' A' H' → itemsOf A' iv = some all → all.length ≤ i → J.stop i H'
abbrev MI := Env → AH → Res ItV
def tI (K : PySem.W.Frag) (W : WX) (mi : MI) : TI := fun σ H Q => ∃ m A ρ, Rel K m A H ∧ REnv K m H ρ σ ∧ Post K (fun m' H' iv J => Iter K J m' H' iv) W σ m H (mi ρ A) Q
abbrev DI (X : Cx) (W : WX) (tg e : Expr) (mi : MI) : Prop := PI X tg e (tI X.K W mi)
theorem PIor {X : Cx} {tg e : Expr} {t t' u : TI} (h : PI X tg e t) (h' : PI X tg e t') (q : ∀ σ H R, u σ H R → t σ H R ∨ t' σ H R) : PI X tg e u := ⟨fun pins s σ H Q I w => (q σ H Q w).elim (h.run pins s σ H Q I) (h'.run pins s σ H Q I)⟩
theorem PIi {X : Cx} {tg e : Expr} {t u : TI} (h : PI X tg e t) (q : ∀ σ H R, u σ H R → t σ H R) : PI X tg e u := ⟨fun pins s σ H Q I w => h.run pins s σ H Q I (q σ H Q w)⟩
section
variable {X : Cx} {W : WX} {a b c e tg : Expr} {es : List Expr} {ma mb mc me : ME} {mt mu : MT} {ms : MA} {mi : MI} {sa sb : MS} {pos p p2 : Pos} {sts : List Stmt} {t : Tg}
theorem iter_list {K : PySem.W.Frag} {m : Mp} {A : AH} {H : Hp} {d : D} {q : Addr} (hd : isTup d = false) (r : RD K m H d (.ref q)) : Iter K (Itl K q) m H (.sq d) := by
  refine ⟨fun m' A' H' all i x e R hs hi => ?_, fun m' A' H' all i e R hs hl => ?_⟩
  · obtain ⟨q', vs, hq, rs, sq⟩ := seqOf_is R (RD.mono e _ _ r) hs
    cases hq
    rcases sq with ⟨rfl, _⟩ | ⟨_, sq⟩
    · cases hd
    · obtain ⟨v, h1, h2⟩ := rs.get hi
      refine ⟨⟨vs, v, sq, h1⟩, fun y H'' hy => ?_⟩
      obtain ⟨rfl, hy⟩ := hy
      have := hy vs sq
      rw [h1] at this; cases this
      exact ⟨R, Ext.refl _ _, h2⟩
  · obtain ⟨q', vs, hq, rs, sq⟩ := seqOf_is R (RD.mono e _ _ r) hs
    cases hq
    rcases sq with ⟨rfl, _⟩ | ⟨_, sq⟩
    · cases hd
    · exact ⟨vs, sq, by rw [← rs.length]; exact hl⟩
theorem iter_tup {K : PySem.W.Frag} {m : Mp} {A : AH} {H : Hp} {xs : List D} {q : Addr} (r : RD K m H (.tup xs) (.ref q)) : Iter K (Itt K q) m H (.sq (.tup xs)) := by
  refine ⟨fun m' A' H' all i x e R hs hi => ?_, fun m' A' H' all i e R hs hl => ?_⟩
  · cases hs
    cases RD.mono e _ _ r with
    | tup s rs =>
      obtain ⟨v, h1, h2⟩ := rs.get hi
      refine ⟨⟨_, v, s.sq, h1⟩, fun y H'' hy => ?_⟩
      obtain ⟨rfl, hy⟩ := hy
      have := hy _ s.sq
      rw [h1] at this; cases this
      exact ⟨R, Ext.refl _ _, h2⟩
  · cases hs
    cases RD.mono e _ _ r with
    | tup s rs => exact ⟨_, s.sq, by rw [← rs.length]; exact hl⟩
theorem iter_rng {K : PySem.W.Frag} {m : Mp} {H : Hp} {lo hi : Int} : Iter K (Itr lo (hi - lo).toNat) m H (.rng lo hi) := by
  refine ⟨fun m' A' H' all i x e R hs hx => ?_, fun m' A' H' all i e R hs hl => ?_⟩
  · cases hs
    have hlt : i < (hi - lo).toNat := by
      have := (List.getElem?_eq_some_iff.mp hx).1
      rw [List.length_map, List.length_range] at this
      exact this
    rw [List.getElem?_map, List.getElem?_range hlt] at hx
    cases hx
    refine ⟨hlt, fun y H'' hy => ?_⟩
    obtain ⟨rfl, rfl⟩ := hy
    exact ⟨R, Ext.refl _ _, .int _⟩
  · cases hs
    rw [List.length_map, List.length_range] at hl
    exact hl
def mSq (me : ME) : MI := fun ρ A => (me ρ A).bind fun d A1 => match seqOf A1 d with
  | some _ => .ok (.sq d) A1
  | none => .no
theorem i_sq (he : DE X W e me) : DI X W tg e (mSq me) := by
  refine PIor (pi_list he) (pi_tup he) fun σ H Q ⟨m, A, ρ, R, E, h⟩ => ?_
  by_cases ht : ∃ xs A1, me ρ A = .ok (.tup xs) A1
  · obtain ⟨xs, A1, ht⟩ := ht
    refine .inr ⟨m, A, ρ, R, E, ?_⟩
    have h' : Post X.K (fun m' H' iv J => Iter X.K J m' H' iv) W σ m H ((me ρ A).bind fun d A1 => match seqOf A1 d with | some _ => .ok (.sq d) A1 | none => .no) Q := h
    rw [ht] at h' ⊢
    intro m1 H1 v e1 R1 r1
    cases r1 with
    | tup s rs => exact ⟨_, rfl, ⟨_, s.sq⟩, h' m1 H1 _ e1 R1 (iter_tup (A := A1) (.tup s rs))⟩
  · refine .inl ⟨m, A, ρ, R, E, ?_⟩
    have h' : Post X.K (fun m' H' iv J => Iter X.K J m' H' iv) W σ m H ((me ρ A).bind fun d A1 => match seqOf A1 d with | some _ => .ok (.sq d) A1 | none => .no) Q := h
    cases hr : me ρ A with
    | ok d A1 =>
      rw [hr] at h'
      intro m1 H1 v e1 R1 r1
      rw [bind_ok] at h'
      split at h'
      · rename_i xs hs
        obtain ⟨q, vs, rfl, rs, sq⟩ := seqOf_is R1 r1 hs
        rcases sq with ⟨rfl, _⟩ | ⟨hd, sq⟩
        · exact (ht ⟨_, _, hr⟩).elim
        · exact ⟨q, rfl, ⟨vs, sq⟩, h' m1 H1 _ e1 R1 (iter_list (A := A1) hd r1)⟩
      · exact h'.elim
    | exc C fs A1 => rw [hr] at h'; exact h'
    | no => rw [hr] at h'; exact h'
/-- range(n), range(a, b) -/
def mR1 (ms : MA) : MI := fun ρ A => (ms ρ A).bind fun ds A1 => match ds with
  | [.int j] => if -(2 ^ 62) ≤ j ∧ j < 2 ^ 62 then .ok (.rng 0 j) A1 else .no
  | _ => .no
theorem i_r1 (hm : X.mg "range" = none) (ha : DA X W [a] ms) (hg : Gl X "range" := by rfl) (hs : starEach [a] X.env = [(false, eval a X.env)] := by rfl) : DI X W tg (.Call (.Name "range" p) [a] [] pos) (mR1 ms) :=
  PIi (pi_range1 hg hm ha hs) fun σ H Q ⟨m, A, ρ, R, E, h⟩ => tA.bind R E h fun m1 A1 ds vs H1 e1 R1 E1 r1 h1 => by
    split at h1
    · obtain ⟨v, rfl, r⟩ := r1.one
      cases r
      split at h1
      · rename_i j hj
        have z := iter_rng (K := X.K) (m := m1) (H := H1) (lo := 0) (hi := j)
        rw [Int.sub_zero] at z
        exact ⟨j, rfl, hj.1, hj.2, Post.here R1 z h1⟩
      · exact h1.elim
    · exact h1.elim
/-! ### for -/
open Classical in
noncomputable def forGo (iv : ItV) (all : List D) (t : Tg) (sb : MS) : List D → Env → AH → SRes
  | [], ρ, A => if itemsOf A iv = some all then .nx ρ A else .no
  | x :: xs, ρ, A => if itemsOf A iv = some all then (match bindT t x ρ with
    | some ρ1 => (match sb ρ1 A with
      | .nx ρ2 A2 => forGo iv all t sb xs ρ2 A2
      | .ct ρ2 A2 => forGo iv all t sb xs ρ2 A2
      | .bk ρ2 A2 => .nx ρ2 A2
      | .rt d A2 => .rt d A2
      | .exc C fs ρ2 A2 => .exc C fs ρ2 A2
      | .no => .no)
    | none => .no) else .no
noncomputable def mFor (mi : MI) (t : Tg) (sb : MS) : MS := fun ρ A => lift (mi ρ A) ρ fun iv A1 => match itemsOf A1 iv with
  | some all => forGo iv all t sb all ρ A1
  | none => .no
theorem s_for (hp : PassesOwn (model X.prog X.w) X.A X.env X.xe) (hc : X.calm = true) (hi : DI X W tg e mi) (hg : DG X tg t) (hb : DSs X W sts sb) (hs : ∀ x, foldedSetIterable e X.env x = pure x := by intro _; rfl) : DS X W (.For tg e sts [] pos) (mFor mi t sb) :=
  PSi (ps_for hp hc hi hg hb hs) fun D0 σ H ⟨m, A, ρ, R, E, h⟩ => by
    refine ⟨m, A, ρ, R, E, post_lift E h fun m1 A1 iv J H1 e1 R1 itr h1 => ?_⟩
    have E1 := E.mono e1
    split at h1
    · rename_i all hall
      refine ⟨fun i n σ' H' => n = all.length - i ∧ i ≤ all.length ∧ ∃ m' A' ρ', Ext m1 H1 m' H' ∧ Rel X.K m' A' H' ∧ REnv X.K m' H' ρ' σ' ∧ PostS X.K W m' H' (forGo iv all t sb (all.drop i) ρ' A') D0,
        ⟨all.length, by simp, Nat.zero_le _, m1, A1, ρ, Ext.refl _ _, R1, E1, by simpa using h1⟩, ?_⟩
      rintro i n σ' H' ⟨rfl, hi, m', A', ρ', e', R', E', h'⟩
      by_cases hlt : i < all.length
      · rw [List.drop_eq_getElem_cons hlt] at h'
        unfold forGo at h'
        split at h'
        · rename_i hit
          have go := itr.go m' A' H' all i _ e' R' hit (List.getElem?_eq_getElem hlt)
          refine .inr ⟨go.1, fun σ2 H2 => ∃ m2 A2 ρ2, Ext m1 H1 m2 H2 ∧ Rel X.K m2 A2 H2 ∧ REnv X.K m2 H2 ρ2 σ2 ∧ PostS X.K W m2 H2 (forGo iv all t sb (all.drop (i + 1)) ρ2 A2) D0,
            fun σ2 H2 h2 => ⟨all.length - (i + 1), by omega, rfl, hlt, h2⟩, fun x H2 hy => ?_⟩
          obtain ⟨R2, e2, rx⟩ := go.2 x H2 hy
          split at h'
          · rename_i ρ1 hb1
            refine gOf_ok (sl := slots t) t (fun _ h => h) m' H2 ρ' σ' _ x _ ρ1 (E'.mono e2) rx hb1 fun σ3 E3 _ => ⟨m', A', ρ1, R2, E3, ?_⟩
            cases hr : sb ρ1 A' with
            | nx ρ2 A2 => rw [hr] at h'; exact fun m3 H3 σ4 e3 R3 E4 => ⟨m3, A2, ρ2, (e'.trans e2).trans e3, R3, E4, PostS.mono (e2.trans e3) h'⟩
            | ct ρ2 A2 => rw [hr] at h'; exact fun m3 H3 σ4 e3 R3 E4 => ⟨m3, A2, ρ2, (e'.trans e2).trans e3, R3, E4, PostS.mono (e2.trans e3) h'⟩
            | bk ρ2 A2 => rw [hr] at h'; exact fun m3 H3 σ4 e3 R3 E4 => h' m3 H3 σ4 (e2.trans e3) R3 E4
            | rt d A2 => rw [hr] at h'; exact fun m3 H3 v e3 R3 r3 => h' m3 H3 v (e2.trans e3) R3 r3
            | exc C fs ρ2 A2 => rw [hr] at h'; exact fun m3 H3 dx gs σ4 e3 => h' m3 H3 dx gs σ4 (e2.trans e3)
            | no => rw [hr] at h'; exact h'
          · exact h'.elim
        · exact h'.elim
      · have hz : all.drop i = [] := List.drop_eq_nil_of_le (by omega)
        rw [hz] at h'
        unfold forGo at h'
        split at h'
        · rename_i hit
          exact .inl ⟨itr.stop m' A' H' all i e' R' hit (by omega), PostS.nx R' E' h'⟩
        · exact h'.elim
    · exact h1.elim
/-! ### while -/
def iterW (mt : MT) (sb : MS) : Nat → Env → AH → SRes
  | 0, _, _ => .no
  | n + 1, ρ, A => match mt ρ A with
    | .ok true A1 => (match sb ρ A1 with
      | .nx ρ2 A2 => iterW mt sb n ρ2 A2
      | .ct ρ2 A2 => iterW mt sb n ρ2 A2
      | .bk ρ2 A2 => .nx ρ2 A2
      | .rt d A2 => .rt d A2
      | .exc C fs ρ2 A2 => .exc C fs ρ2 A2
      | .no => .no)
    | .ok false A1 => .nx ρ A1
    | .exc C fs A1 => .exc C fs ρ A1
    | .no => .no
theorem iterW_more (mt : MT) (sb : MS) : ∀ (n : Nat) (ρ : Env) (A : AH), iterW mt sb n ρ A ≠ .no → iterW mt sb (n + 1) ρ A = iterW mt sb n ρ A
  | 0, _, _, h => (h rfl).elim
  | n + 1, ρ, A, h => by
    unfold iterW at h ⊢
    split
    · rename_i A1 ht
      rw [ht] at h
      simp only at h
      split
      · rename_i ρ2 A2 hb
        rw [hb] at h
        exact iterW_more mt sb n ρ2 A2 h
      · rename_i ρ2 A2 hb
        rw [hb] at h
        exact iterW_more mt sb n ρ2 A2 h
      · rfl
      · rfl
      · rfl
      · rfl
    · rfl
    · rfl
    · rfl
theorem iterW_le (mt : MT) (sb : MS) {n k : Nat} {ρ : Env} {A : AH} (h : iterW mt sb n ρ A ≠ .no) (hk : n ≤ k) : iterW mt sb k ρ A = iterW mt sb n ρ A := by
  induction k with
  | zero => cases Nat.le_zero.mp hk; rfl
  | succ k ih =>
    by_cases hz : n ≤ k
    · have q := ih hz
      rw [iterW_more mt sb k ρ A (by rw [q]; exact h), q]
    · have : n = k + 1 := by omega
      rw [this]
open Classical in
noncomputable def mWhile (mt : MT) (sb : MS) : MS := fun ρ A => if h : ∃ n, iterW mt sb n ρ A ≠ .no then iterW mt sb (Classical.choose h) ρ A else .no
theorem mWhile_eq {mt : MT} {sb : MS} {n : Nat} {ρ : Env} {A : AH} {r : SRes} (h : iterW mt sb n ρ A = r) (hr : r ≠ .no) : mWhile mt sb ρ A = r := by
  have hx : ∃ n, iterW mt sb n ρ A ≠ .no := ⟨n, by rw [h]; exact hr⟩
  unfold mWhile
  rw [dif_pos hx]
  have hs := Classical.choose_spec hx
  rcases Nat.le_total n (Classical.choose hx) with hle | hle
  · rw [iterW_le mt sb (by rw [h]; exact hr) hle, h]
  · rw [← iterW_le mt sb hs hle, h]
theorem s_while (hp : PassesOwn (model X.prog X.w) X.A X.env X.xe) (hc : DT X W c mt) (hb : DSs X W sts sb) : DS X W (.While c sts [] pos) (mWhile mt sb) :=
  PSi (ps_while hp hc hb) fun D0 σ H ⟨m, A, ρ, R, E, h⟩ => by
    unfold mWhile at h
    split at h
    · rename_i hx
      refine ⟨fun n σ' H' => ∃ m' A' ρ', Rel X.K m' A' H' ∧ REnv X.K m' H' ρ' σ' ∧ PostS X.K W m' H' (iterW mt sb n ρ' A') D0, ⟨_, m, A, ρ, R, E, h⟩, ?_⟩
      rintro n σ' H' ⟨m', A', ρ', R', E', h'⟩
      cases n with
      | zero => exact h'.elim
      | succ n =>
        unfold iterW at h'
        refine ⟨m', A', ρ', R', E', ?_⟩
        cases ht : mt ρ' A' with
        | ok k A1 =>
          rw [ht] at h'
          intro m1 H1 b e1 R1 hb
          subst hb
          have E1 := E'.mono e1
          cases k with
          | true =>
            rw [if_pos rfl]
            refine ⟨fun σ2 H2 => ∃ m2 A2 ρ2, Rel X.K m2 A2 H2 ∧ REnv X.K m2 H2 ρ2 σ2 ∧ PostS X.K W m2 H2 (iterW mt sb n ρ2 A2) D0, fun σ2 H2 h2 => ⟨n, Nat.lt_succ_self n, h2⟩, m1, A1, ρ', R1, E1, ?_⟩
            simp only at h'
            cases hr : sb ρ' A1 with
            | nx ρ2 A2 => rw [hr] at h'; exact fun m3 H3 σ4 e3 R3 E4 => ⟨m3, A2, ρ2, R3, E4, PostS.mono (e1.trans e3) h'⟩
            | ct ρ2 A2 => rw [hr] at h'; exact fun m3 H3 σ4 e3 R3 E4 => ⟨m3, A2, ρ2, R3, E4, PostS.mono (e1.trans e3) h'⟩
            | bk ρ2 A2 => rw [hr] at h'; exact fun m3 H3 σ4 e3 R3 E4 => h' m3 H3 σ4 (e1.trans e3) R3 E4
            | rt d A2 => rw [hr] at h'; exact fun m3 H3 v e3 R3 r3 => h' m3 H3 v (e1.trans e3) R3 r3
            | exc C fs ρ2 A2 => rw [hr] at h'; exact fun m3 H3 dx gs σ4 e3 => h' m3 H3 dx gs σ4 (e1.trans e3)
            | no => rw [hr] at h'; exact h'
          | false =>
            rw [if_neg (by decide)]
            exact PostS.nx R1 E1 (PostS.mono e1 h')
        | exc C fs A1 =>
          rw [ht] at h'
          exact fun m1 H1 dx gs e1 R1 hd hf => h' m1 H1 dx gs σ' e1 R1 (E'.mono e1) hd hf
        | no => rw [ht] at h'; exact h'
    · exact h.elim
end
end DM
end
section
set_option maxHeartbeats 2000000
namespace DM
open PySem PySem.Spec PyProof.Rows L2
/-! ### comprehensions -/
def wipeD (ρ : Env) : List Nat → Env
  | [] => ρ
  | v :: vs => (wipeD ρ vs).set v none
theorem REnv.wipe {K : PySem.W.Frag} {m : Mp} {H : Hp} {ρ : Env} {σ : L2.St} (h : REnv K m H ρ σ) : ∀ vs : List Nat, REnv K m H (wipeD ρ vs) (L2.wipe σ vs)
  | [] => h
  | v :: vs => (REnv.wipe h vs).unset v none
theorem wipe_at {σ : L2.St} {i : Nat} : ∀ {vs : List Nat}, (L2.wipe σ vs)[i]? = if i ∈ vs then (if i < σ.length then some none else none) else σ[i]?
  | [] => by simp [L2.wipe]
  | v :: vs => by
    unfold L2.wipe
    have ih := wipe_at (σ := σ) (i := i) (vs := vs)
    have hl := L2.wipe_length σ vs
    by_cases hv : v = i
    · subst hv
      by_cases hl2 : v < σ.length
      · rw [List.getElem?_set_self (by rw [hl]; exact hl2)]
        simp [hl2]
      · rw [List.getElem?_eq_none (by rw [List.length_set, hl]; omega)]
        simp [hl2]
    · rw [List.getElem?_set_ne hv, ih]
      have : (i ∈ v :: vs) ↔ i ∈ vs := by simp [Ne.symm hv]
      simp only [this]
theorem wipe_same {σ σ2 : L2.St} {vs sl : List Nat} (h : outside sl (L2.wipe σ vs) σ2) (hs : ∀ i ∈ sl, i ∈ vs) : L2.wipe σ2 vs = L2.wipe σ vs := by
  have hl : σ2.length = σ.length := h.1.trans (L2.wipe_length σ vs)
  refine List.ext_getElem? fun i => ?_
  rw [wipe_at, wipe_at]
  by_cases hi : i ∈ vs
  · rw [if_pos hi, if_pos hi, hl]
  · rw [if_neg hi, if_neg hi, h.2 i fun z => hi (hs i z), wipe_at, if_neg hi]
theorem RD.less {K : PySem.W.Frag} {m m' : Mp} {H : Hp} (h1 : m'.1 = m.1) (h2 : ∀ p ∈ m'.2, p ∈ m.2) (d : D) (v : V) (h : RD K m H d v) : RD K m' H d v :=
  RD.move (fun i a e => by rw [h1]; exact e) (fun a o e n => ⟨e, fun y => n.1 (by rw [← h1]; exact y), fun y => n.2 (h2 _ y)⟩) d v h
theorem RDs.less {K : PySem.W.Frag} {m m' : Mp} {H : Hp} (h1 : m'.1 = m.1) (h2 : ∀ p ∈ m'.2, p ∈ m.2) (d : List D) (v : List V) (h : RDs K m H d v) : RDs K m' H d v :=
  RDs.move (fun i a e => by rw [h1]; exact e) (fun a o e n => ⟨e, fun y => n.1 (by rw [← h1]; exact y), fun y => n.2 (h2 _ y)⟩) d v h
theorem grow_r {m : Mp} {pv : List Addr} {q : Addr} (i : Nat) (a : Addr) (h : m.1[i]? = some a) : (m.1 ++ [q], pv).1[i]? = some a := by
  show (m.1 ++ [q])[i]? = _
  rw [List.getElem?_append_left (List.getElem?_eq_some_iff.mp h).1]; exact h
theorem grow_o {m : Mp} {pv : List Addr} {q : Addr} {H : Hp} (hq : q ∈ m.2) (h2 : ∀ p ∈ pv, p ∈ m.2) (a : Addr) (o : HO) (e : H a = some o) (n : Out m a) : H a = some o ∧ Out (m.1 ++ [q], pv) a := by
  refine ⟨e, fun y => ?_, fun y => n.2 (h2 _ y)⟩
  rcases List.mem_append.mp y with y | y
  · exact n.1 y
  · exact n.2 (by rw [List.mem_singleton.mp y]; exact hq)
theorem RD.grow {K : PySem.W.Frag} {m : Mp} {pv : List Addr} {q : Addr} {H : Hp} (hq : q ∈ m.2) (h2 : ∀ p ∈ pv, p ∈ m.2) (d : D) (v : V) (h : RD K m H d v) : RD K (m.1 ++ [q], pv) H d v := RD.move grow_r (grow_o hq h2) d v h
theorem RDs.grow {K : PySem.W.Frag} {m : Mp} {pv : List Addr} {q : Addr} {H : Hp} (hq : q ∈ m.2) (h2 : ∀ p ∈ pv, p ∈ m.2) (d : List D) (v : List V) (h : RDs K m H d v) : RDs K (m.1 ++ [q], pv) H d v := RDs.move grow_r (grow_o hq h2) d v h
theorem Rel.less {K : PySem.W.Frag} {m m' : Mp} {A : AH} {H : Hp} (h1 : m'.1 = m.1) (h2 : ∀ p ∈ m'.2, p ∈ m.2) (R : Rel K m A H) : Rel K m' A H := by
  refine ⟨by rw [h1]; exact R.len, by rw [h1]; exact R.nd, fun p hp => R.pv p (h2 p hp), fun n o hn => ?_⟩
  obtain ⟨q, h3, h4⟩ := R.obj n o hn
  exact ⟨q, by rw [h1]; exact h3, h4.move (fun i a e => by rw [h1]; exact e) (fun a o e n => ⟨e, fun y => n.1 (by rw [← h1]; exact y), fun y => n.2 (h2 _ y)⟩) rfl⟩
theorem past_o {m : Mp} {H : Hp} {q : Addr} {o : HO} (hq : q ∈ m.2) (a : Addr) (u : HO) (e : H a = some u) (n : Out m a) : upd H q o a = some u ∧ Out m a :=
  ⟨by rw [upd_ne fun z => n.2 (by rw [z]; exact hq)]; exact e, n⟩
theorem RD.past {K : PySem.W.Frag} {m : Mp} {H : Hp} {q : Addr} {o : HO} (hq : q ∈ m.2) (d : D) (v : V) (h : RD K m H d v) : RD K m (upd H q o) d v := RD.move (fun _ _ e => e) (past_o hq) d v h
theorem RDs.past {K : PySem.W.Frag} {m : Mp} {H : Hp} {q : Addr} {o : HO} (hq : q ∈ m.2) (d : List D) (v : List V) (h : RDs K m H d v) : RDs K m (upd H q o) d v := RDs.move (fun _ _ e => e) (past_o hq) d v h
theorem Rel.past {K : PySem.W.Frag} {m : Mp} {A : AH} {H : Hp} {q : Addr} {o : HO} (hq : q ∈ m.2) (hn : q ∉ m.1) (R : Rel K m A H) : Rel K m A (upd H q o) := by
  refine ⟨R.len, R.nd, fun p hp z => ?_, fun n u hu => ?_⟩
  · by_cases hpq : p = q
    · rw [hpq, upd_same] at z; cases z
    · rw [upd_ne hpq] at z; exact R.pv p hp z
  · obtain ⟨p, h3, h4⟩ := R.obj n u hu
    have hpq : p ≠ q := fun y => hn (by rw [← y]; exact List.mem_of_getElem? h3)
    exact ⟨p, h3, h4.move (fun _ _ e => e) (past_o hq) (upd_ne hpq)⟩
open Classical in
noncomputable def compGo (iv : ItV) (all : List D) (t : Tg) (tt : MT) (me : ME) (ρ : Env) : List D → List D → AH → Res (List D)
  | [], acc, A => if itemsOf A iv = some all then .ok acc A else .no
  | x :: xs, acc, A => if itemsOf A iv = some all then (match bindT t x ρ with
    | some ρ1 => (match tt ρ1 A with
      | .ok true A1 => (match me ρ1 A1 with
        | .ok y A2 => compGo iv all t tt me ρ xs (acc ++ [y]) A2
        | _ => .no)
      | .ok false A1 => compGo iv all t tt me ρ xs acc A1
      | _ => .no)
    | none => .no) else .no
/-- chg: the new list will change -/
noncomputable def mLc (chg : Bool) (mi : MI) (t : Tg) (tt : MT) (me : ME) (vs : List Nat) : ME := fun ρ A => (mi ρ A).bind fun iv A1 => match itemsOf A1 iv with
  | some all => if all.length ≤ 16777216 then (compGo iv all t tt me (wipeD ρ vs) all [] A1).bind fun acc A2 => if chg = true then .ok (.ref A2.length) (A2 ++ [.lst acc]) else .ok (.lst acc) A2 else .no
  | none => .no
def mYes : MT := fun _ A => .ok true A
abbrev WNo : WX := fun _ _ _ _ => False
section
variable {X : Cx} {W : WX} {a b c e tg iter elt : Expr} {es : List Expr} {ma mb mc me : ME} {mt mu tt : MT} {ms mk : MA} {mi : MI} {sa sb : MS} {pos p p2 : Pos} {sts ifs : List Expr} {t : Tg}
def tTs (K : PySem.W.Frag) (mt : MT) : TT := tT K WNo mt
theorem l_nil : PTs X [] (tTs X.K mYes) := ⟨fun pins s σ H Q I ⟨m, A, ρ, R, E, h⟩ => pts_nil.run pins s σ H Q I (Post.here R rfl h)⟩
theorem l_one (h : DT X WNo c mt) : PTs X [c] (tTs X.K mt) := pts_one h
theorem lcD {K : PySem.W.Frag} {vs : List Nat} {chg : Bool} (hsl : ∀ i ∈ slots t, i ∈ vs) {σ : L2.St} {H : Hp} {Q : VK} (h : tE K W (mLc chg mi t tt me vs) σ H Q) : tLc (tI K W mi) (gOf K t) (tTs K tt) (tE K WNo me) vs σ H Q := by
  obtain ⟨m, A, ρ, R, E, h⟩ := h
  refine ⟨m, A, ρ, R, E, Post.imp (Post.bind (R := fun m' H' iv J => Iter K J m' H' iv) h) fun J H1 ⟨m1, A1, iv, e1, R1, itr, h1⟩ Dl hD => ?_⟩
  have E1 := E.mono e1
  split at h1
  rotate_left
  · exact h1.elim
  rename_i all hall
  split at h1
  rotate_left
  · exact h1.elim
  rename_i hz
  have hout := R1.out hD
  -- the state between two turns
  refine ⟨fun i n H' => n = all.length - i ∧ i ≤ all.length ∧ ∃ (m' : Mp) (A' : AH) (acc : List D) (us : List V), Dl ∈ m'.2 ∧ Dl ∉ m'.1 ∧ Ext m1 H1 m' H' ∧ Rel K m' A' H' ∧ H' Dl = some (.lst us) ∧ RDs K m' H' acc us ∧ acc.length ≤ i ∧
      Post K (RD K) W σ m1 H1 ((compGo iv all t tt me (wipeD ρ vs) (all.drop i) acc A').bind fun acc A2 => if chg = true then .ok (.ref A2.length) (A2 ++ [.lst acc]) else .ok (.lst acc) A2) Q, ?_, ?_⟩
  · refine ⟨all.length, by simp, Nat.zero_le _, (m1.1, Dl :: m1.2), A1, [], [], List.mem_cons_self, hout.1, ?_, ?_, upd_same, .nil, Nat.le_refl _, by simpa using h1⟩
    · refine ⟨⟨[], (List.append_nil _).symm⟩, fun p hp => List.mem_cons_of_mem _ hp, fun p hp => ?_, fun p hp => .inl hp, fun p o ho hn => by rw [upd_ne (ne_of_none ho hD)]; exact ho⟩
      rcases List.mem_cons.mp hp with z | z
      · exact .inr (.inr (by rw [z]; exact hD))
      · exact .inl z
    · have e2 : Ext m1 H1 (m1.1, Dl :: m1.2) (upd H1 Dl (.lst [])) := by
        refine ⟨⟨[], (List.append_nil _).symm⟩, fun p hp => List.mem_cons_of_mem _ hp, fun p hp => ?_, fun p hp => .inl hp, fun p o ho hn => by rw [upd_ne (ne_of_none ho hD)]; exact ho⟩
        rcases List.mem_cons.mp hp with z | z
        · exact .inr (.inr (by rw [z]; exact hD))
        · exact .inl z
      refine ⟨R1.len, R1.nd, fun p hp z => ?_, fun n o hn => ?_⟩
      · rcases List.mem_cons.mp hp with y | y
        · rw [y, upd_same] at z; cases z
        · by_cases hpq : p = Dl
          · rw [hpq, upd_same] at z; cases z
          · rw [upd_ne hpq] at z; exact R1.pv p y z
      · obtain ⟨q, h3, h4⟩ := R1.obj n o hn
        refine ⟨q, h3, h4.keep e2 ?_⟩
        rw [upd_ne fun y => hout.1 (by rw [← y]; exact List.mem_of_getElem? h3)]
  · rintro i n H' ⟨rfl, hi, m', A', acc, us, hp2, hp1, e', R', hDl, ra, hal, h'⟩
    by_cases hlt : i < all.length
    · rw [List.drop_eq_getElem_cons hlt] at h'
      unfold compGo at h'
      split at h'
      rotate_left
      · exact h'.elim
      rename_i hit
      have go := itr.go m' A' H' all i _ e' R' hit (List.getElem?_eq_getElem hlt)
      refine .inr ⟨go.1, fun H2 => ∃ (m' : Mp) (A' : AH) (acc : List D) (us : List V), Dl ∈ m'.2 ∧ Dl ∉ m'.1 ∧ Ext m1 H1 m' H2 ∧ Rel K m' A' H2 ∧ H2 Dl = some (.lst us) ∧ RDs K m' H2 acc us ∧ acc.length ≤ i + 1 ∧
        Post K (RD K) W σ m1 H1 ((compGo iv all t tt me (wipeD ρ vs) (all.drop (i + 1)) acc A').bind fun acc A2 => if chg = true then .ok (.ref A2.length) (A2 ++ [.lst acc]) else .ok (.lst acc) A2) Q,
        fun H2 h2 => ⟨all.length - (i + 1), by omega, rfl, hlt, h2⟩, fun x H2 hy => ?_⟩
      obtain ⟨R2, e2, rx⟩ := go.2 x H2 hy
      have hD2 : H2 Dl = some (.lst us) := e2.keep Dl _ hDl hp1
      split at h'
      rotate_left
      · exact h'.elim
      rename_i ρ1 hb1
      refine gOf_ok (sl := slots t) t (fun _ h => h) m' H2 _ _ _ x _ ρ1 ((E1.wipe vs).mono (e'.trans e2)) rx hb1 fun σ3 E3 o3 => ⟨wipe_same o3 hsl, m', A', ρ1, R2, E3, ?_⟩
      split at h'
      · rename_i A2 htt
        rw [htt]
        intro m3 H3 k e3 R3 hk
        subst hk
        have h31 : Dl ∉ m3.1 := fun z => (e3.new _ z).elim hp1 fun y => by rw [hD2] at y; cases y
        rw [if_pos rfl]
        refine ⟨m3, A2, ρ1, R3, E3.mono e3, ?_⟩
        split at h'
        rotate_left
        · exact h'.elim
        rename_i y A3 hme
        rw [hme]
        intro m4 H4 v e4 R4 r4
        have hD4 : H4 Dl = some (.lst us) := e4.keep Dl _ (e3.keep Dl _ hD2 hp1) h31
        have h41 : Dl ∉ m4.1 := fun z => (e4.new _ z).elim h31 fun y => by rw [e3.keep Dl _ hD2 hp1] at y; cases y
        have h42 : Dl ∈ m4.2 := e4.sub _ (e3.sub _ hp2)
        have et := (e2.trans e3).trans e4
        refine ⟨us, hD4, by rw [← ra.length, sizeLine_eq]; omega, m4, A3, acc ++ [y], us ++ [v], h42, h41, ?_, R4.past h42 h41, upd_same, RDs.past h42 _ _ ((RDs.mono et _ _ ra).append (.cons r4 .nil)), by rw [List.length_append]; simp; omega, h'⟩
        have ez := e'.trans et
        exact ⟨ez.pre, ez.sub, ez.pvs, ez.new, fun p o ho hn => by
          rw [upd_ne (ne_of_none ho hD)]
          exact ez.keep p o ho hn⟩
      · rename_i A2 htt
        rw [htt]
        intro m3 H3 k e3 R3 hk
        subst hk
        have h31 : Dl ∉ m3.1 := fun z => (e3.new _ z).elim hp1 fun y => by rw [hD2] at y; cases y
        rw [if_neg (by decide)]
        exact ⟨m3, A2, acc, us, e3.sub _ hp2, h31, (e'.trans e2).trans e3, R3, e3.keep Dl _ hD2 hp1, RDs.mono (e2.trans e3) _ _ ra, by omega, h'⟩
      · exact h'.elim
    · have hnil : all.drop i = [] := List.drop_eq_nil_of_le (by omega)
      rw [hnil] at h'
      unfold compGo at h'
      split at h'
      rotate_left
      · exact h'.elim
      rename_i hit
      refine .inl ⟨itr.stop m' A' H' all i e' R' hit (by omega), ?_⟩
      rw [bind_ok] at h'
      have sub2 : ∀ p ∈ m1.2, p ∈ m'.2 := e'.sub
      cases chg with
      | false =>
        have eF : Ext m1 H1 (m'.1, m1.2) H' := ⟨e'.pre, fun _ h => h, fun _ h => .inl h, e'.new, e'.keep⟩
        exact h' (m'.1, m1.2) H' _ eF (Rel.less (m := m') (m' := (m'.1, m1.2)) rfl sub2 R') (.lst (.inl ⟨.inl hDl, hp1, hout.2⟩) (RDs.less (m := m') (m' := (m'.1, m1.2)) rfl sub2 _ _ ra))
      | true =>
        obtain ⟨l, hl⟩ := e'.pre
        have eF : Ext m1 H1 (m'.1 ++ [Dl], m1.2) H' := by
          refine ⟨⟨l ++ [Dl], by show m'.1 ++ [Dl] = _; rw [hl, List.append_assoc]⟩, fun _ h => h, fun _ h => .inl h, fun p hp => ?_, e'.keep⟩
          rcases List.mem_append.mp hp with z | z
          · exact e'.new p z
          · exact .inr (by rw [List.mem_singleton.mp z]; exact hD)
        refine h' (m'.1 ++ [Dl], m1.2) H' (.ref Dl) eF ?_ (.ref (by show (m'.1 ++ [Dl])[A'.length]? = some Dl; rw [← R'.len]; simp))
        refine ⟨by rw [List.length_append, List.length_append, R'.len]; rfl, List.nodup_append.mpr ⟨R'.nd, by simp, fun x hx y hy z => hp1 (by rw [← List.mem_singleton.mp hy, ← z]; exact hx)⟩, fun p hp => R'.pv p (sub2 p hp), fun n o hn => ?_⟩
        by_cases hlen : n < A'.length
        · rw [List.getElem?_append_left hlen] at hn
          obtain ⟨q, h3, h4⟩ := R'.obj n o hn
          refine ⟨q, by show (m'.1 ++ [Dl])[n]? = some q; rw [List.getElem?_append_left (by rw [R'.len]; exact hlen)]; exact h3, ?_⟩
          exact h4.move grow_r (grow_o hp2 sub2) rfl
        · rw [List.getElem?_append_right (by omega)] at hn
          have h0 : n - A'.length = 0 := by
            have := (List.getElem?_eq_some_iff.mp hn).1
            simp at this; omega
          rw [h0] at hn
          cases hn
          refine ⟨Dl, ?_, us, hDl, RDs.grow hp2 sub2 _ _ ra⟩
          show (m'.1 ++ [Dl])[n]? = some Dl
          rw [List.getElem?_append_right (by rw [R'.len]; omega), R'.len, h0]; rfl
end
end DM
end
section
set_option maxHeartbeats 2000000
namespace DM
open PySem PySem.Spec PyProof.Rows L2
section
variable {X : Cx} {W : WX} {a b c e tg iter elt : Expr} {es ifs : List Expr} {ma mb mc me : ME} {mt mu tt : MT} {ms mk : MA} {mi : MI} {sa sb : MS} {pos p p2 : Pos} {t : Tg}
theorem d_lc {scope : Scope} (chg : Bool) (own : List (Str × Nat)) (hc : X.calm = true) (hN : X.N.Nodup) (hi : DI X W tg iter mi) (ok : BlkOk X.N X.env.scope scope own)
    (hg : ∀ (s : Shared) (H : Hp) (C : Addr) (cl : List (Str × Addr)) (fp : List Addr), DG (X.blk s H scope (compEnvC scope cl C X.env) fp) tg t)
    (ht : ∀ (s : Shared) (H : Hp) (C : Addr) (cl : List (Str × Addr)) (fp : List Addr), PTs (X.blk s H scope (compEnvC scope cl C X.env) fp) ifs (tTs X.K tt))
    (he : ∀ (s : Shared) (H : Hp) (C : Addr) (cl : List (Str × Addr)) (fp : List Addr), DE (X.blk s H scope (compEnvC scope cl C X.env) fp) WNo elt me)
    {sl : List Nat} (hsl : ∀ i ∈ slots t, i ∈ sl) (ho : own.map (·.2) = sl := by rfl) (hs : ∀ x, foldedSetIterable iter X.env x = pure x := by intro _; rfl) : DE X W (.ListComp elt [⟨tg, iter, ifs, 0⟩] scope pos) (mLc chg mi t tt me sl) := by
  subst ho
  exact PEi (pe_lc hc hN hi ok hg ht he hs) fun _ _ _ h => lcD hsl h
theorem s_setLc {i : Nat} {y : Str} {py spos : Pos} {scope : Scope} (chg : Bool) (own : List (Str × Nat)) (hc : X.calm = true) (hN : X.N.Nodup) (hy : X.N[i]? = some y) (hyl : X.env.scope.names.lookup y = some .local)
    (hsw : swapsWith (.ListComp elt [⟨tg, iter, ifs, 0⟩] scope pos) (some (.Name y py)) spos.line X.env = pure true) (hi : DI X W tg iter mi) (ok : BlkOk X.N X.env.scope scope own)
    (hg : ∀ (s : Shared) (H : Hp) (C : Addr) (cl : List (Str × Addr)) (fp : List Addr), DG (X.blk s H scope (compEnvC scope cl C X.env) fp) tg t)
    (ht : ∀ (s : Shared) (H : Hp) (C : Addr) (cl : List (Str × Addr)) (fp : List Addr), PTs (X.blk s H scope (compEnvC scope cl C X.env) fp) ifs (tTs X.K tt))
    (he : ∀ (s : Shared) (H : Hp) (C : Addr) (cl : List (Str × Addr)) (fp : List Addr), DE (X.blk s H scope (compEnvC scope cl C X.env) fp) WNo elt me)
    {sl : List Nat} (hsl : ∀ i ∈ slots t, i ∈ sl) (ho : own.map (·.2) = sl := by rfl) (hs : ∀ x, foldedSetIterable iter X.env x = pure x := by intro _; rfl) : DS X W (.Assign [.Name y py] (.ListComp elt [⟨tg, iter, ifs, 0⟩] scope pos) spos) (mSet i (mLc chg mi t tt me sl)) := by
  subst ho
  exact PSi (ps_setLc hc hN hy hyl hsw hi ok hg ht he hs) fun _ _ _ h => setD (fun _ q => lcD hsl q) h
theorem s_par2 {i j : Nat} {x y : Str} {px py pt : Pos} {kt k2 : Nat} {pt2 : Pos} (hc : X.calm = true) (hN : X.N.Nodup) (hi : X.N[i]? = some x) (hj : X.N[j]? = some y) (hij : i ≠ j) (hx : X.env.scope.names.lookup x = some .local) (hy : X.env.scope.names.lookup y = some .local)
    (ha : DA X W [a, b] ms) (hw : swappedStores [.Tuple [.Name x px, .Name y py] kt pt] (.Tuple [a, b] k2 pt2) X.env = pure (some [x, y]))
    (hs : swapsWithSole [.Tuple [.Name x px, .Name y py] kt pt] (.Tuple [a, b] k2 pt2) pos.line X.env = pure false := by rfl) :
    DS X W (.Assign [.Tuple [.Name x px, .Name y py] kt pt] (.Tuple [a, b] k2 pt2) pos) (mPar2 i j ms) := PSi (ps_par hc hN hi hj hij hx hy ha hw hs) fun _ _ _ h => par2D h
theorem s_par3 {i j l : Nat} {x y z : Str} {px py pz pt : Pos} {kt k2 : Nat} {pt2 : Pos} (hc : X.calm = true) (hN : X.N.Nodup) (hi : X.N[i]? = some x) (hj : X.N[j]? = some y) (hl : X.N[l]? = some z) (hij : i ≠ j) (hil : i ≠ l) (hjl : j ≠ l)
    (hx : X.env.scope.names.lookup x = some .local) (hy : X.env.scope.names.lookup y = some .local) (hz : X.env.scope.names.lookup z = some .local)
    (ha : DA X W [a, b, c] ms) (hw : swappedStores [.Tuple [.Name x px, .Name y py, .Name z pz] kt pt] (.Tuple [a, b, c] k2 pt2) X.env = pure (some [x, y, z]))
    (hs : swapsWithSole [.Tuple [.Name x px, .Name y py, .Name z pz] kt pt] (.Tuple [a, b, c] k2 pt2) pos.line X.env = pure false := by rfl) :
    DS X W (.Assign [.Tuple [.Name x px, .Name y py, .Name z pz] kt pt] (.Tuple [a, b, c] k2 pt2) pos) (mPar3 i j l ms) := PSi (ps_par3 hc hN hi hj hl hij hil hjl hx hy hz ha hw hs) fun _ _ _ h => par3D h
/-! ### x += e -/
theorem s_aug {i : Nat} {x : Str} {pos' : Pos} {op : Operator} {f : D → D → AH → Res D} {r : R2} (ho : OpR X (inplaceOp op) r) (hf : OpD X.K f r) (hN : X.N.Nodup) (hi : X.N[i]? = some x) (hx : Loc X.env.scope x) (he : DE X W e me)
    (hx2 : X.fn x = true ∨ X.env.scope.names.lookup x = some .local := by first | exact .inl rfl | exact .inr rfl | assumption) : DS X W (.AugAssign (.Name x pos') op e pos) (mAug i f me) :=
  PSi (ps_aug hN hi hx he (ti := r) (fun pins s σ H x y u v Q I rx ry q => ho pins s σ H x y u v Q I rx ry q) hx2) fun D0 σ H ⟨m, A, ρ, R, E, h⟩ => by
    unfold mAug at h
    split at h
    · rename_i d hd
      obtain ⟨v, h1, h2⟩ := E.2 i d hd
      refine ⟨v, h1, ?_⟩
      have h' : PostS X.K W m H (lift (me ρ A) ρ fun y A1 => lift (f d y A1) ρ fun z A2 => .nx (ρ.set i (some z)) A2) D0 := by
        cases hr : me ρ A with
        | ok y A1 => rw [hr] at h; exact h
        | exc C fs A1 => rw [hr] at h; exact h
        | no => rw [hr] at h; exact h
      refine tE.lift R E h' fun m1 A1 d1 v1 H1 e1 R1 E1 r1 h3 => hf W σ m1 A1 H1 v v1 d d1 _ R1 (RD.mono e1 _ _ h2) r1 (post_lift E1 h3 fun m2 A2 d2 v2 H2 e2 R2 r2 h4 => PostS.nx R2 ((E1.mono e2).set r2 i) h4)
    · exact h.elim
end
/-! ### defs -/
def spD (K : PySem.W.Frag) (n : Nat) (mf : List D → AH → Res D) : Sp := fun vs H Q E => vs.length = n ∧ ∃ m A ds, Rel K m A H ∧ RDs K m H ds vs ∧ Post K (RD K) (fun c d _ H' => E c d H') [] m H (mf ds A) Q
structure FnD (P : Program) (w : World) (K : PySem.W.Frag) (mg : Str → Option Value) (base : Heap) (k : Nat) (f : Addr) (fd : FuncData) (ps : List Str) (mf : List D → AH → Res D) : Prop where
  run : ∀ (A : Around) (outer : List PySem.Env) (s : Shared) (H : Hp) (args : Args) (us : List Value) (vs : List V) (Q : VK) (E : XK), Room k A → A.guards = some [] → Env0 P w K mg base A outer s H → BindsTo s fd args (ps.zip us) → Vals vs us →
    spD K ps.length mf vs H Q E → codeAny (model P w) A (.call (.ref f) args) (CR (L2.CX P w) outer P w H s Q E) s
def mFun (n : Nat) (ms : MS) : List D → AH → Res D := fun ds A => match ms (ds.map some ++ List.replicate (n - ds.length) none) A with
  | .nx _ A1 => .ok .non A1
  | .rt d A1 => .ok d A1
  | .exc C fs _ A1 => .exc C fs A1
  | .bk _ _ => .no
  | .ct _ _ => .no
  | .no => .no
theorem start_rel {K : PySem.W.Frag} {m : Mp} {H : Hp} {ds : List D} {vs : List V} {N : List Str} (r : RDs K m H ds vs) : REnv K m H (ds.map some ++ List.replicate (N.length - ds.length) none) (L2.start N vs) := by
  unfold L2.start
  refine ⟨by rw [List.length_append, List.length_append, List.length_map, List.length_map, List.length_replicate, List.length_replicate, r.length], fun i d h => ?_⟩
  by_cases hi : i < ds.length
  · rw [List.getElem?_append_left (by rw [List.length_map]; exact hi), List.getElem?_map] at h
    cases hd : ds[i]? with
    | none => rw [hd] at h; cases h
    | some d' =>
      rw [hd] at h
      cases h
      obtain ⟨v, h1, h2⟩ := r.get hd
      exact ⟨v, by rw [List.getElem?_append_left (by rw [List.length_map, ← r.length]; exact hi), List.getElem?_map, h1]; rfl, h2⟩
  · rw [List.getElem?_append_right (by rw [List.length_map]; omega), List.getElem?_replicate] at h
    split at h <;> cases h
section
variable {P : Program} {w : World} {K : PySem.W.Frag} {mg : Str → Option Value} {base : Heap}
/-- a def by its body -/
theorem FnD.of {x qual : Str} {st : Stmt} {f : Addr} {fd : FuncData} {N ps : List Str} {k : Nat} {ms : MS} (F : Fun K x qual st f fd) (S : FnScope N ps (defScope st))
    (hb : ∀ (cdv : Value), fd.code = cdv → ∀ (A : Around) (outer : List PySem.Env) (s : Shared) (H : Hp) (E : XK), Room k (A.deeper (envOfC qual (defScope st) s.heap.objs.size f cdv)) → (A.deeper (envOfC qual (defScope st) s.heap.objs.size f cdv)).guards = some [] →
      Takes (cxOf (L2.CX P w) P w K mg base N qual (defScope st) f cdv A outer s H E) (fun c d _ H' => E c d H') →
      PassesOwn (model P w) (A.deeper (envOfC qual (defScope st) s.heap.objs.size f cdv)) (envOfC qual (defScope st) s.heap.objs.size f cdv) (cxOf (L2.CX P w) P w K mg base N qual (defScope st) f cdv A outer s H E).xe → DSs (cxOf (L2.CX P w) P w K mg base N qual (defScope st) f cdv A outer s H E) (fun c d _ H' => E c d H') (defBody st) ms) {n : Nat} (hn : N.length = n := by rfl) : FnD P w K mg base (k + 1) f fd ps (mFun n ms) := by
  subst hn
  obtain ⟨oc, od, kV, doc, pm, an, cdv, ct, osl, rfl, lk, hcd⟩ := F.ex
  refine ⟨fun A outer s H args us vs Q E room gd en bi rel hsp => ?_⟩
  obtain ⟨hlen, m, AA, ds, R, rds, post⟩ := hsp
  have kin : K.In s.heap := en.mod.kin.keeps fun b o h => (en.bs b o h).1
  have nolim : s.heap.NoLimit := en.mod.nolimit.keeps fun b o h => (en.bs b o h).1
  have kinds : ∀ y ∈ ps.zip us, (defScope st).names.lookup y.1 = some .local ∨ ((defScope st).names.lookup y.1 = some .cell ∧ ((cellsFrom (s.heap.objs.size + 1) (defScope st).names []).lookup y.1).isSome = true) := by
    rintro ⟨n, v⟩ hy
    rcases S.par n (List.of_mem_zip hy).1 with z | z
    · exact .inl z
    · exact .inr ⟨z, PySem.W.cellsFrom_some _ _ _ (.inl z)⟩
  refine codeAny_call_function room.depth (kin _ _ lk) rfl S.co S.gen rfl (PySem.W.codeRec_of kin hcd) (bi _ _ _ _ (wpAny_newFunctionEnv_cells S.kind kinds fun env henv s1 hx => ?_))
  subst henv
  refine ⟨nolim.keeps hx.toInCall.keep, codeAny_func ?_⟩
  have body := hb cdv rfl A outer s H E (room.deeper _) gd (takes_of rfl rfl rfl rfl) (passes_of rfl)
  have I := inv_start (CX := L2.CX P w) (E := E) S room.hd en hlen rel hx
  have want : tS K (fun c d _ H' => E c d H') ms { nx := fun _ H' => Q .non H', rt := Q } (L2.start N vs) H := by
    refine ⟨m, AA, _, R, start_rel (N := N) rds, ?_⟩
    unfold mFun at post
    cases hr : ms (ds.map some ++ List.replicate (N.length - ds.length) none) AA with
    | nx ρ1 A1 => rw [hr] at post; exact fun m' H' σ' e1 R1 _ => post m' H' .non e1 R1 .non
    | rt d A1 => rw [hr] at post; exact fun m' H' v e1 R1 r1 => post m' H' v e1 R1 r1
    | exc C fs ρ1 A1 => rw [hr] at post; exact fun m' H' c dx σ' e1 R1 _ hc hx => post m' H' c dx e1 R1 hc hx
    | bk ρ1 A1 => rw [hr] at post; exact post.elim
    | ct ρ1 A1 => rw [hr] at post; exact post.elim
    | no => rw [hr] at post; exact post.elim
  have back : ∀ {σ' : L2.St} {H' : Hp} {v : V} {u : Value} {s' : Shared}, Inv (cxOf (L2.CX P w) P w K mg base N qual (defScope st) f cdv A outer s H E) [] σ' H' s' → RelV v u → Q v H' → CE outer P w H s Q u s' :=
    fun J ru q => ⟨_, _, J.os, J.bare, J.base, J.hok, ru, q⟩
  refine wpAny_mono (body.run [] s1 (L2.start N vs) H _ I want) (fun fl s' z => ?_) fun _ _ z => z
  cases fl with
  | next =>
    obtain ⟨_, _, J, q⟩ := z
    exact back (v := V.non) (u := Value.none) J rfl q
  | ret u =>
    obtain ⟨_, _, _, J, ru, q⟩ := z
    exact back J ru q
  | brk =>
    obtain ⟨_, _, _, q⟩ := z
    exact q.elim
  | cont =>
    obtain ⟨_, _, _, q⟩ := z
    exact q.elim
theorem FnD.up {j k : Nat} {f : Addr} {fd : FuncData} {ps : List Str} {mf : List D → AH → Res D} (F : FnD P w K mg base j f fd ps mf) (h : j ≤ k) : FnD P w K mg base k f fd ps mf :=
  ⟨fun A outer s H args us vs Q E hr => F.run A outer s H args us vs Q E (hr.mono h)⟩
end
/-! ### calls -/
def mCallF (n : Nat) (mf : List D → AH → Res D) (ms : MA) : ME := fun ρ A => (ms ρ A).bind fun ds A1 => if ds.length = n then mf ds A1 else .no
section
variable {X : Cx} {W : WX} {k : Nat} {f : Addr} {fd : FuncData} {ps ks : List Str} {mf : List D → AH → Res D} {x : Str} {p pos kpos : Pos} {e : Expr} {es : List Expr} {ms mk : MA} {me : ME} {kws : List Keyword} {nm : Option Str}
theorem run_D {pins : List (Addr × Obj)} {σ : L2.St} {H : Hp} {s : Shared} {Q : VK} {us : List Value} {vs : List V} {args : Args} (F : FnD X.prog X.w X.K X.mg X.base k f fd ps mf) (hr : Room k X.A) (gd : X.A.guards = some []) (tk : Takes X W)
    (I : Inv X pins σ H s) (bi : BindsTo s fd args (ps.zip us)) (r : Vals vs us) (h : spD X.K ps.length mf vs H Q (WE W σ)) : codeAny (model X.prog X.w) X.A (.call (.ref f) args) (fun r s' => match r with
      | .ok (.ret u) => EP X pins σ Q u s'
      | .ok _ => False
      | .error z => X.xe z s') s := by
  refine codeAny_mono (F.run X.A X.stack s H args us vs Q (WE W σ) hr gd I.env0 bi r h) fun r s' hq => ?_
  cases r with
  | error z => exact passAt tk σ pins H s z s' I hq
  | ok fl =>
    cases fl with
    | ret u => exact I.after hq
    | next => exact hq
    | brk => exact hq
    | cont => exact hq
theorem call_D {pins : List (Addr × Obj)} {σ : L2.St} {s : Shared} {Q : VK} {us : List Value} {kw : List (Str × Value)} (h : codeAny (model X.prog X.w) X.A (.call (.ref f) ⟨us, kw⟩) (fun r s' => match r with
      | .ok (.ret u) => EP X pins σ Q u s'
      | .ok _ => False
      | .error z => X.xe z s') s) : wpAny (model X.prog X.w) X.A (call (.ref f) us kw) (EP X pins σ Q) X.xe s := by
  refine wpAny_call (codeAny_mono h fun r s' z => ?_)
  cases r with
  | error y => exact z
  | ok fl => cases fl <;> first | exact z | exact z.elim
/-- f(a, ..) -/
theorem d_call (F : FnD X.prog X.w X.K X.mg X.base k f fd ps mf) (hr : Room k X.A) (gd : X.A.guards = some []) (tk : Takes X W) (hm : X.mg x = some (.ref f)) (hk : PySem.W.keepIn X.K (.ref f) = true) (hb : Binds X.K fd ps []) (ha : DA X W (e :: es) ms) {n : Nat} (hn : ps.length = n := by rfl)
    (hg : Gl X x := by rfl) (hdb : (x == ("__debug__" : Str)) = false := by decide) (he : starEach (e :: es) X.env = (false, eval e X.env) :: starEach es X.env := by rfl) (hpl : (backTo pos (starEach es X.env)).any (·.1) = false := by rfl) :
    DE X W (.Call (.Name x p) (e :: es) [] pos) (mCallF n mf ms) := by
  subst hn
  refine ⟨fun pins s σ H Q I ⟨m, A, ρ, R, E, h⟩ => wpAny_Call_Name_kw (ld_glob I hg hm (PySem.W.callWith_K (h₀ := X.base) I.ok.mod.kin hk (thn (ha.run pos pins s σ H _ I (tA.bind (T := fun vs H1 => spD X.K ps.length mf vs H1 Q (WE W σ)) R E h fun m1 A1 ds vs H1 e1 R1 E1 r1 h1 => ?_)) fun us s1 ⟨vs, H1, I1, r, q⟩ => ⟨I1.kIn, call_D ?_⟩) he hpl) hdb)⟩
  · split at h1
    · rename_i hl
      exact ⟨by rw [← r1.length]; exact hl, m1, A1, ds, R1, r1, by
        cases hz : mf ds A1 with
        | ok d A2 => rw [hz] at h1; exact h1
        | exc C fs A2 => rw [hz] at h1; exact h1
        | no => rw [hz] at h1; exact h1⟩
    · exact h1.elim
  · have b := hb s1 us I1.kIn (by rw [List.append_nil, ← r.length]; exact q.1)
    rw [List.append_nil] at b
    exact run_D F hr gd tk I1 b r q
/-- keywords -/
abbrev DK (X : Cx) (W : WX) (kws : List Keyword) (mk : MA) : Prop := PK X kws (tA X.K W mk)
theorem k_nil : DK X W [] mNil := ⟨fun pos pins s σ H Q I ⟨m, A, ρ, R, E, h⟩ => pk_nil.run pos pins s σ H Q I (Post.here R .nil h)⟩
theorem k_cons (ha : DE X W e me) (hr : DK X W kws mk) : DK X W (⟨nm, e, kpos⟩ :: kws) (mCons me mk) :=
  ⟨fun pos pins s σ H Q I ⟨m, A, ρ, R, E, h⟩ => (pk_cons ha hr).run pos pins s σ H Q I (tE.bind R E h fun m1 A1 d v H1 e1 R1 E1 r1 h1 => tA.bind R1 E1 h1 fun m2 A2 ds vs H2 e2 R2 E2 r2 h2 => Post.here R2 (.cons (RD.mono e2 _ _ r1) r2) h2)⟩
def pick {α : Type} (pm : List Nat) (xs : List α) : List α := pm.filterMap fun i => xs[i]?
theorem RDs.pick {K : PySem.W.Frag} {m : Mp} {H : Hp} {ds : List D} {vs : List V} (r : RDs K m H ds vs) : ∀ pm : List Nat, RDs K m H (DM.pick pm ds) (DM.pick pm vs)
  | [] => .nil
  | i :: pm => by
    have ih := RDs.pick r pm
    unfold DM.pick at ih ⊢
    rw [List.filterMap_cons, List.filterMap_cons]
    cases hd : ds[i]? with
    | none =>
      have : vs[i]? = none := List.getElem?_eq_none (by rw [← r.length]; exact List.getElem?_eq_none_iff.mp hd)
      rw [this]; exact ih
    | some d =>
      obtain ⟨v, h1, h2⟩ := r.get hd
      rw [h1]; exact .cons h2 ih
theorem Vals.pick {vs : List V} {us : List Value} (r : Vals vs us) : ∀ pm : List Nat, Vals (DM.pick pm vs) (DM.pick pm us)
  | [] => .nil
  | i :: pm => by
    have ih := Vals.pick r pm
    unfold DM.pick at ih ⊢
    rw [List.filterMap_cons, List.filterMap_cons]
    cases hd : vs[i]? with
    | none =>
      have : us[i]? = none := L2.Vals.none_of r hd
      rw [this]; exact ih
    | some v =>
      obtain ⟨u, h1, h2⟩ := L2.Vals.get r hd
      rw [h1]; exact .cons h2 ih
def KB (K : PySem.W.Frag) (fd : FuncData) (ps : List Str) (n : Nat) (ks : List Str) (pm : List Nat) : Prop := ∀ (s : Shared) (us ws : List Value), K.In s.heap → us.length = n → ws.length = ks.length → BindsTo s fd ⟨us, ks.zip ws⟩ (ps.zip (DM.pick pm (us ++ ws)))
def mCallK (n l a : Nat) (pm : List Nat) (mf : List D → AH → Res D) (ms mk : MA) : ME := fun ρ A => (ms ρ A).bind fun ds A1 => (mk ρ A1).bind fun es A2 => if ds.length = n ∧ es.length = l ∧ (DM.pick pm (ds ++ es)).length = a then mf (DM.pick pm (ds ++ es)) A2 else .no
theorem d_callK0 {pm : List Nat} (F : FnD X.prog X.w X.K X.mg X.base k f fd ps mf) (hr : Room k X.A) (gd : X.A.guards = some []) (tk : Takes X W) (hm : X.mg x = some (.ref f)) (hk : PySem.W.keepIn X.K (.ref f) = true) (hb : KB X.K fd ps 0 ks pm) (hkw : DK X W kws mk) {l n : Nat} (hl : ks.length = l := by rfl) (hn : ps.length = n := by rfl)
    (hg : Gl X x := by rfl) (hall : (backToKw pos (keywordEach kws X.env)).all (·.1.isSome) = true := by rfl) (hks : (backToKw pos (keywordEach kws X.env)).filterMap (·.1) = ks := by rfl) (hdb : (x == ("__debug__" : Str)) = false := by decide)
    (hpl : ((backTo pos (starEach [] X.env)).any (·.1) || (backToKw pos (keywordEach kws X.env)).any (·.1.isNone)) = false := by rfl) : DE X W (.Call (.Name x p) [] kws pos) (mCallK 0 l n pm mf mNil mk) := by
  subst hl hn
  refine ⟨fun pins s σ H Q I ⟨m, A, ρ, R, E, h⟩ => wpAny_Call_Name_kw (ld_glob I hg hm (PySem.W.callWith_KW0 (h₀ := X.base) I.ok.mod.kin hk hall (thn (hkw.run pos pins s σ H (fun zs H1 => zs.length = ks.length ∧ spD X.K ps.length mf (DM.pick pm zs) H1 Q (WE W σ)) I (tA.bind R E (show Post X.K (RD X.K) W σ m H ((mk ρ A).bind fun es A2 => if ([] : List D).length = 0 ∧ es.length = ks.length ∧ (DM.pick pm ([] ++ es)).length = ps.length then mf (DM.pick pm ([] ++ es)) A2 else .no) Q from h) fun m1 A1 ds vs H1 e1 R1 E1 r1 h1 => ?_)) fun ws s2 ⟨zs, H2, I2, rz, hl, q⟩ => ⟨I2.kIn, ?_⟩) hpl) hdb)⟩
  · split at h1
    · rename_i hl
      refine ⟨by rw [← r1.length]; exact hl.2.1, by rw [← (r1.pick pm).length]; exact hl.2.2, m1, A1, _, R1, r1.pick pm, ?_⟩
      rw [List.nil_append] at h1
      cases hz : mf (DM.pick pm ds) A1 with
      | ok d A2 => rw [hz] at h1; exact h1
      | exc C fs A2 => rw [hz] at h1; exact h1
      | no => rw [hz] at h1; exact h1
    · exact h1.elim
  · rw [hks]
    exact call_D (run_D F hr gd tk I2 (hb s2 [] ws I2.kIn rfl (by rw [← L2.Vals.length rz]; exact hl)) (Vals.pick rz pm) q)
end
end DM
end
section
set_option maxHeartbeats 2000000
namespace DM
open PySem PySem.Spec PyProof.Rows L2
/-! ### the law's call -/
theorem rd_ints {K : PySem.W.Frag} {m : Mp} {H : Hp} : ∀ ns : List Int, RDs K m H (ns.map D.int) (ns.map V.int)
  | [] => .nil
  | n :: ns => .cons (.int n) (rd_ints ns)
/-- code objects with their tables and what their lambdas are called -/
abbrev Tabs0 := List (Addr × Addr × Str)
abbrev tabs0 (cs : Tabs0) : AH := cs.map fun p => AO.tab p.2.1 p.2.2
theorem law_run {P : Program} {w : World} {K : PySem.W.Frag} {mg mb : Str → Option Value} {k : Nat} {fa a : Addr} {fd : FuncData} {x : Str} {s : Shared} {us : List Value} {ns : List Int} {cs : Tabs0}
    (kin : K.In s.heap) (gl : s.heap.Ns mainGlobals mg) (bl : s.heap.Ns builtinsNs mb) (bb : ∀ y : Str, y ≠ "__name__" → mb y = bootBuiltins y) (nl : s.heap.NoLimit) (ge : s.gens = #[])
    (hT : ∀ p ∈ cs, s.heap.get? p.2.1 = some { cls := .none, data := .fields #[] }) (nT : ∀ p ∈ cs, K.lookup p.2.1 = none) (hC : ∀ p ∈ cs, PySem.W.CodeHd s.heap p.1 p.2.1) (nd : (cs.map (·.2.1)).Nodup)
    (bm : ∃ (b : Addr) (ob : Obj), mg "__builtins__" = some (.ref b) ∧ b ≠ builtinsNs ∧ s.heap.get? b = some ob ∧ ob.cls = .type "module" ∧ ob.dict = some builtinsNs ∧ ob.data = .plain)
    (ho : s.heap.get? a = some { cls := .type "list", data := .seq us.toArray }) (ia : IntsAre us ns) (hn : ns.length ≤ sizeLine) (room : Room k callerA)
    (F : ∀ base : Heap, K.In base → base.Ns mainGlobals mg → (∀ p ∈ cs, LamX.TabB base mg p.1 p.2.1) → ∃ (mf : List D → AH → Res D) (AE : AH), mf [.lst (ns.map D.int)] (tabs0 cs) = .ok (.bl true) AE ∧ FnD P w K mg base k fa fd [x] mf)
    (bi : ∀ (t : Shared) (u : Value), BindsTo t fd ⟨[u], []⟩ [(x, u)]) :
    codeAny (model P w) callerA (.call (.ref fa) ⟨[.ref a], []⟩) (fun r s' => r = .ok (.ret (.bool true)) ∧ OldK s.heap s'.heap ∧ s'.os = s.os ∧ AllBare s'.gens) s := by
  have vi := L2.vals_ints ia
  obtain ⟨tb, etb⟩ : ∃ tb : List Addr, tb = cs.map (·.2.1) := ⟨_, rfl⟩
  have inT : ∀ p ∈ cs, p.2.1 ∈ tb := fun p hp => by rw [etb]; exact List.mem_map.mpr ⟨p, hp, rfl⟩
  have atT : ∀ b ∈ tb, s.heap.get? b = some { cls := .none, data := .fields #[] } ∧ K.lookup b = none := fun b hb => by
    rw [etb] at hb
    obtain ⟨p, hp, e⟩ := List.mem_map.mp hb
    rw [← e]
    exact ⟨hT p hp, nT p hp⟩
  have aT : a ∉ tb := fun z => by
    have q := (atT a z).1
    rw [ho] at q
    cases q
  -- the script and the tables are all that may be told of
  suffices go : ∀ H : Hp, (∀ b, H b = none ∨ (b = a ∧ K.lookup a = none ∧ ∃ o, H b = some (.frz o (.lst (ns.map V.int)))) ∨ b ∈ tb) → (∀ b ∈ tb, H b = some (.tbl #[])) → SqL K H a (ns.map V.int) → HOk P w H s.heap →
      codeAny (model P w) callerA (.call (.ref fa) ⟨[.ref a], []⟩) (fun r s' => r = .ok (.ret (.bool true)) ∧ OldK s.heap s'.heap ∧ s'.os = s.os ∧ AllBare s'.gens) s by
    cases hk : K.lookup a with
    | some o =>
      have e := kin a o hk
      rw [ho] at e
      cases e
      refine go (fun b => if b ∈ tb then some (.tbl #[]) else none) (fun b => ?_) (fun b hb => if_pos hb) (.inr ⟨_, us.toArray, _, hk, rfl, rfl, rfl, ?_, ?_⟩) fun b u z => ?_
      · by_cases hb : b ∈ tb
        · exact .inr (.inr hb)
        · exact .inl (if_neg hb)
      · rw [List.size_toArray, ia.length]; exact hn
      · rw [List.toList_toArray]; exact vi
      · by_cases hb : b ∈ tb
        · have z' := (if_pos hb).symm.trans z
          cases z'
          exact (atT b hb).1
        · have z' := (if_neg hb).symm.trans z
          cases z'
    | none =>
      refine go (fun b => if b = a then some (.frz { cls := .type "list", data := .seq us.toArray } (.lst (ns.map V.int))) else if b ∈ tb then some (.tbl #[]) else none) (fun b => ?_) (fun b hb => (if_neg fun z => aT (by rw [← z]; exact hb)).trans (if_pos hb)) (.inl (.inr ⟨_, if_pos rfl⟩)) fun b u z => ?_
      · by_cases hb : b = a
        · exact .inr (.inl ⟨hb, hk, _, if_pos hb⟩)
        · by_cases hb2 : b ∈ tb
          · exact .inr (.inr hb2)
          · exact .inl ((if_neg hb).trans (if_neg hb2))
      · by_cases hb : b = a
        · have z' := (if_pos hb).symm.trans z
          cases z'
          rw [hb]
          exact ⟨ho, by rw [List.length_map]; exact hn, us, _, vi, ho⟩
        · have z1 := (if_neg hb).symm.trans z
          by_cases hb2 : b ∈ tb
          · have z' := (if_pos hb2).symm.trans z1
            cases z'
            exact (atT b hb2).1
          · have z' := (if_neg hb2).symm.trans z1
            cases z'
  intro H only tbl hS hok
  have free : ∀ {b : Addr} {o : Obj}, s.heap.get? b = some o → (∀ l n, o.data ≠ .seq l n) → o.data ≠ .fields #[] → H b = none := fun {b o} h hd hf => by
    rcases only b with z | ⟨rfl, _, _, _⟩ | z
    · exact z
    · rw [ho] at h
      cases h
      exact (hd _ _ rfl).elim
    · rw [(atT b z).1] at h
      cases h
      exact (hf rfl).elim
  have nsb : ∀ {b : Addr} {m : Str → Option Value}, s.heap.Ns b m → (hidT s.heap H).Ns b m := fun {b m} z => by
    obtain ⟨o, es, ep, h1, h2, h3⟩ := z
    exact ⟨o, es, ep, hidT_get h1 (free h1 (fun l n y => by rw [h2] at y; cases y) fun y => by rw [h2] at y; cases y), h2, h3⟩
  have kb : K.In (hidT s.heap H) := fun b o h => hidT_get (kin b o h) (by
    rcases only b with z | ⟨rfl, hk, _⟩ | z
    · exact z
    · rw [hk] at h; cases h
    · rw [(atT b z).2] at h; cases h)
  have TB : ∀ p ∈ cs, LamX.TabB (hidT s.heap H) mg p.1 p.2.1 := fun p hp => by
    have hPt := hT p hp
    refine ⟨?_, ?_, fun z => ?_⟩
    · obtain ⟨o, vs, file, tf, flags, tg, inF, text, tt, e1, r1, r2, r3, rest⟩ := hC p hp
      refine ⟨o, vs, file, tf, flags, tg, inF, text, tt, hidT_get e1 (free e1 (fun l n z => ?_) fun z => ?_), r1, r2, r3, rest⟩
      · rw [r2] at z; cases z
      · rw [r2] at z; cases z; simp at r3
    · obtain ⟨b, ob, b1, b2, b3, b4, b5, b6⟩ := bm
      refine ⟨b, ob, b1, b2, fun q => ?_, fun q => ?_, hidT_get b3 (free b3 (fun l n z => ?_) fun z => ?_), b4, b5, b6⟩
      · obtain ⟨o, es, ep, e, hd, _⟩ := gl
        rw [q, e] at b3
        cases b3
        rw [hd] at b6
        cases b6
      · rw [q, hPt] at b3
        cases b3
        cases b6
      · rw [b6] at z; cases z
      · rw [b6] at z; cases z
    · obtain ⟨o, es, ep, e, hd, _⟩ := gl
      rw [z, hPt] at e
      cases e
      cases hd
  have en : Env0 P w K mg (hidT s.heap H) callerA [] s H := by
    obtain ⟨mc, h1, h2⟩ := nl
    exact { frames := rfl, mod := ⟨kb, nsb gl, ⟨mb, nsb bl, bb⟩, mc, nsb h1, h2⟩, bs := fun b o h => of_hidT h, bsz := Nat.le_of_eq (hidT_size _ _), funs := trivial, frf := fun b hb => (nomatch hb), hok := hok, bare := .of_eq ge }
  obtain ⟨mf, AE, law, FF⟩ := F _ kb (nsb gl) TB
  have R0 : Rel K (tb, []) (tabs0 cs) H := by
    refine ⟨by rw [etb, List.length_map, List.length_map], by rw [etb]; exact nd, fun p hp => (nomatch hp), fun n o h => ?_⟩
    rw [List.getElem?_map] at h
    cases hc : cs[n]? with
    | none => rw [hc] at h; cases h
    | some p =>
      rw [hc] at h
      cases h
      refine ⟨p.2.1, by show tb[n]? = _; rw [etb, List.getElem?_map, hc]; rfl, rfl, #[], tbl _ (inT p (List.mem_of_getElem? hc)), trivial, fun pos cv hcv => ?_⟩
      have z : codeAmong pos [] = some cv := hcv
      simp [codeAmong] at z
  have pre : spD K [x].length mf [.ref a] H (fun v _ => v = .bl true) fun _ _ _ => False := by
    refine ⟨rfl, (tb, []), tabs0 cs, [.lst (ns.map D.int)], R0, .cons (.lst ?_ (rd_ints ns)) .nil, ?_⟩
    · rcases hS with z | z
      · exact .inl ⟨z, aT, (List.not_mem_nil ·)⟩
      · exact .inr z
    · rw [law]
      intro m' H' v _ _ r
      cases r
      rfl
  refine codeAny_mono (FF.run callerA [] s H ⟨[.ref a], []⟩ [.ref a] [.ref a] _ _ room rfl en (bi s (.ref a)) (.cons rfl .nil) pre) fun r s' h => ?_
  cases r with
  | error z =>
    obtain ⟨_, _, _, _, _, _, _, _, _, _, _, _, y⟩ := h
    exact y.elim
  | ok fl =>
    cases fl with
    | ret u =>
      obtain ⟨v, H', os, bare, un, hok', rv, q⟩ := h
      have q' : v = .bl true := q
      subst q'
      cases rv
      have stay : ∀ b o, b ∉ tb → s.heap.get? b = some o → s'.heap.get? b = some o := fun b o nb h => by
        rcases only b with z | ⟨_, _, ob, z⟩ | z
        · exact un.keep b o h z (fun y => nomatch y) fun y => nomatch y
        · have z2 := un.frzs b ob _ z
          obtain ⟨e1, _⟩ := hok b _ z
          obtain ⟨e2, _⟩ := hok' b _ z2
          rw [h] at e1
          cases e1
          exact e2
        · exact absurd z nb
      have grew : ∀ b ∈ tb, ∃ more : Array Value, s'.heap.get? b = some { cls := .none, data := .fields more } := fun b hb => by
        obtain ⟨more, z⟩ := un.tbls b #[] (tbl b hb)
        exact ⟨_, hok' b _ z⟩
      refine ⟨rfl, ⟨fun b o e => ?_, fun b o e => ?_⟩, os, bare⟩
      · by_cases hb : b ∈ tb
        · obtain ⟨more, hm⟩ := grew b hb
          have hb' := hb
          rw [etb] at hb'
          obtain ⟨p, hp, ep⟩ := List.mem_map.mp hb'
          rw [(atT b hb).1] at e
          cases e
          rw [← ep] at hm ⊢
          exact .inr (.inl ⟨((hC p hp).tab (hT p hp)).isCodeTable, rfl, #[], more, rfl, by rw [Array.empty_append]; exact hm⟩)
        · exact .inl (stay b o hb e)
      · by_cases hb : b ∈ tb
        · obtain ⟨more, hm⟩ := grew b hb
          exact ⟨_, hm⟩
        · exact ⟨o, stay b o hb e⟩
    | next => exact h.elim
    | brk => exact h.elim
    | cont => exact h.elim
/-- the end of a law's row -/
theorem law_walk {l : PySem.W.OpenLaw} {n k : Nat} {q : Program} {loose : List Str} {XP : (Str → Option Value) → Heap → Prop} {YP : World → Heap → Prop} {d : DefRec} {K : Params → PySem.W.Frag} {x : Str}
    (hn : l.most = some n) (hz : n ≤ sizeLine) (hdf : d.params.defaults = []) (room : Room k callerA) (hY : ∀ (w : World) (h : Heap), YP w h → (K w.params).In h)
    (F : ∀ (w : World) (mg : Str → Option Value) (fa : Addr) (h : Heap), (K w.params).In h → h.Ns mainGlobals mg → mg d.name = some (.ref fa) →
      ∃ (fd : FuncData) (cs : Tabs0), (∀ p ∈ cs, ∃ (y : Str) (e : DefRec), (recsOf q).find? (fun e => e.name == y) = some e ∧ PySem.W.tabIn (K w.params) y = some (p.1, p.2.1)) ∧ (∀ p ∈ cs, (K w.params).lookup p.2.1 = none) ∧ (cs.map (·.2.1)).Nodup ∧
        (∀ (s : Shared) (u : Value), BindsTo s fd ⟨[u], []⟩ [(x, u)]) ∧ ∀ base : Heap, (K w.params).In base → base.Ns mainGlobals mg → (∀ p ∈ cs, LamX.TabB base mg p.1 p.2.1) → ∀ ns : List Int, ns.length ≤ n → (∀ z ∈ ns, Builtin.Int.intBits z ≤ 1048576) →
        ∃ (mf : List D → AH → Res D) (AE : AH), mf [.lst (ns.map D.int)] (tabs0 cs) = .ok (.bl true) AE ∧ FnD l.prog w (K w.params) mg base k fa fd [x] mf) :
    PySem.W.WalkO q loose XP YP l.row.toRowW d [] (fun f vs => PySem.call f vs) := by
  refine Att.attach_callB hn hdf fun w s0 s1 mg mb fa o pm cd doc a us ns G Y ha hb hc hm hobj hi hlen hbits hg => ?_
  have kin := hY w _ Y
  obtain ⟨fd, cs, hT, nT, nd, bi, hF⟩ := F w mg fa _ kin G.T.g hm
  have tabs : ∀ p ∈ cs, PySem.W.CodeHd s1.heap p.1 p.2.1 ∧ s1.heap.get? p.2.1 = some { cls := .none, data := .fields #[] } := fun p hp => by
    obtain ⟨y, e, h1, h2⟩ := hT p hp
    exact PySem.W.tab_of G.T kin h1 h2
  exact law_run kin G.T.g G.T.b G.T.builtins G.T.nolimit hg (fun p hp => (tabs p hp).2) nT (fun p hp => (tabs p hp).1) nd G.T.bmain hobj hi (Nat.le_trans hlen hz) room (fun base h1 h2 h3 => hF base h1 h2 h3 ns hlen hbits) bi
end DM
end
section
set_option maxHeartbeats 2000000
namespace DM
open PySem PySem.Spec PyProof.Rows L2
section
variable {X : Cx} {W : WX} {a b c e o i tg iter elt : Expr} {es ifs : List Expr} {ma mb mc me mo mi : ME} {pos p p2 tpos : Pos}
/-- o[i] = e, o a changing list -/
def mSto (me mo mi : ME) : MS := fun ρ A => lift (me ρ A) ρ fun v A1 => lift (mo ρ A1) ρ fun o A2 => lift (mi ρ A2) ρ fun i A3 => match o, i with
  | .ref n, .int k => (match A3[n]? with
    | some (.lst xs) => (match ixN xs.length k with
      | some j => .nx ρ (A3.set n (.lst (xs.set j v)))
      | none => .no)
    | _ => .no)
  | _, _ => .no
theorem s_setI (he : DE X W e me) (hg : PG X (.Subscript o i tpos) (gSub (tE X.K W mo) (tE X.K W mi) rSetL))
    (hs : swapsWithSole [.Subscript o i tpos] e pos.line X.env = pure false := by rfl) (hw : swappedStores [.Subscript o i tpos] e X.env = pure none := by rfl) (h1 : (assignEach [.Subscript o i tpos] X.env).map (·.2) = [assign (.Subscript o i tpos) X.env] := by rfl) :
    DS X W (.Assign [.Subscript o i tpos] e pos) (mSto me mo mi) := by
  refine PSi (ps_asg he hg hs hw h1) fun D0 σ H ⟨m, A, ρ, R, E, h⟩ => tE.lift R E h fun m1 A1 d v H1 e1 R1 E1 r1 h1 => tE.lift R1 E1 h1 fun m2 A2 d2 v2 H2 e2 R2 E2 r2 h2 => tE.lift R2 E2 h2 fun m3 A3 d3 v3 H3 e3 R3 E3 r3 h3 => ?_
  split at h3
  · rename_i n k
    cases r3
    cases r2 with
    | ref hm =>
      rename_i q
      have hm3 := e3.get hm
      split at h3
      · rename_i xs hA
        obtain ⟨us, h4, rs⟩ := R3.lst hm3 hA
        split at h3
        · rename_i j hj
          refine ⟨q, us, k, j, rfl, rfl, h4, by rw [← rs.length]; exact hj, ?_⟩
          obtain ⟨R4, e4⟩ := R3.write (H' := upd H3 q (.lst (us.set j v))) (o := .lst (xs.set j d)) hm3 (fun p u hp z => by rw [upd_ne hp]; exact z) fun e => ⟨_, upd_same, RDs.mono e _ _ (rs.set (RD.mono (e2.trans e3) _ _ r1) j)⟩
          exact PostS.nx R4 (E3.mono e4) (PostS.mono e4 h3)
        · exact h3.elim
      · exact h3.elim
  · exact h3.elim
end
/-! ### a promise made simpler: what is left over of new objects is dropped -/
abbrev cloO (n : Nat) (o : AO) : Prop := clos n o.vals
def ClosedA (A : AH) : Prop := ∀ o ∈ A, cloO A.length o
theorem cut_r {m : Mp} {n : Nat} (i : Nat) (a : Addr) (c : i < n) (h : m.1[i]? = some a) : (m.1.take n, m.2).1[i]? = some a := by
  show (m.1.take n)[i]? = _
  rw [List.getElem?_take_of_lt c]; exact h
theorem cut_o {m : Mp} {n : Nat} {H : Hp} (a : Addr) (o : HO) (e : H a = some o) (h : Out m a) : H a = some o ∧ Out (m.1.take n, m.2) a := ⟨e, fun y => h.1 (List.mem_of_mem_take y), h.2⟩
theorem RD.cut {K : PySem.W.Frag} {m : Mp} {H : Hp} {n : Nat} (d : D) (v : V) (c : DM.clo n d) (h : RD K m H d v) : RD K (m.1.take n, m.2) H d v := RD.moveN cut_r cut_o d v c h
theorem RDs.cut {K : PySem.W.Frag} {m : Mp} {H : Hp} {n : Nat} (d : List D) (v : List V) (c : DM.clos n d) (h : RDs K m H d v) : RDs K (m.1.take n, m.2) H d v := RDs.moveN cut_r cut_o d v c h
theorem Rel.cut {K : PySem.W.Frag} {m : Mp} {A A1 : AH} {H : Hp} (R : Rel K m A H) (h1 : A.take A1.length = A1) (h2 : ClosedA A1) : Rel K (m.1.take A1.length, m.2) A1 H := by
  have hle : A1.length ≤ A.length := by rw [← h1, List.length_take]; exact Nat.min_le_right _ _
  refine ⟨by show (m.1.take A1.length).length = _; rw [List.length_take, R.len]; omega, R.nd.sublist (List.take_sublist _ _), R.pv, fun n o hn => ?_⟩
  have hlt : n < A1.length := (List.getElem?_eq_some_iff.mp hn).1
  have hA : A[n]? = some o := by
    rw [← h1, List.getElem?_take_of_lt hlt] at hn; exact hn
  obtain ⟨q, h3, h4⟩ := R.obj n o hA
  refine ⟨q, by show (m.1.take A1.length)[n]? = _; rw [List.getElem?_take_of_lt hlt]; exact h3, ?_⟩
  have hc := h2 o (List.mem_of_getElem? hn)
  exact h4.moveN cut_r cut_o rfl hc
theorem Ext.cut {m m' : Mp} {H H' : Hp} {n : Nat} (e : Ext m H m' H') (h : m.1.length ≤ n) : Ext m H (m'.1.take n, m'.2) H' := by
  obtain ⟨l, hl⟩ := e.pre
  refine ⟨⟨l.take (n - m.1.length), ?_⟩, e.sub, e.pvs, fun p hp => e.new p (List.mem_of_mem_take hp), e.keep⟩
  show m'.1.take n = _
  rw [hl, List.take_append, List.take_of_length_le h]
end DM
end
section
set_option maxHeartbeats 1000000
namespace DM
open PySem PySem.Spec PyProof.Rows L2
/-! ### running mirrors: one row a form, all applied -/
section
variable {ρ : DM.Env} {A : AH} {i j l n m a : Nat} {d : D} {f : D → D → AH → Res D} {g : List D → AH → Res D} {g2 : Nat → List D → AH → Res D} {ma mb mc me mo : ME} {mt mu : MT} {ms mk : MA} {ml mh : MO} {mi : MI} {sa sb : MS} {t : Tg} {ts : List Tg} {pm vs : List Nat} {b : Bool}
theorem ev_var : mVar i ρ A = (match ρ[i]? with | some (some d) => .ok d A | _ => .no) := id rfl
theorem ev_K : mK d ρ A = .ok d A := id rfl
theorem ev_op : mOp f ma mb ρ A = (ma ρ A).bind fun x A1 => (mb ρ A1).bind fun y A2 => f x y A2 := id rfl
theorem ev_neg : mNeg ma ρ A = (ma ρ A).bind fun d A1 => (match d with | .int i => .ok (.int (-i)) A1 | _ => .no) := id rfl
theorem ev_tst : mTst me ρ A = (me ρ A).bind fun d A1 => (match d with | .bl k => .ok k A1 | _ => .no) := id rfl
theorem ev_and : mAnd mt mu ρ A = (mt ρ A).bind fun k A1 => if k = true then mu ρ A1 else .ok false A1 := id rfl
theorem ev_or : mOr mt mu ρ A = (mt ρ A).bind fun k A1 => if k = true then .ok true A1 else mu ρ A1 := id rfl
theorem ev_not : mNot mt ρ A = (mt ρ A).bind fun k A1 => .ok (!k) A1 := id rfl
theorem ev_andV : mAndV ma mb ρ A = (ma ρ A).bind fun d A1 => (match d with | .bl true => mb ρ A1 | .bl false => .ok (.bl false) A1 | _ => .no) := id rfl
theorem ev_orV : mOrV ma mb ρ A = (ma ρ A).bind fun d A1 => (match d with | .bl true => .ok (.bl true) A1 | .bl false => mb ρ A1 | _ => .no) := id rfl
theorem ev_notV : mNotV ma ρ A = (ma ρ A).bind fun d A1 => (match d with | .bl k => .ok (.bl (!k)) A1 | _ => .no) := id rfl
theorem ev_if : mIf mt ma mb ρ A = (mt ρ A).bind fun k A1 => if k = true then ma ρ A1 else mb ρ A1 := id rfl
theorem ev_chn {f2 : D → D → AH → Res D} : mChn f f2 ma mb mc ρ A = (ma ρ A).bind fun x A1 => (mb ρ A1).bind fun y A2 => (f x y A2).bind fun z A3 => (match z with | .bl true => (mc ρ A3).bind fun w A4 => f2 y w A4 | .bl false => .ok (.bl false) A3 | _ => .no) := id rfl
theorem ev_nil : mNil ρ A = .ok [] A := id rfl
theorem ev_cons : mCons me ms ρ A = (me ρ A).bind fun d A1 => (ms ρ A1).bind fun ds A2 => .ok (d :: ds) A2 := id rfl
theorem ev_tup : mTup ms ρ A = (ms ρ A).bind fun ds A1 => if ds.length ≤ 1000 then .ok (.tup ds) A1 else .no := id rfl
theorem ev_lst : mLst ms ρ A = (ms ρ A).bind fun ds A1 => if ds.length ≤ 1000 then .ok (.lst ds) A1 else .no := id rfl
theorem ev_new : mNew ms ρ A = (ms ρ A).bind fun ds A1 => if ds.length ≤ 1000 then .ok (.ref A1.length) (A1 ++ [.lst ds]) else .no := id rfl
theorem ev_call : mCall g ms ρ A = (ms ρ A).bind fun ds A1 => g ds A1 := id rfl
theorem ev_callF : mCallF n g ms ρ A = (ms ρ A).bind fun ds A1 => if ds.length = n then g ds A1 else .no := id rfl
theorem ev_callK : mCallK n l a pm g ms mk ρ A = (ms ρ A).bind fun ds A1 => (mk ρ A1).bind fun es A2 => if ds.length = n ∧ es.length = l ∧ (DM.pick pm (ds ++ es)).length = a then g (DM.pick pm (ds ++ es)) A2 else .no := id rfl
theorem ev_met : mMet g2 mo ms ρ A = (mo ρ A).bind fun d A1 => (match d with | .ref n => (match A1[n]? with | some (.lst _) => (ms ρ A1).bind fun ds A2 => g2 n ds A2 | _ => .no) | _ => .no) := id rfl
theorem ev_sl : mSl me ml mh ρ A = (me ρ A).bind fun d A1 => (ml ρ A1).bind fun lo A2 => (mh ρ A2).bind fun hi A3 => fSl d lo hi A3 := id rfl
theorem ev_some : mSome me ρ A = (me ρ A).bind fun d A1 => (match d with | .int i => .ok (some i) A1 | _ => .no) := id rfl
theorem ev_none : mNone ρ A = .ok none A := id rfl
theorem ev_rev : mRev b me ρ A = (me ρ A).bind fun d A1 => if isTup d = true then .no else (match seqOf A1 d with | some xs => if b then .ok (.ref A1.length) (A1 ++ [.lst xs.reverse]) else .ok (.lst xs.reverse) A1 | none => .no) := id rfl
theorem ev_lc : mLc b mi t mt me vs ρ A = (mi ρ A).bind fun iv A1 => (match itemsOf A1 iv with | some all => if all.length ≤ 16777216 then (compGo iv all t mt me (wipeD ρ vs) all [] A1).bind fun acc A2 => if b = true then .ok (.ref A2.length) (A2 ++ [.lst acc]) else .ok (.lst acc) A2 else .no | none => .no) := id rfl
theorem ev_yes : mYes ρ A = .ok true A := id rfl
theorem ev_sq : mSq me ρ A = (me ρ A).bind fun d A1 => (match seqOf A1 d with | some _ => .ok (.sq d) A1 | none => .no) := id rfl
theorem ev_r1 : mR1 ms ρ A = (ms ρ A).bind fun ds A1 => (match ds with | [.int j] => if -(2 ^ 62) ≤ j ∧ j < 2 ^ 62 then .ok (.rng 0 j) A1 else .no | _ => .no) := id rfl
theorem ev_next : mNext ρ A = .nx ρ A := id rfl
theorem ev_drop : mDrop me ρ A = lift (me ρ A) ρ fun _ A1 => .nx ρ A1 := id rfl
theorem ev_ret : mRet me ρ A = lift (me ρ A) ρ fun d A1 => .rt d A1 := id rfl
theorem ev_ifs : mIfS mt sa sb ρ A = lift (mt ρ A) ρ fun k A1 => if k = true then sa ρ A1 else sb ρ A1 := id rfl
theorem ev_set : mSet i me ρ A = lift (me ρ A) ρ fun d A1 => .nx (ρ.set i (some d)) A1 := id rfl
theorem ev_par2 : mPar2 i j ms ρ A = lift (ms ρ A) ρ fun ds A1 => (match ds with | [x, y] => .nx ((ρ.set i (some x)).set j (some y)) A1 | _ => .no) := id rfl
theorem ev_par3 : mPar3 i j l ms ρ A = lift (ms ρ A) ρ fun ds A1 => (match ds with | [x, y, z] => .nx (((ρ.set i (some x)).set j (some y)).set l (some z)) A1 | _ => .no) := id rfl
theorem ev_asg : mAsg t me ρ A = lift (me ρ A) ρ fun d A1 => (match bindT t d ρ with | some ρ1 => .nx ρ1 A1 | none => .no) := id rfl
theorem ev_for : mFor mi t sb ρ A = lift (mi ρ A) ρ fun iv A1 => (match itemsOf A1 iv with | some all => forGo iv all t sb all ρ A1 | none => .no) := id rfl
theorem ev_nm : bindT (.nm i) d ρ = some (ρ.set i (some d)) := id rfl
theorem seq_nx {ρ1 : DM.Env} {A1 : AH} (h : sa ρ A = .nx ρ1 A1) : mSeq sa sb ρ A = sb ρ1 A1 := by unfold mSeq; rw [h]
theorem seq_rt {d : D} {A1 : AH} (h : sa ρ A = .rt d A1) : mSeq sa sb ρ A = .rt d A1 := by unfold mSeq; rw [h]
theorem fun_rt {ds : List D} {d : D} {A1 : AH} (h : sa (ds.map some ++ List.replicate (n - ds.length) none) A = .rt d A1) : mFun n sa ds A = .ok d A1 := by unfold mFun; rw [h]
end
/-- a range; not for the simplifier: over a number that is a length the kernel would count -/
theorem r1_at {ms : MA} {ρ : DM.Env} {A A1 : AH} {j : Int} (h : ms ρ A = .ok [.int j] A1) (hz : -(2 ^ 62) ≤ j ∧ j < 2 ^ 62) : mR1 ms ρ A = .ok (.rng 0 j) A1 := by
  unfold mR1
  rw [h, bind_ok]
  exact if_pos hz
/-- for, one turn -/
theorem for_nil {iv : ItV} {all : List D} {t : Tg} {sb : MS} {ρ : DM.Env} {A : AH} (h : itemsOf A iv = some all) : forGo iv all t sb [] ρ A = .nx ρ A := by
  unfold forGo; rw [if_pos h]
theorem for_nx {iv : ItV} {all xs : List D} {x : D} {t : Tg} {sb : MS} {ρ ρ1 ρ2 : DM.Env} {A A2 : AH} (h : itemsOf A iv = some all) (hb : bindT t x ρ = some ρ1) (hs : sb ρ1 A = .nx ρ2 A2) : forGo iv all t sb (x :: xs) ρ A = forGo iv all t sb xs ρ2 A2 := by
  conv => lhs; unfold forGo
  rw [if_pos h, hb]
  simp only [hs]
def EVa := And.intro (And.intro (And.intro (And.intro (And.intro (@ev_var) (@ev_K)) (And.intro (@ev_op) (@ev_neg))) (And.intro (And.intro (@ev_tst) (@ev_and)) (And.intro (@ev_or) (And.intro (@ev_not) (@ev_andV))))) (And.intro (And.intro (And.intro (@ev_orV) (@ev_notV)) (And.intro (@ev_if) (@ev_chn))) (And.intro (And.intro (@ev_nil) (@ev_cons)) (And.intro (@ev_tup) (And.intro (@ev_lst) (@ev_new)))))) (And.intro (And.intro (And.intro (And.intro (@ev_call) (@ev_callF)) (And.intro (@ev_callK) (@ev_met))) (And.intro (And.intro (@ev_sl) (@ev_some)) (And.intro (@ev_none) (And.intro (@ev_rev) (@ev_yes))))) (And.intro (And.intro (And.intro (@ev_sq) (@ev_next)) (And.intro (@ev_drop) (And.intro (@ev_ret) (@ev_ifs)))) (And.intro (And.intro (@ev_set) (@ev_par2)) (And.intro (@ev_par3) (And.intro (@ev_asg) (@ev_nm))))))
end DM
end
section
set_option maxHeartbeats 2000000
/-! own errors: [C, .. own classes .., Exception, BaseException, object] and the like -/
namespace PySem
namespace ErE
open Builtin Builtin.ObjectAttr
/-- own classes, then the built-in base's line -/
inductive Line (bm : List Value) : List Value → Prop
  | tail : Line bm bm
  | own {c : Addr} {r : List Value} : Line bm r → Line bm (.ref c :: r)
/-- the built-in base: what is asked of it -/
structure Base (B newId initId : String) (bm : List Value) : Prop where
  call : ∀ {prog : Program} {w : World} {A : Around} {R : Result → Shared → Prop} {h : Heap} {g : Array GenState} {d : Drawn} {t : Nat} {os : OsState} {nm q : Str} {C N : Addr} {bs l : List Value} {hdct : Bool} {sn : List Str} {sub : List Value} {ab : Bool} {col : Option Bool} {dd : Option Addr} {k0 k1 k2 k3 k5 : Option Value} {rest : List Value} {fI : Addr},
    (∀ X : String, l.contains (.type X) = bm.contains (.type X)) → h.get? C = some (excClassObj nm q C N bs l hdct sn sub ab col dd k0 k1 k2 k3 k5 newId) →
    W.Looks (model prog w) h (typeLookup (.ref C) "__init__") (some (.ref fI)) → (∀ self, W.Looks (model prog w) h (bindSpecial (.ref fI) self) (.ref fI, [self])) → rest.length ≤ sizeLine →
    codeAny (model prog w) (A.under (.builtin "type.__call__" ⟨.ref C :: rest, []⟩)) (.call (.ref fI) ⟨.ref (h.objs.size + 1) :: rest, []⟩) (W.InitBack (h.objs.size + 1) R) ⟨(h.push (W.kdv_tup rest)).push (HandSPX.excO C h.objs.size), g, d, t, os⟩ →
    codeAny (model prog w) A (.call (.ref C) ⟨rest, []⟩) R ⟨h, g, d, t, os⟩
  bound : ∀ {M : Model} {A : Around} {E : Value → Shared → Prop} {h : Heap} {g : Array GenState} {d : Drawn} {t : Nat} {os : OsState} {nm q : Str} {C N e : Addr} {oe : Obj} {bs l : List Value} {hdct : Bool} {sn : List Str} {sub : List Value} {ab : Bool} {col : Option Bool} {dd : Option Addr} {k0 k1 k2 k3 k5 : Option Value} {rest : List Value} {Q : Unit → Shared → Prop},
    h.get? C = some (excClassObj nm q C N bs l hdct sn sub ab col dd k0 k1 k2 k3 k5 newId) → h.get? e = some oe → oe.cls = .ref C → Q () ⟨h, g, d, t, os⟩ → wpAny M A (checkBoundCall initId ⟨.ref e :: rest, []⟩) Q E ⟨h, g, d, t, os⟩
  plain : plainId initId = true
  entry : entryFor table initId = some Builtin.«BaseException.__init__»
  KF : W.KxsFacts B initId
  pass : ∀ self, refuseLoop self "__setattr__" bm = pure ()
  obj : bm.contains (.type "object") = true
  ne : bm.isEmpty = false
theorem base_Exception : Base "Exception" "Exception.__new__" "Exception.__init__" [.type "Exception", .type "BaseException", .type "object"] :=
  ⟨fun hT hC hi hb hr hq => HandSPX.call_own F.excBase_Exception hT hC hi hb hr hq, fun hC he hc hq => W.check_bound_init F.excBase_Exception.toExcCallFacts hC he hc hq, F.excBase_Exception.init.plain, F.excBase_Exception.initEntry,
    W.kxs_Exception, F.store_Exception.passes, by decide +kernel, rfl⟩
theorem Line.pass {bm l : List Value} (p : ∀ self, refuseLoop self "__setattr__" bm = pure ()) (h : Line bm l) (self : Value) : refuseLoop self "__setattr__" l = pure () := by
  induction h with
  | tail => exact p self
  | own _ ih => rw [refuseLoop_ref]; exact ih
theorem Line.has {bm l : List Value} (h : Line bm l) (X : String) : l.contains (.type X) = bm.contains (.type X) := by
  induction h with
  | tail => rfl
  | own _ ih => rw [List.contains_cons, ih]; rfl
theorem Line.ne {bm l : List Value} (n : bm.isEmpty = false) (h : Line bm l) : l.isEmpty = false := by
  cases h with
  | tail => exact n
  | own _ => rfl
section
variable {prog : Program} {w : World} {A : Around} {E : Value → Shared → Prop} {R : Result → Shared → Prop} {hp : Heap} {g : Array GenState} {d : Drawn} {t : Nat} {os : OsState} {B newId initId : String} {bm : List Value}
/-- the first field of an error without a dict -/
theorem first_field {K : W.Frag} {f : Str} {tk : Tok} {v : Value} {e C : Addr} {fv : Array Value} {cd : ClassData} (BF : Base B newId initId bm)
    (KI : K.In hp) (he : hp.get? e = some { cls := .ref C, data := .fields fv }) (hcd : W.clsIn K C = some cd) (hl : Line bm cd.mro) (hdct : cd.hasDict = true) (hno : W.findIn K (.ref C) f = some none)
    (fin : ∀ h2 tk2 dx, (∀ b o, b ≠ e → hp.get? b = some o → h2.get? b = some o) → hp.objs.size ≤ dx → dx ≠ e → h2.get? e = some { cls := .ref C, dict := some dx, data := .fields fv } →
      h2.Ns1 dx (fun y => if y = f then some v else none) → R (.ok (.ret .none)) ⟨h2, g, d, tk2, os⟩) :
    codeAny (model prog w) A (.call (.builtin "object.__setattr__") ⟨[.ref e, .str f tk, v], []⟩) R ⟨hp, g, d, t, os⟩ := by
  have J : W.InstAt hp e { cls := .ref C, data := .fields fv } C none := ⟨he, rfl, rfl, trivial⟩
  have ob := F.store_object
  have isO : cd.mro.contains (.type "object") = true := by rw [hl.has]; exact BF.obj
  have far : e ≠ hp.objs.size := Nat.ne_of_lt (Heap.lt_size he)
  have inO : W.Looks (model prog w) hp (isInstance (.ref e) (.type "object")) true := J.type.andThen (W.looks_mroIn KI (by
    unfold W.mroIn
    rw [hcd, Option.bind_some, if_neg (by rw [hl.ne BF.ne]; decide), isO]))
  refine codeAny_call_builtin ob.slot.plain ob.entry ?_
  refine @W.check_slot (model prog w) _ _ ⟨hp, g, d, t, os⟩ "object.__setattr__" "object" "__setattr__" (.ref e) [.str f tk, v] [] _ ob.kind ob.split inO (ob.args (.ref e) (.str f tk) v) ?_
  have lineIs : W.Looks (model prog w) hp (mroOf (.ref C)) cd.mro := (W.looks_clsIn KI hcd).andThen .now
  have none3 : W.Looks (model prog w) hp (storeTaker? none) none := .now
  have data : W.Looks (model prog w) hp (classData C) cd := W.looks_clsIn KI hcd
  rw [W.osa_eq, refuse_eq]
  refine wpAny_bind (wpAny_bind (J.type.at ?_))
  refine wpAny_bind (lineIs.at ?_)
  rw [hl.pass BF.pass]
  refine wpAny_pure (wpAny_bind (J.type.at ?_))
  refine wpAny_bind ((W.looks_findIn KI hno).at (wpAny_bind (none3.at ?_)))
  show wpAny _ _ (storeInOwnDict (.ref e) (.ref C) (.str f tk) f v false) _ _ _
  obtain ⟨nm, bs, mro, ns, qn, hd, sn, sb, ab, col, del⟩ := cd
  dsimp only at hdct
  subst hdct
  unfold storeInOwnDict ownDictForStores
  repeat (first | with_reducible refine HandSPX.store_in_new ?_ ?_ | with_reducible refine wpAny_loadPart_at he ?_ | with_reducible refine data.at ?_ | wp_step)
  · refine ⟨_, #[], _, (Heap.get?_update_ne _ _ _ _ far.symm).trans (Heap.get?_push_at rfl rfl), rfl, ?_, fun _ => rfl⟩
    intro y hy
    exact absurd hy (by simp)
  · intro h2 tk2 hn2 same
    have he1 : (hp.push { cls := .type "dict", data := .dict #[] }).get? e = some { cls := .ref C, data := .fields fv } := Heap.get?_push_of_some _ he
    refine fin h2 tk2 hp.objs.size ?_ (Nat.le_refl _) far.symm ((same.2 e far).trans (Heap.get?_update_self _ he1 rfl)) hn2
    intro b o hb ho
    exact (same.2 b (Nat.ne_of_lt (Heap.lt_size ho))).trans ((Heap.get?_update_ne _ _ _ _ hb).trans (Heap.get?_push_of_some _ ho))
/-- the built-in __init__, bound to the error, is called: the args are laid anew -/
theorem mw_call {C e u t0 : Addr} {nm q : Str} {N : Addr} {bs bm1 : List Value} {hdct : Bool} {sn : List Str} {sub : List Value} {ab : Bool} {col : Option Bool} {dd : Option Addr} {k0 k1 k2 k3 k5 : Option Value} {rest : List Value} {Q : Value → Shared → Prop} (BF : Base B newId initId bm)
    (hC : hp.get? C = some (excClassObj nm q C N bs bm1 hdct sn sub ab col dd k0 k1 k2 k3 k5 newId)) (he : hp.get? e = some (HandSPX.excO C t0)) (hu : hp.get? u = some (W.kxs_mw initId e)) (hz : rest.length ≤ sizeLine)
    (fin : ∀ h' t1, (∀ b o, b ≠ e → hp.get? b = some o → h'.get? b = some o) → h'.get? e = some (HandSPX.excO C t1) → Q .none ⟨h', g, d, t, os⟩) :
    wpAny (model prog w) A (call (.ref u) rest) Q E ⟨hp, g, d, t, os⟩ := by
  refine wpAny_call (codeAny_of_tree ?_)
  show wpAny _ A.in1 (callAny (.ref u) ⟨rest, []⟩) _ _ _
  simp only [callAny]
  refine wpAny_bind (wpAny_load hu ?_)
  simp only [W.kxs_mw, show (Value.type "method-wrapper" == Value.type "method" || Value.type "method-wrapper" == Value.type "builtin_function_or_method" || Value.type "method-wrapper" == Value.type "method-wrapper") = true by decide, if_true]
  refine W.KFB.if_so (by decide) ?_
  refine wpAny_bind (BF.bound hC he rfl ?_)
  refine wpAny_bind (wpAny_pure (wpAny_pure ?_))
  refine ⟨plainId_quiet BF.plain _, codeAny_builtin BF.entry ?_⟩
  exact W.exc_init_tree (cls := .ref C) (t0 := t0) (dv := none) (c2 := .none) (c3 := .none) (b4 := .bool false) he hz fun h' k e1 _ => fin h' _ k e1
end
/-- what the written part says of an error's class; its __init__ is super().__init__(x); self.f = x -/
structure ErrC (prog : Program) (K : W.Frag) (B newId initId : String) (bm : List Value) (C fI : Addr) (f : Str) : Prop where
  base : Base B newId initId bm
  cls : ∃ nm q N bs bm1 sn sub ab col dd k0 k1 k2 k3 k5, K.lookup C = some (excClassObj nm q C N bs bm1 true sn sub ab col dd k0 k1 k2 k3 k5 newId) ∧ Line bm bm1
  sa : W.findIn K (.ref C) "__setattr__" = some (some (.builtin "object.__setattr__"))
  ini : W.findIn K (.ref C) "__init__" = some (some (.ref fI))
  tI : W.typeIn K (.ref fI) = some (.type "function")
  fld : W.findIn K (.ref C) f = some none
  sup : W.ks_superIn K C C "__init__" = some (some (.builtin initId))
  subB : W.subIn K (.ref C) (.type B) = some true
  opq : W.nsIn K cStatics "thirdparty.any" = some none
  top : (prog.main.scope.names.lookup ("super" : Str)).isSome = false
  fn : ∃ (oc : Value) (od : Option Addr) (osl : Array (Option Value)) (qual : Str) (params : Arguments) (scope : Scope) (dV kV doc pm ct : Value) (an : Option Addr) (cda cc : Addr) (x : Str) (p0 p1 p2 p3 p4 p5 p6 p7 p8 p9 : Pos),
    K.lookup fI = some ⟨oc, od, .func (W.ksFn "__init__" qual params [.Expr (.Call (.Attribute (.Call (.Name "super" p0) [] [] p1) "__init__" p2) [.Name x p3] [] p4) p5, .Assign [.Attribute (.Name "self" p6) f p7] (.Name x p8) p9] scope dV kV doc pm an (.ref cda) ct cc), osl⟩ ∧
      W.codeIn K (.ref cda) qual = true ∧ (∃ (ccl : Value) (cdd : Option Addr) (vs : Array Value) (ccs : Array (Option Value)) (file : Str) (tf : Tok), K.lookup cda = some ⟨ccl, cdd, .fields vs, ccs⟩ ∧ vs[2]? = some (.str file tf) ∧ ((prog.main.file : Str) == file) = true) ∧
      (∃ (cl : Value) (cld : Option Addr) (csl : Array (Option Value)), K.lookup cc = some ⟨cl, cld, .cell (some (.ref C)), csl⟩) ∧
      scope.names.lookup ("super" : Str) = some .globalImplicit ∧ scope.names.lookup ("__class__" : Str) = some .free ∧ scope.names.lookup ("self" : Str) = some .local ∧ scope.names.lookup x = some .local ∧ x ≠ "self" ∧ (x == ("__debug__" : Str)) = false ∧ (∀ y ∈ scope.names, y.2 ≠ .cell) ∧ scope.kind = .function ∧ scope.isCoroutine = false ∧ scope.isGenerator = false ∧ (p2.endLine == p4.line) = true ∧
      ((params.posonlyargs ++ params.args).head?.map (·.arg) = some "self") ∧
      ∀ (s : Shared) (a b : Value), BindsTo s (W.ksFn "__init__" qual params [.Expr (.Call (.Attribute (.Call (.Name "super" p0) [] [] p1) "__init__" p2) [.Name x p3] [] p4) p5, .Assign [.Attribute (.Name "self" p6) f p7] (.Name x p8) p9] scope dV kV doc pm an (.ref cda) ct cc) ⟨[a, b], []⟩ [("self", a), (x, b)]
open PySem.W PySem.Calls PyProof.Rows in
/-- C(u) -/
theorem make_err {prog : Program} {w : World} {A : Around} {R : Result → Shared → Prop} {h : Heap} {g : Array GenState} {d : Drawn} {t : Nat} {os : OsState} {K : W.Frag} {B newId initId : String} {bm : List Value} {C fI : Addr} {f : Str} {u : Value} {mg : Str → Option Value}
    (T : ErrC prog K B newId initId bm C fI f) (M : L2.Mod K mg h) (hsup : mg "super" = none) (room : (A.under (.builtin "type.__call__" ⟨.ref C :: [u], []⟩)).depth < recursionLimit)
    (fin : ∀ e h2 t2 dx t1, (∀ b o, h.get? b = some o → h2.get? b = some o) → h.objs.size ≤ e → h.objs.size ≤ dx → dx ≠ e →
      h2.get? e = some { cls := .ref C, dict := some dx, data := .fields #[.ref t1, .none, .none, .none, .bool false, .none] } → h2.Ns1 dx (fun y => if y = f then some u else none) → R (.ok (.ret (.ref e))) ⟨h2, g, d, t2, os⟩) :
    codeAny (model prog w) A (.call (.ref C) ⟨[u], []⟩) R ⟨h, g, d, t, os⟩ := by
  obtain ⟨nm, q, N, bs, bm1, sn, sub, ab, col, dd, k0, k1, k2, k3, k5, hC, hl⟩ := T.cls
  have hcd : W.clsIn K C = some { name := nm, bases := bs, mro := .ref C :: bm1, ns := N, qualname := q, hasDict := true, slotNames := sn, subclasses := sub, abstract := ab, collection := col, hasDel := false } := by unfold W.clsIn; rw [hC] <;> rfl
  refine T.base.call (fun Y => hl.has Y) (M.kin _ _ hC) (looks_findIn M.kin T.ini) (fun self => bind_fn M.kin self T.tI) (by show 1 ≤ sizeLine; rw [sizeLine_eq]; omega) ?_
  obtain ⟨oc, od, osl, qual, params, scope, dV, kV, doc, pm, ct, an, cda, cc, x, p0, p1, p2, p3, p4, p5, p6, p7, p8, p9, lk, hcode, ⟨ccl, cdd, vs, ccs, file, tf, hcc, hvs, hfile⟩, ⟨cl, cld, csl, hcell⟩, ks, kc, kself, kx, nxs, hdb, ncell, hk, hco, hgen, hline, hfirst, bi⟩ := T.fn
  generalize hE : A.under (.builtin "type.__call__" ⟨.ref C :: [u], []⟩) = A2 at room ⊢
  have kp : ∀ b o, h.get? b = some o → ((h.push (kdv_tup [u])).push (HandSPX.excO C h.objs.size)).get? b = some o := fun b o e => Heap.get?_push_of_some _ (Heap.get?_push_of_some _ e)
  have hget : ((h.push (kdv_tup [u])).push (HandSPX.excO C h.objs.size)).get? (h.objs.size + 1) = some (HandSPX.excO C h.objs.size) := by heap_get
  have hsz1 : h.objs.size ≤ h.objs.size + 1 := Nat.le_succ _
  have hM1 : L2.Mod K mg ((h.push (kdv_tup [u])).push (HandSPX.excO C h.objs.size)) := by
    obtain ⟨a1, a2, ⟨mb, a3, a4⟩, a5⟩ := M
    exact ⟨a1.keeps kp, a2.keeps kp, ⟨mb, a3.keeps kp, a4⟩, a5.keeps kp⟩
  generalize h.objs.size + 1 = e at hget hsz1 ⊢
  generalize hh1 : (h.push (kdv_tup [u])).push (HandSPX.excO C h.objs.size) = h1 at *
  generalize h.objs.size = t0 at hget
  have hloc : ∀ y ∈ ([("self", .ref e), (x, u)] : List (Str × Value)), scope.names.lookup y.1 = some .local := by
    intro y hy
    rcases List.mem_cons.mp hy with rfl | hy
    · exact kself
    · rw [List.mem_singleton.mp hy]; exact kx
  refine ks_codeAny_call_defAt (h := ?_) (binds := ([("self", .ref e), (x, u)] : List (Str × Value))) room (hM1.kin _ _ lk) rfl hM1.nolimit (codeRec_of hM1.kin hcode) rfl (bi _ _ _) ncell hloc hco hgen hk
  intro h2 hns k2
  have hM2 : L2.Mod K mg h2 := by
    obtain ⟨a1, a2, ⟨mb, a3, a4⟩, a5⟩ := hM1
    exact ⟨a1.keeps k2, a2.keeps k2, ⟨mb, a3.keeps k2, a4⟩, a5.keeps k2⟩
  have he2 := k2 _ _ hget
  have vself : (fun y => ([("self", Value.ref e), (x, u)] : List (Str × Value)).reverse.lookup y) "self" = some (.ref e) := by
    show List.lookup ("self" : Str) ([(x, u), ("self", Value.ref e)] : List (Str × Value)) = _
    rw [List.lookup_cons, show (("self" : Str) == x) = false by simpa using Ne.symm nxs]
    rfl
  have vx : (fun y => ([("self", Value.ref e), (x, u)] : List (Str × Value)).reverse.lookup y) x = some u := by
    show List.lookup x ([(x, u), ("self", Value.ref e)] : List (Str × Value)) = _
    rw [List.lookup_cons, show (x == x) = true by simp]
  obtain ⟨oD, hD1, hD2⟩ : ∃ oD, h2.get? C = some oD ∧ ∃ cd, oD.data = .cls cd := ⟨_, hM2.kin _ _ hC, _, rfl⟩
  obtain ⟨cdD, hD2⟩ := hD2
  obtain ⟨mb, hmb, hmbb⟩ := hM2.blt
  have Ie : InstAt h2 e (HandSPX.excO C t0) C none := ⟨he2, rfl, rfl, trivial⟩
  have subC : mroIn K C (.ref C) = some true := by
    unfold mroIn
    rw [hcd, Option.bind_some]
    simp
  refine ks_wpAt_execs_cons (ks_wpAt_Expr_any (ks_wpAt_MethodCall (pl := (do return (← importBound (.Call (.Name "super" p0) [] [] p1) (callEnv (ksFn "__init__" qual params [.Expr (.Call (.Attribute (.Call (.Name "super" p0) [] [] p1) "__init__" p2) [.Name x p3] [] p4) p5, .Assign [.Attribute (.Name "self" p6) f p7] (.Name x p8) p9] scope dV kV doc pm an (.ref cda) ct cc) h1.objs.size fI)).getD true)) ?_ ?heq) ?hint)
  case hint =>
    show interactive _ = false
    unfold interactive
    simp [callEnv, newEnv, hk]
  case heq =>
    rw [arm_eval_Call]
    simp only [methodCall, methodCallPos, hline, Bool.or_true, if_true, bind_pure_comp, pure_bind, bind_assoc]
    rfl
  cases hfa : (params.posonlyargs ++ params.args).head? with
  | none => rw [hfa] at hfirst; cases hfirst
  | some ar =>
  rw [hfa] at hfirst
  have har : ar.arg = "self" := Option.some.inj hfirst
  refine ks_wpAt_super_base (fd := ksFn "__init__" qual params _ scope dV kV doc pm an (.ref cda) ct cc) ks kc (by decide +kernel) rfl (hM2.kin _ _ lk) rfl hfa rfl (hM2.kin _ _ hcc) rfl hvs hfile T.top ?_
  refine ks_loadName_global hk ks (loadGlobal_builtin hM2.glob hsup hmb ((hmbb _ (by decide +kernel)).trans PyProof.Rows.Boot.«super») ⟨rfl, ?_⟩)
  refine wpAny_loadName_free hk kc rfl ⟨_, hM2.kin _ _ hcell, rfl⟩ ?_
  rw [har]
  refine wpAny_loadName_local hk kself hns vself ?_
  refine ks_wpAny_isType_cls hD1 hD2 ⟨rfl, ?_⟩
  refine ks_wpAny_call_super hD1 hD2 he2 rfl (fun c z => by cases z) (looks_mroIn hM2.kin subC) (fun h3 e3 k3 => ?_)
  have k13 : ∀ b o, h1.get? b = some o → h3.get? b = some o := fun b o z => k3 b o (k2 b o z)
  have KX3 : K.In h3 := hM2.kin.keeps k3
  have he3 := k3 _ _ he2
  have Ie3 : InstAt h3 e (HandSPX.excO C t0) C none := ⟨he3, rfl, rfl, trivial⟩
  have hsup2 := T.sup
  unfold ks_superIn at hsup2
  rw [hcd, Option.bind_some] at hsup2
  refine kxs_getMethod T.base.KF e3 (looks_opaque KX3 T.opq) (l₀ := .ref C :: bm1) ?_ rfl KX3 hsup2 (Ie3.type.andThen (looks_subIn KX3 T.subB)) (ks_ne KX3 Ie3 hcd) (by decide +kernel) ?_
  · exact fun A Q E s k q => wpAny_bind ((looks_clsIn KX3 hcd) A _ E s k (wpAny_pure q))
  have hu4 : (h3.push (kxs_mw initId e)).get? h3.objs.size = some (kxs_mw initId e) := Heap.get?_push_at rfl rfl
  have k4 : ∀ b o, h3.get? b = some o → (h3.push (kxs_mw initId e)).get? b = some o := fun b o z => Heap.get?_push_of_some _ z
  generalize h3.push (kxs_mw initId e) = h4 at hu4 k4 ⊢
  generalize h3.objs.size = uu at hu4 ⊢
  have hns4 := (hns.keeps k3).keeps k4
  refine kxs_callWith (i := initId) (x := e) (by rfl) (evalArgs_plain ?_)
  show wpAny _ _ (spliced ((false, eval (.Name x p3) _) :: backTo p4 (starEach [] _))) _ _ _
  refine Calls.spliced_cons (wpAny_Name (wpAny_loadName_local hk kx hns4 vx (Calls.spliced_nil ⟨hu4, ?_⟩)) hdb)
  refine mw_call T.base (KX3.keeps k4 _ _ hC) (k4 _ _ he3) hu4 (by show 1 ≤ sizeLine; rw [sizeLine_eq]; omega) fun h5 t1 k5 e5 => ?_
  have nL : h1.objs.size ≠ e := Nat.ne_of_gt (Heap.lt_size hget)
  have hns5 : h5.Ns h1.objs.size (fun y => ([("self", Value.ref e), (x, u)] : List (Str × Value)).reverse.lookup y) := by
    obtain ⟨o, es, ep, a, b, c⟩ := hns4
    exact ⟨o, es, ep, k5 _ _ nL a, b, c⟩
  have old : ∀ b o, h.get? b = some o → b ≠ e := fun b o z => Nat.ne_of_lt (Nat.lt_of_lt_of_le (Heap.lt_size z) hsz1)
  have k15 : ∀ b o, b ≠ e → h1.get? b = some o → h5.get? b = some o := fun b o n z => k5 b o n (k4 b o (k13 b o z))
  have KX5 : K.In h5 := fun b o z => k15 b o (old b o (M.kin b o z)) (hM1.kin b o z)
  refine wpAt_of_wpAny (wpAny_execs_cons (plainObj_wpAny_Assign_Attribute (wpAny_Name (wpAny_loadName_local hk kx hns5 vx (wpAny_Name (wpAny_loadName_local hk kself hns5 vself ?_) (by decide +kernel))) hdb) ?hsw))
  case hsw => rfl
  refine set_plain KX5 (ox := HandSPX.excO C t1) (od := none) ⟨e5, rfl, rfl, trivial⟩ T.sa (first_field T.base KX5 e5 hcd (Line.own hl) rfl T.fld fun h6 tk6 dx k6 hdx ndx e6 n6 => ?_)
  refine wpAny_execs_nil ?_
  refine ⟨rfl, fin e h6 tk6 dx t1 (fun b o z => k6 b o (old b o z) (k15 b o (old b o z) (kp b o z))) hsz1 (Nat.le_trans (Nat.le_trans hsz1 (Nat.le_of_lt (Heap.lt_size e5))) hdx) ndx e6 n6⟩
end ErE
end PySem
namespace DM
open PySem PySem.Spec PyProof.Rows L2
section
variable {X : Cx} {W : WX} {B newId initId : String} {bm : List Value} {C fI : Addr} {f x : Str} {e : Expr} {te : TE} {me : ME} {p pos pos2 : Pos}
/-- C(e): an error with one field -/
theorem pmk_err (T : ErE.ErrC X.prog X.K B newId initId bm C fI f) (hr : Room 1 X.A) (hg : Gl X x) (hm : X.mg x = some (.ref C)) (kC : PySem.W.keepIn X.K (.ref C) = true) (r : Raises X (.ref C)) (hsup : X.mg "super" = none) (he : PE X e te)
    (hdb : (x == ("__debug__" : Str)) = false := by decide) (hse : starEach [e] X.env = (false, eval e X.env) :: starEach [] X.env := by rfl) : PMk X (.Call (.Name x p) [e] [] pos) (fun σ H Q => te σ H fun y H1 => ∀ d, H1 d = none → Q (.ref C) (some d) (upd H1 d (.xd [(f, y)]))) := by
  intro pins s σ H Q I h
  refine wpAny_Call_Name_kw (ld_glob I hg hm ?_ hdb)
  have ha : PA X [e] (tCons te tNil) := pa_cons he pa_nil hse
  refine PySem.W.callWith_K (h₀ := X.base) I.ok.mod.kin kC (thn (ha.run pos pins s σ H (fun vs H1 => ∃ y, vs = [y] ∧ ∀ d, H1 d = none → Q (.ref C) (some d) (upd H1 d (.xd [(f, y)]))) I ?_) fun us s1 hh => ?_) hse
  · have e0 : (fun (y : V) (H1 : Hp) => ∀ d, H1 d = none → Q (.ref C) (some d) (upd H1 d (.xd [(f, y)]))) = fun y H1 => (fun vs H1 => ∃ y, vs = [y] ∧ ∀ d, H1 d = none → Q (.ref C) (some d) (upd H1 d (.xd [(f, y)]))) [y] H1 := by
      funext y H1
      refine propext ⟨fun z => ⟨y, rfl, z⟩, fun ⟨y', z, q⟩ => ?_⟩
      cases z
      exact q
    rw [e0] at h
    exact h
  obtain ⟨vs, H1, I1, r1, y, rfl, q⟩ := hh
  refine ⟨I1.kIn, ?_⟩
  cases r1 with
  | cons ru rn =>
    rename_i u us'
    cases rn
    show wpAny _ _ (call (.ref C) [u]) _ _ _
    obtain ⟨hp, g, dr, tk, os⟩ := s1
    have M1 : Mod X.K X.mg hp := by
      obtain ⟨a1, a2, ⟨mb, a3, a4⟩, a5⟩ := I1.mod
      exact ⟨I1.kIn, a2.keeps I1.bk, ⟨mb, a3.keeps I1.bk, a4⟩, a5.keeps I1.bk⟩
    refine wpAny_call (ErE.make_err T M1 hsup (by rw [make_depth]; have := hr.dp; omega) fun a h2 t2 dx t1 k ha hdx ndx e2 n2 => ?_)
    obtain ⟨G, g1, g2⟩ := restrict h2 fun b => decide (b ≠ a)
    have gk : ∀ b, b ≠ a → G.get? b = h2.get? b := fun b hb => g1 b (decide_eq_true hb)
    have ge : G.get? a = none := g2 a (by simp)
    have na : H1 a = none := I1.hok.fresh ha
    have J := I1.laid (t' := t2) (a := dx) (o := .xd [(f, y)]) (h' := G) (fun b o z => (gk b (Nat.ne_of_lt (Nat.lt_of_lt_of_le (Heap.lt_size z) ha))).trans (k b o z)) hdx
      ⟨_, n2.at fun o z => (gk dx ndx).trans z, fun z => relO_put (fs := []) (mA := fun _ => none) ru (fun _ => True.intro) z⟩
    refine ⟨a, _, _, ⟨G, g, dr, t2, os⟩, upd H1 dx (.xd [(f, y)]), .ref C, some dx, rfl, J, fun b o z => ?_, ge, e2, ⟨rfl, rfl⟩, rfl, rfl, ?_, rfl, J.bare, r, q dx (I1.hok.fresh hdx)⟩
    · by_cases hb : b = a
      · rw [hb, ge] at z; cases z
      · exact (gk b hb).symm.trans z
    · rw [upd_ne (Ne.symm ndx)]; exact na
/-- raise C(e) -/
def mRaise (C f : Str) (me : ME) : MS := fun ρ A => lift (me ρ A) ρ fun d A1 => .exc C [(f, d)] ρ A1
theorem s_raise {cn : Str} (hc : X.calm = true) (tk : Takes X W) (T : ErE.ErrC X.prog X.K B newId initId bm C fI f) (hr : Room 1 X.A) (hm : X.mg cn = some (.ref C)) (hcn : clsV X.K cn = some (.ref C)) (kC : PySem.W.keepIn X.K (.ref C) = true)
    (r1 : PySem.W.subIn X.K (.ref C) (.type "BaseException") = some true) (r2 : PySem.W.typeIn X.K (.ref C) = some (.type "type")) (hsup : X.mg "super" = none) (he : DE X W e me) (hg : Gl X cn := by rfl) (hdb : (cn == ("__debug__" : Str)) = false := by decide) (hse : starEach [e] X.env = (false, eval e X.env) :: starEach [] X.env := by rfl) :
    DS X W (.Raise (some (.Call (.Name cn p) [e] [] pos)) none pos2) (mRaise cn f me) :=
  PSi (ps_raise hc tk (pmk_err T hr hg hm kC (raises_own r1 r2) hsup he hdb hse)) fun D σ H ⟨m, A, ρ, R, E, h⟩ => tE.lift R E h fun m1 A1 d v H1 e1 R1 E1 r1 h1 dx hdx => by
    obtain ⟨R2, e2⟩ := R1.new hdx (.xd [(f, v)])
    exact h1 m1 _ _ (some dx) σ e2 R2 (E1.mono e2) hcn ⟨by simp, _, upd_same, R1.out hdx, rfl, .cons (RD.mono e2 _ _ r1) .nil⟩
end
end DM
end
section
set_option maxHeartbeats 2000000
namespace DM
open PySem PySem.Spec PyProof.Rows L2
/-! ### try: several clauses, with names or without -/
abbrev SuiteT := Addr → Value → Option Addr → TS
def goneE (i : Nat) (D : Ends) : Ends where
  nx := fun τ G => D.nx (τ.set i none) G
  rt := D.rt
  bk := fun τ G => D.bk (τ.set i none) G
  ct := fun τ G => D.ct (τ.set i none) G
/-- a clause's suite for the exception at a -/
def runH (oi : Option Nat) (ts : SuiteT) (a : Addr) (cls : Value) (d : Option Addr) (D : Ends) (σ : L2.St) (H : Hp) : Prop := match oi with
  | none => ts a cls d D σ H
  | some i => ts a cls d (goneE i D) (σ.set i (some (.ref a))) H
def wHs (K : PySem.W.Frag) (Wout : WX) (D : Ends) : List (Value × Option Nat × SuiteT) → WX
  | [] => Wout
  | (c, oi, ts) :: r => fun cls d σ H => ∃ b, PySem.W.exmOne K cls c = some b ∧ (b = true → ∀ a, H a = none → runH oi ts a cls d D σ H) ∧ (b = false → wHs K Wout D r cls d σ H)
def SuiteOk (X : Cx) (sts : List Stmt) (ts : SuiteT) : Prop := ∀ (a : Addr) (oe : Obj) (cls : Value) (d : Option Addr) (pn : List (Addr × Obj)), Zc cls d oe → (∃ vs, oe.data = .fields vs) → PSs (X.suite a ((a, oe) :: pn)) sts (ts a cls d)
inductive HsOk (X : Cx) : List ExceptHandler → List (Value × Option Nat × SuiteT) → Prop
  | nil : HsOk X [] []
  | bare {x : Str} {c : Value} {ts : SuiteT} {b₀ : Stmt} {sts : List Stmt} {np hp : Pos} {hds : List ExceptHandler} {l : List (Value × Option Nat × SuiteT)} (hc : Names X x c) (ok : SuiteOk X (b₀ :: sts) ts) (r : HsOk X hds l) :
      HsOk X (.ExceptHandler (some (.Name x np)) none (b₀ :: sts) hp :: hds) ((c, none, ts) :: l)
  | named {x n : Str} {i : Nat} {c : Value} {ts : SuiteT} {b₀ : Stmt} {sts : List Stmt} {np hp : Pos} {hds : List ExceptHandler} {l : List (Value × Option Nat × SuiteT)} (hi : X.N[i]? = some n) (hl : X.env.kindOf n = some .local) (hc : Names X x c) (ok : SuiteOk X (b₀ :: sts) ts) (r : HsOk X hds l) :
      HsOk X (.ExceptHandler (some (.Name x np)) (some n) (b₀ :: sts) hp :: hds) ((c, some i, ts) :: l)
section
variable {X : Cx} {body : List Stmt} {h₀ : ExceptHandler} {hds : List ExceptHandler} {l : List (Value × Option Nat × SuiteT)} {pos : Pos} {tb : WX → TS} {Wout : WX} {pins : List (Addr × Obj)} {σ : L2.St} {H : Hp} {D : Ends}
/-- the clauses, one after the other, over a landed exception -/
theorem hs_go (stk : X.stack = X.env :: X.outer) (hf : X.env.frame = some X.env.locals) (hN : X.N.Nodup) (tk : Takes X Wout) (ok : X.Ok) {a : Addr} {B : Heap} {sI t t3 : Shared} {cls : Value} {d : Option Addr} {h3 : Heap}
    (J : Inv X pins σ H sI) (nb : ∀ b o, sI.heap.get? b = some o → b ∉ frs X.stack → B.get? b = some o) (up : sI.heap.UpToSlots h3) (na : H a = none) (os : t.os = sI.os) (ag : AllBare t.gens)
    (fl : HandSPX.FlyingZ B (X.env :: X.outer) a (Zc cls d) h3) {hds : List ExceptHandler} {l : List (Value × Option Nat × SuiteT)} (hk : HsOk X hds l) :
    wHs X.K Wout D l cls d σ H → wpAny (model X.prog X.w) X.A (handleBy (.ref a) X.env hds) (SP X pins D) X.xe { t with heap := h3 } := by
  have off : ∀ {h : Heap}, HandSPX.FlyingZ B (X.env :: X.outer) a (Zc cls d) h → a ≠ X.env.locals ∧ a ∉ X.fs := fun {h} x => by
    obtain ⟨oe, vs, e1, _, e2⟩ := x.there
    have no : a ∉ frs (X.env :: X.outer) := fun hm => by
      obtain ⟨_, o, e3, nf⟩ := x.2.2.1.mem hm
      rw [e1] at e3; cases e3
      exact nf _ e2
    refine ⟨fun z => no (List.mem_filterMap.mpr ⟨X.env, List.mem_cons_self, by rw [hf, z]⟩), fun hm => ?_⟩
    obtain ⟨e, he, q⟩ := List.mem_filterMap.mp hm
    exact no (List.mem_filterMap.mpr ⟨e, List.mem_cons_of_mem _ he, q⟩)
  obtain ⟨nL, nF⟩ := off fl
  have J3 : Inv X pins σ H { t with heap := h3 } := J.landed nb fl.1 up os ag
  obtain ⟨oe3, vs3, he3, hz3, hd3⟩ := fl.there
  have S3 := J3.suite he3 hd3 na nL nF
  have tested : ∀ {x : Str} {c : Value} {np : Pos}, Names X x c → ∀ {Q : Value → Shared → Prop} {E : Value → Shared → Prop}, Q c { t with heap := h3 } → wpAny (model X.prog X.w) (X.A.mark (some (.ref a))) (eval (.Name x np) X.env) Q E { t with heap := h3 } := fun {x c np} hc {Q E} q => by
    obtain ⟨hg, hd, hm | ⟨hm, hv, hn⟩⟩ := hc
    · exact ld_glob (X := X.suite a ((a, oe3) :: (X.pn ++ pins))) S3 hg hm q hd
    · exact ld_blt (X := X.suite a ((a, oe3) :: (X.pn ++ pins))) S3 hg hm hv q hn hd
  have typ : PySem.W.Looks (model X.prog X.w) h3 (typeOf (.ref a)) cls := fun A Q E s k q => wpAny_typeOf_ref (k _ _ he3) (by rw [hz3.1]; exact q)
  induction hk with
  | nil =>
    intro w
    refine wpAny_handleBy_nil ?_
    have up4 : wpAny (model X.prog X.w) X.A (setFlight (.ref a) X.env.frame) (fun _ s4 => wpAny (model X.prog X.w) X.A (throw (.ref a) : Sem Flow) (SP X pins D) X.xe s4) X.xe { t with heap := h3 } := by
      rw [hf]
      refine HandSPX.setFlight_upZ fl fun h4 hh4 up4 => wpAny_throw (tk _ _ ⟨a, B, sI, pins, σ, H, cls, d, rfl, J, nb, up.trans up4, ?_, na, os, ag, w⟩)
      exact .inr (.inr (by rw [stk]; exact hh4))
    obtain ⟨_, _, _, oe, vs, T, oT, us, e1, e2, e3, e4, _⟩ := id fl
    unfold PySem.passOn
    refine wpAny_bind (wpAny_field e1 e3 e4 ?_)
    rw [if_neg (show ¬ ((Value.ref T == Value.none) = true) from by simp)]
    first
      | exact wpAny_bind (wpAny_pure (wpAny_bind up4))
      | exact wpAny_bind up4
  | bare hc sok r ih =>
    intro w
    obtain ⟨b, hb, yes, no⟩ := w
    refine wpAny_handleBy_cons (codeAny_handlers_test (tested hc ((PySem.W.exm_one (M := model X.prog X.w) J3.kIn typ hb).here ?_))) (by intro q; cases q)
    cases b with
    | false => exact ih (no rfl)
    | true =>
      refine codeAny_handlers_suite (HandSPX.lands_againZ fl fun h4 fl4 up4 => ?_)
      obtain ⟨oe4, vs4, he4, hz4, hd4⟩ := fl4.there
      have S4 := (J.landed nb fl4.1 (up.trans up4) os ag : Inv X pins σ H { t with heap := h4 }).suite he4 hd4 na nL nF
      refine wpAny_mono ((sok a oe4 cls d (X.pn ++ pins) hz4 ⟨_, hd4⟩).run [] _ _ H _ S4 (yes rfl a na)) (fun f s6 z => ?_) fun _ _ z => z.elim
      cases f with
      | next => obtain ⟨τ, G, S6, q⟩ := z; exact ⟨_, _, S6.unsuite ok, q⟩
      | brk => obtain ⟨τ, G, S6, q⟩ := z; exact ⟨_, _, S6.unsuite ok, q⟩
      | cont => obtain ⟨τ, G, S6, q⟩ := z; exact ⟨_, _, S6.unsuite ok, q⟩
      | ret u => obtain ⟨v, τ, G, S6, rv, q⟩ := z; exact ⟨_, _, _, S6.unsuite ok, rv, q⟩
  | named hi hl hc sok r ih =>
    intro w
    obtain ⟨b, hb, yes, no⟩ := w
    refine wpAny_handleBy_cons (codeAny_handlers_test (tested hc ((PySem.W.exm_one (M := model X.prog X.w) J3.kIn typ hb).here ?_))) (by intro q; cases q)
    cases b with
    | false => exact ih (no rfl)
    | true =>
      refine codeAny_handlers_suite_as (HandSPX.lands_againZ fl fun h4 fl4 up4 => ?_)
      obtain ⟨oe4, vs4, he4, hz4, hd4⟩ := fl4.there
      have S4 := (J.landed nb fl4.1 (up.trans up4) os ag : Inv X pins σ H { t with heap := h4 }).suite he4 hd4 na nL nF
      refine store_ok (X := X.suite a ((a, oe4) :: (X.pn ++ pins))) (v := .ref a) S4 hN hi (.inl hl) rfl (fun s5 S5 => ?_) (.inr hl)
      refine wpAny_mono ((sok a oe4 cls d (X.pn ++ pins) hz4 ⟨_, hd4⟩).run [] s5 _ H _ S5 (yes rfl a na)) (fun f s6 z => ?_) fun _ _ z => z.elim
      cases f with
      | next => obtain ⟨τ, G, S6, q⟩ := z; exact gone_ok (S6.unsuite ok) hN hi hl fun s7 J7 => ⟨_, _, J7, q⟩
      | brk => obtain ⟨τ, G, S6, q⟩ := z; exact gone_ok (S6.unsuite ok) hN hi hl fun s7 J7 => ⟨_, _, J7, q⟩
      | cont => obtain ⟨τ, G, S6, q⟩ := z; exact gone_ok (S6.unsuite ok) hN hi hl fun s7 J7 => ⟨_, _, J7, q⟩
      | ret u => obtain ⟨v, τ, G, S6, rv, q⟩ := z; exact gone_ok (S6.unsuite ok) hN hi hl fun s7 J7 => ⟨_, _, _, J7, rv, q⟩
theorem ps_try_hs (stk : X.stack = X.env :: X.outer) (hf : X.env.frame = some X.env.locals) (hN : X.N.Nodup) (tk : Takes X Wout)
    (hb : ∀ (W : WX) (pn : List (Addr × Obj)) (xe : Value → Shared → Prop), Takes (X.tr pn xe) W → PassesOwn (model X.prog X.w) X.A X.env xe → PSs (X.tr pn xe) body (tb W)) (hh : HsOk X (h₀ :: hds) l) :
    PS X (.Try body (h₀ :: hds) [] [] pos) (fun D σ H => tb (wHs X.K Wout D l) D σ H) := by
  refine ⟨fun pins s σ H D I h => ?_⟩
  have ok := I.ok
  refine wpAny_Try_except ?_
  refine wpAny_mono ((hb (wHs X.K Wout D l) (X.pn ++ pins) (fun e s₁ => wpAny (model X.prog X.w) X.A (noteFrame e X.env) (fun _ s₂ => wpAny (model X.prog X.w) X.A (setFlight e none) (fun _ s₃ =>
    wpAny (model X.prog X.w) X.A (handleBy e X.env (h₀ :: hds)) (SP X pins D) X.xe s₃) X.xe s₂) X.xe s₁) (fun u t air => ?_) PassesOwn.looking).run [] s σ H D (I.toTry _) h) (fun f s1 z => ?_) fun e s1 he => he
  · obtain ⟨a, B, sI, pins', τ, G, cls, d, rfl, J0, nb, up, sky, na, os, ag, w⟩ := air
    have sky' : Sky B (X.env :: X.outer) a (Zc cls d) X.env.locals t.heap := by rw [← stk]; exact sky
    refine Sky.land Zc.steady (by rw [ok.frames, stk]) hf sky' fun h3 fl3 up3 => ?_
    exact hs_go (t := t) (t3 := t) stk hf hN tk ok (J0.ofTry ok) nb (up.trans up3) na os ag fl3 hh w
  · cases f with
    | next => obtain ⟨τ, G, J, q⟩ := z; exact wpAny_execs_nil ⟨τ, G, J.ofTry ok, q⟩
    | brk => obtain ⟨τ, G, J, q⟩ := z; exact ⟨τ, G, J.ofTry ok, q⟩
    | cont => obtain ⟨τ, G, J, q⟩ := z; exact ⟨τ, G, J.ofTry ok, q⟩
    | ret u => obtain ⟨v, τ, G, J, rv, q⟩ := z; exact ⟨v, τ, G, J.ofTry ok, rv, q⟩
end
end DM
end
section
set_option maxHeartbeats 2000000
namespace DM
open PySem PySem.Spec PyProof.Rows L2
/-! ### try in the mirror -/
open Classical in
/-- what does not hang on where the exception lies -/
noncomputable def indep (f : Addr → Addr → SRes) : SRes := if h : ∃ r, ∀ a d, f a d = r then Classical.choose h else .no
theorem indep_eq {f : Addr → Addr → SRes} {r : SRes} (h : ∀ a d, f a d = r) : indep f = r := by
  have h' : ∃ r, ∀ a d, f a d = r := ⟨r, h⟩
  unfold indep
  rw [dif_pos h']
  exact (Classical.choose_spec h' 0 0).symm.trans (h 0 0)
theorem indep_at {f : Addr → Addr → SRes} (n : indep f ≠ .no) (a d : Addr) : f a d = indep f := by
  unfold indep at n ⊢
  split
  · rename_i h
    exact Classical.choose_spec h a d
  · rename_i h
    rw [dif_neg h] at n
    exact (n rfl).elim
structure HdM where
  cls : Str
  yes : List Str
  nos : List Str
  slot : Option Nat
  suite : Str → Addr → Option Addr → MS
def goneM : Option Nat → SRes → SRes
  | some i, .nx ρ A => .nx (ρ.set i none) A
  | some i, .bk ρ A => .bk (ρ.set i none) A
  | some i, .ct ρ A => .ct (ρ.set i none) A
  | none, .nx ρ A => .nx ρ A
  | none, .bk ρ A => .bk ρ A
  | none, .ct ρ A => .ct ρ A
  | _, .rt d A => .rt d A
  | _, .exc _ _ _ _ => .no
  | _, .no => .no
def enterM (oi : Option Nat) (a : Addr) (d : Option Addr) (fs : List (Str × D)) (ρ : Env) : Env := match oi with
  | none => ρ
  | some i => ρ.set i (some (.exv a d (fs.map (·.1)) (fs.map (·.2))))
noncomputable def excGo : List HdM → Str → List (Str × D) → Env → AH → SRes
  | [], C, fs, ρ, A => .exc C fs ρ A
  | h :: r, C, fs, ρ, A => if C ∈ h.yes then indep fun a d => goneM h.slot (h.suite C a (if fs = [] then none else some d) (enterM h.slot a (if fs = [] then none else some d) fs ρ) A) else if C ∈ h.nos then excGo r C fs ρ A else .no
noncomputable def mTry (mb : MS) (hs : List HdM) : MS := fun ρ A => match mb ρ A with
  | .exc C fs ρ1 A1 => excGo hs C fs ρ1 A1
  | r => r
def suiteT (K : PySem.W.Frag) (h : HdM) : SuiteT := fun a cls d D σ H => ∃ C, clsV K C = some cls ∧ tS K WNo (h.suite C a d) D σ H
/-- what an except clause must know: its class's value -/
structure HdF (K : PySem.W.Frag) (h : HdM) (c : Value) : Prop where
  yes : ∀ C ∈ h.yes, ∀ v, clsV K C = some v → PySem.W.exmOne K v c = some true
  nos : ∀ C ∈ h.nos, ∀ v, clsV K C = some v → PySem.W.exmOne K v c = some false
inductive HsM (K : PySem.W.Frag) : List HdM → List (Value × Option Nat × SuiteT) → Prop
  | nil : HsM K [] []
  | cons {h : HdM} {c : Value} {hs : List HdM} {l : List (Value × Option Nat × SuiteT)} : HdF K h c → HsM K hs l → HsM K (h :: hs) ((c, h.slot, suiteT K h) :: l)
section
variable {K : PySem.W.Frag} {W : WX} {σ : L2.St} {m m' : Mp} {A : AH} {ρ : Env} {H H' : Hp} {D0 : Ends}
theorem gone_none {r : SRes} (h : PostS K W m H (goneM none r) D0) : PostS K WNo m H r D0 := by
  cases r with
  | nx ρ A => exact h
  | bk ρ A => exact h
  | ct ρ A => exact h
  | rt d A => exact h
  | exc C fs ρ A => exact h.elim
  | no => exact h
theorem REnv.drop (i : Nat) {τ : L2.St} (h : REnv K m H ρ τ) : REnv K m H (ρ.set i none) (τ.set i none) := h.unset i none
theorem gone_some {i : Nat} {r : SRes} (h : PostS K W m H (goneM (some i) r) D0) : PostS K WNo m H r (goneE i D0) := by
  cases r with
  | nx ρ A => exact fun m' H' τ e R' E' => h m' H' (τ.set i none) e R' (E'.drop i)
  | bk ρ A => exact fun m' H' τ e R' E' => h m' H' (τ.set i none) e R' (E'.drop i)
  | ct ρ A => exact fun m' H' τ e R' E' => h m' H' (τ.set i none) e R' (E'.drop i)
  | rt d A => exact h
  | exc C fs ρ A => exact h.elim
  | no => exact h
theorem rd_exv {fs : List (Str × D)} {d : Option Addr} (a : Addr) (x : ExcAt K m H fs d) : RD K m H (.exv a d (fs.map (·.1)) (fs.map (·.2))) (.ref a) := by
  cases d with
  | none =>
    have e : fs = [] := x
    subst e
    exact .exv0 a
  | some dd =>
    obtain ⟨_, gs, h1, h2, h3, h4⟩ := x
    exact .exv1 h1 h2 h3 h4
theorem exc_ok {C : Str} {fs : List (Str × D)} {c : Value} {dx : Option Addr} (hc : clsV K C = some c) (R : Rel K m' A H') (E : REnv K m' H' ρ σ) (hx : ExcAt K m' H' fs dx) (e : Ext m H m' H') :
    ∀ {hs : List HdM} {l : List (Value × Option Nat × SuiteT)}, HsM K hs l → PostS K W m H (excGo hs C fs ρ A) D0 → wHs K W D0 l c dx σ H' := by
  intro hs l hl
  induction hl with
  | nil => exact fun h => h m' H' c dx σ e R E hc hx
  | @cons hd cv hs l F r ih =>
    intro h
    unfold excGo at h
    split at h
    · rename_i hy
      refine ⟨true, F.yes C hy c hc, fun _ a na => ?_, (fun z => nomatch z)⟩
      have nn : indep (fun a d => goneM hd.slot (hd.suite C a (if fs = [] then none else some d) (enterM hd.slot a (if fs = [] then none else some d) fs ρ) A)) ≠ .no := fun z => by
        rw [z] at h
        exact h.elim
      have ed : (if fs = [] then none else some (dx.getD 0)) = dx := by
        cases dx with
        | none => exact if_pos hx
        | some dd => exact if_neg hx.1
      have at_ := indep_at nn a (dx.getD 0)
      rw [← at_, ed] at h
      have h' := PostS.mono e h
      cases hs : hd.slot with
      | none =>
        rw [hs] at h'
        exact ⟨C, hc, m', A, ρ, R, E, gone_none h'⟩
      | some i =>
        rw [hs] at h'
        exact ⟨C, hc, m', A, _, R, E.set (rd_exv a hx) i, gone_some h'⟩
    · split at h
      · rename_i hn
        exact ⟨false, F.nos C hn c hc, (fun z => nomatch z), fun _ => ih h⟩
      · exact h.elim
theorem tryD {mb : MS} {hs : List HdM} {l : List (Value × Option Nat × SuiteT)} (hl : HsM K hs l) (h : tS K W (mTry mb hs) D0 σ H) : tS K (wHs K W D0 l) mb D0 σ H := by
  obtain ⟨m, A, ρ, R, E, h⟩ := h
  refine ⟨m, A, ρ, R, E, ?_⟩
  unfold mTry at h
  cases hr : mb ρ A with
  | exc C fs ρ1 A1 =>
    rw [hr] at h
    exact fun m' H' c dx σ' e R' E' hc hx => exc_ok hc R' E' hx e hl h
  | nx ρ1 A1 => rw [hr] at h; exact h
  | bk ρ1 A1 => rw [hr] at h; exact h
  | ct ρ1 A1 => rw [hr] at h; exact h
  | rt d A1 => rw [hr] at h; exact h
  | no => rw [hr] at h; exact h
end
section
variable {X : Cx} {W : WX} {body : List Stmt} {h₀ : ExceptHandler} {hds : List ExceptHandler} {l : List (Value × Option Nat × SuiteT)} {pos : Pos} {mb : MS} {hs : List HdM}
theorem s_try (stk : X.stack = X.env :: X.outer) (hf : X.env.frame = some X.env.locals) (hN : X.N.Nodup) (tk : Takes X W)
    (hb : ∀ (W : WX) (pn : List (Addr × Obj)) (xe : Value → Shared → Prop), Takes (X.tr pn xe) W → PassesOwn (model X.prog X.w) X.A X.env xe → DSs (X.tr pn xe) W body mb) (hl : HsM X.K hs l) (hh : HsOk X (h₀ :: hds) l) :
    DS X W (.Try body (h₀ :: hds) [] [] pos) (mTry mb hs) := PSi (ps_try_hs (tb := fun W => tS X.K W mb) stk hf hN tk hb hh) fun _ _ _ h => tryD hl h
theorem suite_ok {sts : List Stmt} {h : HdM} (hsu : ∀ (a : Addr) (oe : Obj) (cls : Value) (d : Option Addr) (pn : List (Addr × Obj)) (C : Str), Zc cls d oe → (∃ vs, oe.data = .fields vs) → clsV X.K C = some cls → DSs (X.suite a ((a, oe) :: pn)) WNo sts (h.suite C a d)) : SuiteOk X sts (suiteT X.K h) :=
  fun a oe cls d pn hz hf => ⟨fun pins s σ H D I ⟨C, hC, w⟩ => (hsu a oe cls d pn C hz hf hC).run pins s σ H D I w⟩
end
/-! ### in a suite: e.f -/
def mXf (C : Str) (xs : List Str) (a : Addr) (d : Option Addr) (f : Str) (me : ME) : ME := fun ρ A => (me ρ A).bind fun v A1 => match v with
  | .exv a' (some d') ns ds => if C ∈ xs ∧ a' = a ∧ some d' = d then (match (ns.zip ds).lookup f with | some x => .ok x A1 | none => .no) else .no
  | _ => .no
/-- a field's class facts -/
def XfF (K : PySem.W.Frag) (xs : List Str) (f : Str) : Prop := ∀ C ∈ xs, ∀ c, clsV K C = some c → ∃ ca, c = .ref ca ∧ XfC K ca ∧ PySem.W.findIn K (.ref ca) f = some none
theorem lookup_rel {K : PySem.W.Frag} {m : Mp} {H : Hp} {f : Str} : ∀ {gs : List (Str × V)} {ds : List D} {x : D}, RDs K m H ds (gs.map (·.2)) → ((gs.map (·.1)).zip ds).lookup f = some x → ∃ v, gs.lookup f = some v ∧ RD K m H x v
  | [], ds, x, r, e => by simp at e
  | (g, v) :: gs, ds, x, r, e => by
    cases ds with
    | nil => cases r
    | cons d ds =>
      cases r with
      | cons r rs =>
        simp only [List.map_cons, List.zip_cons_cons, List.lookup_cons] at e ⊢
        cases hb : (f == g) with
        | true => rw [hb] at e; cases e; exact ⟨v, rfl, r⟩
        | false => rw [hb] at e; exact lookup_rel rs e
section
variable {X : Cx} {W : WX} {a : Addr} {oe : Obj} {cls : Value} {d : Option Addr} {pn : List (Addr × Obj)} {e : Expr} {me : ME} {pos : Pos} {n C : Str} {xs : List Str}
theorem d_xf (F : XfF X.K xs n) (hC : clsV X.K C = some cls) (hz : Zc cls d oe) (hf : ∃ vs, oe.data = .fields vs) (he : DE (X.suite a ((a, oe) :: pn)) W e me) (hb : attributeBase e n X.env (eval e X.env) = eval e X.env := by rfl) :
    DE (X.suite a ((a, oe) :: pn)) W (.Attribute e n pos) (mXf C xs a d n me) := by
  refine ⟨fun pins s σ H Q I ⟨m, A, ρ, R, E, h⟩ => attr_of hb (thn (he.run pins s σ H (fun x H1 => ∃ m1 A1 v, Rel X.K m1 A1 H1 ∧ RD X.K m1 H1 v x ∧ Post X.K (RD X.K) W σ m1 H1 (match v with
    | .exv a' (some d') ns ds => if C ∈ xs ∧ a' = a ∧ some d' = d then (match (ns.zip ds).lookup n with | some x => .ok x A1 | none => .no) else .no
    | _ => .no) Q) I (tE.bind R E h fun m1 A1 v x H1 e1 R1 E1 r1 h1 => ⟨m1, A1, v, R1, r1, h1⟩)) fun u s1 hh => ?_)⟩
  obtain ⟨x, H1, I1, rx, m1, A1, v, R1, r1, h1⟩ := hh
  split at h1
  rotate_left
  · exact h1.elim
  rename_i a' d' ns ds
  split at h1
  rotate_left
  · exact h1.elim
  rename_i hcond
  obtain ⟨hx, rfl, rfl⟩ := hcond
  cases r1 with
  | @exv1 _ _ gs _ _ hH ho hn rs =>
    subst hn
    split at h1
    rotate_left
    · exact h1.elim
    rename_i y hy
    obtain ⟨w, hw, rw'⟩ := lookup_rel rs hy
    obtain ⟨ca, rfl, T, hno⟩ := F C hx cls hC
    obtain rfl : u = Value.ref a' := rx
    obtain ⟨ha, _⟩ := I1.pin (a', oe) (List.mem_append_left _ List.mem_cons_self)
    obtain ⟨vs, hd⟩ := hf
    have hxd : ObjOk X.prog X.w H1 s1.heap d' (.xd gs) := I1.hok d' _ hH
    obtain ⟨mA, hns, hr⟩ := hxd
    obtain ⟨od, ho', hl⟩ := lookIn_ns hns
    obtain ⟨u, hu, ru⟩ := RelO.some_of (v := w) (o := mA n) (by rw [← hw]; exact hr n)
    have J : PySem.W.InstAt s1.heap a' oe ca (some od) := by
      refine ⟨ha, hz.1, ?_, ?_⟩
      · unfold PySem.W.notCls
        rw [hd] <;> rfl
      · rw [hz.2]
        exact ho'
    have own := PySem.W.findObj_own T.hdC hno rfl (v := u) (by rw [hl, hu])
    exact HandSPX.exc_get I1.kIn J T.ga T.gg T.exC own (handed_of ru) ⟨w, H1, I1.tok _, ru, Post.here R1 rw' h1⟩
end
end DM
end
section
set_option maxHeartbeats 2000000
namespace DM
open PySem PySem.Spec PyProof.Rows L2 LamX
/-! ### a lambda, handed to a def and called there -/
abbrev LTag := Addr × Addr × L2.St
open Classical in
noncomputable def indepR (f : LTag → Res D) : Res D := if h : ∃ r, ∀ x, f x = r then Classical.choose h else .no
theorem indepR_eq {f : LTag → Res D} {r : Res D} (h : ∀ x, f x = r) : indepR f = r := by
  have h' : ∃ r, ∀ x, f x = r := ⟨r, h⟩
  unfold indepR
  rw [dif_pos h']
  exact (Classical.choose_spec h' (0, 0, [])).symm.trans (h (0, 0, []))
theorem indepR_at {f : LTag → Res D} (n : indepR f ≠ .no) (x : LTag) : f x = indepR f := by
  unfold indepR at n ⊢
  split
  · rename_i h
    exact Classical.choose_spec h x
  · rename_i h
    rw [dif_neg h] at n
    exact (n rfl).elim
section
variable {X : Cx} {pins : List (Addr × Obj)} {σ : L2.St} {H : Hp} {s : Shared} {m : Mp} {A : AH}
/-- the lambda is made -/
theorem lam_new {c P : Addr} {params : Arguments} {body : Expr} {scope : Scope} {pos : Pos} {E : Value → Shared → Prop} {Q : Value → Shared → Prop} (I : Inv X pins σ H s) (R : Rel X.K m A H) (TB : TabB X.base X.mg c P) (hcode : X.env.code = .ref c)
    {n : Nat} (hT : A[n]? = some (.tab P (X.env.qual ++ "<lambda>"))) (hdef : defaultsOf params X.env = ([], [])) (hfree : ∀ y ∈ scope.names, y.2 = .free → ∃ c, X.env.cells.lookup y.1 = some c)
    (h : ∀ (f c' : Addr) (pm ctv : Value) (H1 : Hp) (s' : Shared), Inv X pins σ H1 s' → Rel X.K m A H1 → Ext m H m H1 →
      s'.heap.get? f = some (PySem.W.kla_obj "<lambda>" (X.env.qual ++ "<lambda>") params body scope (cloFrom X.env.cells scope.names []) pm c' ctv) → H1 f = none → f ∉ frs X.stack → H1 c' = some (CodeO c' (X.env.qual ++ "<lambda>")) → Out m c' → Q (.ref f) s') :
    wpAny (model X.prog X.w) X.A (eval (.Lambda params body scope pos) X.env) Q E s := by
  obtain ⟨P', hP1, rfl, ps, hP, ht, ha⟩ := R.obj n _ hT
  have hPm : P' ∈ m.1 := List.mem_of_getElem? hP1
  refine PySem.W.kla_eval hdef ?_
  have bP : s.heap.BuiltinsAt X.mg P' := TB.bm.keeps I.bk
  have hP' : s.heap.get? P' = some { cls := .none, data := .fields ps } := I.hok P' _ hP
  have offs : ∀ f, s.heap.objs.size ≤ f → f ∉ frs X.stack := fun f hf z => by
    rcases List.mem_cons.mp (I.stkSub _ z) with e | e
    · have h1 := I.lt
      rw [← e] at h1
      exact Nat.lt_irrefl _ (Nat.lt_of_lt_of_le h1 hf)
    · exact I.nofs hf e
  cases hc : codeAmong pos ps.toList with
  | some cv =>
    obtain ⟨c', e, hco, hout⟩ := ha pos cv hc
    subst e
    refine PySem.W.kla_makeFunctionHit (mg := X.mg) (c := c) (P := P') (ps := ps) (closure_ok hfree) I.ok.glob (I.mod.glob.keeps I.bk) hcode (TB.code.keeps I.bk) hP' ht hc bP fun ctv h' tk hx hsz => ?_
    have I1 : Inv X pins σ H { s with heap := h'.push (PySem.W.kla_obj "<lambda>" (X.env.qual ++ "<lambda>") params body scope (cloFrom X.env.cells scope.names []) ((X.mg "__name__").getD .none) c' ctv), toks := tk } := I.kept fun b o e => Heap.get?_push_of_some _ (hx b o e)
    exact h h'.objs.size c' ((X.mg "__name__").getD .none) ctv H _ I1 R (Ext.refl m H) (Heap.get?_push_size _ rfl) (I.hok.fresh hsz) (offs _ hsz) hco hout
  | none =>
    refine PySem.W.kla_makeFunction (mg := X.mg) (c := c) (P := P') (ps := ps) (closure_ok hfree) I.ok.glob (I.mod.glob.keeps I.bk) hcode (TB.code.keeps I.bk) hP' ht hc TB.gP bP fun c' ctv h' tk hx hge hlt hrec htb => ?_
    obtain ⟨c2, oc, vs, t, e2, hoc, hd, hv⟩ := hrec
    cases e2
    have hsz : s.heap.objs.size ≤ h'.objs.size := Nat.le_trans hge (Nat.le_of_lt hlt)
    have nC : H c' = none := I.hok.fresh hge
    have outC := R.out nC
    have I1 := inv_table (t' := tk) (more := #[rawInt pos.line, rawInt pos.col, .ref c']) (h' := h'.push (PySem.W.kla_obj "<lambda>" (X.env.qual ++ "<lambda>") params body scope (cloFrom X.env.cells scope.names []) ((X.mg "__name__").getD .none) c' ctv)) I hP
      (fun b o hb e => Heap.get?_push_of_some _ (hx b o hb e)) (Heap.get?_push_of_some _ htb) hge ⟨oc, vs, t, Heap.get?_push_of_some _ hoc, hd, hv⟩
    have same : ∀ b o, H b = some o → b ≠ P' → upd (upd H P' (.tbl (ps ++ #[rawInt pos.line, rawInt pos.col, .ref c']))) c' (CodeO c' (X.env.qual ++ "<lambda>")) b = some o := fun b o e n => by
      rw [upd_ne (ne_of_none e nC), upd_ne n]; exact e
    have ext : Ext m H m (upd (upd H P' (.tbl (ps ++ #[rawInt pos.line, rawInt pos.col, .ref c']))) c' (CodeO c' (X.env.qual ++ "<lambda>"))) :=
      ⟨⟨[], (List.append_nil _).symm⟩, fun _ z => z, fun _ z => .inl z, fun _ z => .inl z, fun p o e n => same p o e fun z => n (by rw [z]; exact hPm)⟩
    have move : ∀ a o, H a = some o → Out m a → upd (upd H P' (.tbl (ps ++ #[rawInt pos.line, rawInt pos.col, .ref c']))) c' (CodeO c' (X.env.qual ++ "<lambda>")) a = some o ∧ Out m a := fun a o e n => ⟨same a o e fun z => n.1 (by rw [z]; exact hPm), n⟩
    have eL : (ps ++ #[rawInt pos.line, rawInt pos.col, .ref c']).toList = ps.toList ++ [rawInt pos.line, rawInt pos.col, .ref c'] := by simp
    have R1 : Rel X.K m A (upd (upd H P' (.tbl (ps ++ #[rawInt pos.line, rawInt pos.col, .ref c']))) c' (CodeO c' (X.env.qual ++ "<lambda>"))) := by
      refine ⟨R.len, R.nd, fun p hp z => ?_, fun k o hk => ?_⟩
      · cases hq : H p with
        | none => exact R.pv p hp hq
        | some u =>
          by_cases hb : p = P'
          · rw [hb, upd_ne (ne_of_none hP nC), upd_same] at z; cases z
          · rw [same p u hq hb] at z; cases z
      · obtain ⟨q, h1, h2⟩ := R.obj k o hk
        refine ⟨q, h1, ?_⟩
        by_cases hb : q = P'
        · have hkn : k = n := by
            obtain ⟨l1, e1⟩ := List.getElem?_eq_some_iff.mp h1
            obtain ⟨l2, e2⟩ := List.getElem?_eq_some_iff.mp hP1
            exact (List.getElem_inj R.nd).mp (e1.trans (hb.trans e2.symm))
          subst hkn
          rw [hT] at hk
          cases hk
          refine ⟨hb, _, by rw [upd_ne (ne_of_none hP nC), upd_same], by rw [eL]; exact PySem.TriplesOk_snoc _ _ _ _ ht, fun p' cv hcv => ?_⟩
          rw [eL] at hcv
          rcases among_app _ ht hcv with z | z
          · obtain ⟨c0, e1, e2, e3⟩ := ha p' cv z
            exact ⟨c0, e1, (move _ _ e2 e3).1, e3⟩
          · exact ⟨c', z, upd_same, outC⟩
        · refine h2.move (fun _ _ e => e) move ?_
          cases hq : H q with
          | none => exact absurd hq h2.held
          | some u => exact same q u hq hb
    refine h h'.objs.size c' ((X.mg "__name__").getD .none) ctv _ _ I1 R1 ext (Heap.get?_push_size _ rfl) ?_ (offs _ hsz) upd_same outC
    have n1 : h'.objs.size ≠ c' := Nat.ne_of_gt hlt
    have n2 : h'.objs.size ≠ P' := Nat.ne_of_gt (Nat.lt_of_lt_of_le (Heap.lt_size hP') hsz)
    rw [upd_ne n1, upd_ne n2]
    exact I.hok.fresh hsz
end
def mWork (x : LTag) (q : Str) (me : ME) (i : Nat) : ME := fun ρ A => match ρ[i]? with
  | some (some (.fnv f c q' σ ρ')) => open Classical in if f = x.1 ∧ c = x.2.1 ∧ σ = x.2.2 ∧ q' = q then me ρ' A else .no
  | _ => .no
section
variable {X : Cx} {pins : List (Addr × Obj)} {σ : L2.St} {H : Hp} {s : Shared}
/-- the lambda is called, in the def that got it -/
theorem d_work {Ng : List Str} {qg : Str} {sg : Scope} {g f c' : Addr} {cdg pm ctv : Value} {params : Arguments} {body : Expr} {scope : Scope} {k i : Nat} {a : Str} {pn : List (Addr × Obj)} {xe : Value → Shared → Prop} {W : WX} {Eg : XK} {me : ME} {p1 p2 : Pos}
    (I : Inv X pins σ H s) (L : LamS X.env.scope scope) (hf : s.heap.get? f = some (PySem.W.kla_obj "<lambda>" (X.env.qual ++ "<lambda>") params body scope (cloFrom X.env.cells scope.names []) pm c' ctv)) (hfn : H f = none) (hfr : f ∉ frs X.stack)
    (hbind : bindArgs (PySem.W.kla_fn "<lambda>" (X.env.qual ++ "<lambda>") params body scope (cloFrom X.env.cells scope.names []) pm (.ref c') ctv) ⟨[], []⟩ = pure [])
    (tk : Takes ((cxOf (L2.CX X.prog X.w) X.prog X.w X.K X.mg X.base Ng qg sg g cdg X.A X.stack s H Eg).tr pn xe) W) (hr : Room (k + 1) (X.A.deeper (envOfC qg sg s.heap.objs.size g cdg))) (gd : X.A.guards = some [])
    (hbody : ∀ (A : Around) (outer : List PySem.Env) (s : Shared) (H : Hp) (E : XK), Room k (A.deeper (lamEnv X scope s.heap.objs.size f c')) → (A.deeper (lamEnv X scope s.heap.objs.size f c')).guards = some [] → Takes (lamCx X A outer s H E scope f c') (fun c d _ H' => E c d H') →
      DE (lamCx X A outer s H E scope f c') (fun c d _ H' => E c d H') body me)
    (hN : Ng[i]? = some a) (hv : Vis sg a) (hd : (a == ("__debug__" : Str)) = false := by decide) (hcd : (a == ("__classdict__" : Str)) = false := by decide) :
    DE ((cxOf (L2.CX X.prog X.w) X.prog X.w X.K X.mg X.base Ng qg sg g cdg X.A X.stack s H Eg).tr pn xe) W (.Call (.Name a p1) [] [] p2) (mWork (f, c', σ) (X.env.qual ++ "<lambda>") me i) := by
  refine ⟨fun pinsZ sZ σZ HZ Q IZ ⟨m, AA, ρ, R, EE, h⟩ => ?_⟩
  unfold mWork at h
  split at h
  rotate_left
  · exact h.elim
  rename_i f' c'' q' σ' ρ' hρ
  split at h
  rotate_left
  · exact h.elim
  rename_i hh
  obtain ⟨rfl, rfl, rfl, rfl⟩ := hh
  obtain ⟨v, hs, rv⟩ := EE.2 i _ hρ
  cases rv with
  | fnv hc hout ro =>
  refine wpAny_Call_Name_kw (thn ((pe_var (pos := p1) (i := i) hN hv hd hcd).run pinsZ sZ σZ HZ (fun v H1 => v = .ref f' ∧ H1 = HZ) IZ ⟨.ref f', hs, rfl, rfl⟩) fun u s1 ⟨v, H1, I1, r1, q1⟩ => ?_)
  obtain ⟨ev, eH⟩ := q1
  subst ev
  rw [eH] at I1
  obtain rfl : u = Value.ref f' := r1
  have of1 := I1.base.keep f' _ hf hfn hfr (fun z => nomatch (show f' ∈ ([] : List Addr) from z))
  refine PySem.W.callWith_F0 ⟨_, _, _, _, of1⟩ ?_
  have un : Un (frs X.stack) [] H HZ s.heap s1.heap := I1.base
  obtain ⟨⟨oc, vs, t, hoc, hdc, hvc⟩, _, _⟩ := I1.hok c'' _ hc
  have run : codeAny (model X.prog X.w) (X.A.deeper (envOfC qg sg s.heap.objs.size g cdg)) (.call (.ref f') ⟨[], []⟩) (CR (L2.CX X.prog X.w) (envOfC qg sg s.heap.objs.size g cdg :: X.stack) X.prog X.w HZ s1 Q (WE W σZ)) s1 := by
    refine PySem.W.kla_callFunE hr.depth of1 rfl L.co L.gen rfl ⟨c'', oc, vs, t, rfl, hoc, hdc, hvc⟩ ?_
    rw [hbind]
    refine wpAny_pure (wpAny_newFunctionEnv (fun y hy => (L.own y hy).2) (fun y hy => absurd hy (by simp)) (fun h₁ hns hsb => ⟨I1.nolimit.fresh _ hsb, ?_⟩) L.kind)
    show codeAny _ _ (.expr body (lamEnv X scope s1.heap.objs.size f' c'')) _ _
    have J := lam_start2 (f := f') (c' := c'') (E := WE W σZ) (tk := s1.toks + ([] : List (Str × Value)).length) I L I1.env0 hr.hd un hns fun b o e => hsb.extBut b o (Nat.ne_of_lt (Heap.lt_size e)) (Heap.get?_push_of_some _ e)
    have want : tE X.K (fun c d _ H' => WE W σZ c d H') me σ' HZ Q := by
      refine ⟨m, AA, ρ', R, RDo.env ro, ?_⟩
      cases hr2 : me ρ' AA with
      | ok d A1 => rw [hr2] at h; exact h
      | exc C fs A1 => rw [hr2] at h; exact h
      | no => rw [hr2] at h; exact h
    refine PySem.W.kla_codeExpr (wpAny_mono ((hbody _ _ s1 HZ _ (hr.deeper _) gd (takes_of rfl rfl rfl rfl)).run [] _ _ HZ Q J want) (fun v s' hq => ?_) fun e s' hq => hq)
    obtain ⟨w', H', J', rv, q⟩ := hq
    exact ⟨w', H', J'.os, J'.bare, J'.base, J'.hok, rv, q⟩
  refine wpAny_call (codeAny_mono run fun r s' hq => ?_)
  cases r with
  | error e => exact passAt tk σZ pinsZ HZ s1 e s' I1 hq
  | ok fl =>
    cases fl with
    | ret u => exact I1.after hq
    | next => exact False.elim hq
    | brk => exact False.elim hq
    | cont => exact False.elim hq
/-- the def's part: N slots, its body's mirror over the lambda's call -/
noncomputable def mLam (n : Nat) (P : Addr) (q : Str) (N : Nat) (F : ME → MS) (me : ME) : ME := fun ρ A => match A[n]? with
  | some (.tab P' q') => open Classical in if P' = P ∧ q' = q then indepR fun x => mFun N (F (mWork x q me 0)) [.fnv x.1 x.2.1 q x.2.2 ρ] A else .no
  | _ => .no
/-- g(lambda: body) -/
theorem d_lam {W : WX} {F : ME → MS} {me : ME} {x qual a : Str} {st : Stmt} {g c P : Addr} {fd : FuncData} {n k N : Nat} {Ng : List Str} {params : Arguments} {body : Expr} {scope : Scope} {p lpos pos : Pos}
    (G : Fun X.K x qual st g fd) (hm : X.mg x = some (.ref g)) (hk : PySem.W.keepIn X.K (.ref g) = true) (hb : Binds X.K fd [a] []) (Sg : FnScope Ng [a] (defScope st)) (hr : Room (k + 2) X.A) (gd : X.A.guards = some []) (tk : Takes X W)
    (hF : ∀ (cdv : Value) (s : Shared) (H : Hp) (E : XK) (mw : ME), Takes (cxOf (L2.CX X.prog X.w) X.prog X.w X.K X.mg X.base Ng qual (defScope st) g cdv X.A X.stack s H E) (fun c d _ H' => E c d H') → Room (k + 1) (X.A.deeper (envOfC qual (defScope st) s.heap.objs.size g cdv)) →
      (∀ (W : WX) (pn : List (Addr × Obj)) (xe : Value → Shared → Prop) (p1 p2 : Pos), Takes ((cxOf (L2.CX X.prog X.w) X.prog X.w X.K X.mg X.base Ng qual (defScope st) g cdv X.A X.stack s H E).tr pn xe) W →
        DE ((cxOf (L2.CX X.prog X.w) X.prog X.w X.K X.mg X.base Ng qual (defScope st) g cdv X.A X.stack s H E).tr pn xe) W (.Call (.Name a p1) [] [] p2) mw) →
      DSs (cxOf (L2.CX X.prog X.w) X.prog X.w X.K X.mg X.base Ng qual (defScope st) g cdv X.A X.stack s H E) (fun c d _ H' => E c d H') (defBody st) (F mw))
    (TB : TabB X.base X.mg c P) (hcode : X.env.code = .ref c) (L : LamS X.env.scope scope) (hdef : defaultsOf params X.env = ([], []))
    (hbind : ∀ (q : Str) (cl : List (Str × Addr)) (pm cv ctv : Value), bindArgs (PySem.W.kla_fn "<lambda>" q params body scope cl pm cv ctv) ⟨[], []⟩ = pure [])
    (hbody : ∀ (A : Around) (outer : List PySem.Env) (s : Shared) (H : Hp) (E : XK) (f c' : Addr), Room k (A.deeper (lamEnv X scope s.heap.objs.size f c')) → (A.deeper (lamEnv X scope s.heap.objs.size f c')).guards = some [] → Takes (lamCx X A outer s H E scope f c') (fun c d _ H' => E c d H') →
      DE (lamCx X A outer s H E scope f c') (fun c d _ H' => E c d H') body me)
    (hNg : Ng[0]? = some a) (hva : Vis (defScope st) a) (hNn : Ng.length = N) (hg : Gl X x := by rfl) (hdb : (x == ("__debug__" : Str)) = false := by decide) (hd : (a == ("__debug__" : Str)) = false := by decide) (hcd : (a == ("__classdict__" : Str)) = false := by decide) :
    DE X W (.Call (.Name x p) [.Lambda params body scope lpos] [] pos) (mLam n P (X.env.qual ++ "<lambda>") N F me) := by
  refine ⟨fun pins s σ H Q I ⟨m, AA, ρ, R, EE, h⟩ => ?_⟩
  unfold mLam at h
  split at h
  rotate_left
  · exact h.elim
  rename_i P' q' hT
  split at h
  rotate_left
  · exact h.elim
  rename_i hpq
  obtain ⟨rfl, rfl⟩ := hpq
  obtain ⟨oc, od, kV, doc, pm0, an, cdv, ct, osl, rfl, lk, hcd0⟩ := G.ex
  refine wpAny_Call_Name_kw (ld_glob I hg hm ?_ hdb)
  refine PySem.W.callWith_K (h₀ := X.base) I.ok.mod.kin hk ?_ (by rfl) (by rfl)
  show wpAny _ _ (spliced ((false, eval (.Lambda params body scope lpos) X.env) :: backTo pos (starEach [] X.env))) _ _ s
  refine Calls.spliced_cons (lam_new I R TB hcode hT hdef (L.has I.ok) fun f c' pm' ctv H1 s' I1 R1 e1 hf hfn hfr hco hout => ?_)
  refine Calls.spliced_nil ⟨I1.kIn, ?_⟩
  have nn : indepR (fun x => mFun N (F (mWork x (X.env.qual ++ "<lambda>") me 0)) [.fnv x.1 x.2.1 (X.env.qual ++ "<lambda>") x.2.2 ρ] AA) ≠ .no := fun z => by
    rw [z] at h
    exact h.elim
  rw [← indepR_at nn (f, c', σ)] at h
  have h' := Post.mono e1 h
  have run : codeAny (model X.prog X.w) X.A (.call (.ref g) ⟨[.ref f], []⟩) (CR (L2.CX X.prog X.w) X.stack X.prog X.w H1 s' Q (WE W σ)) s' := by
    refine run_ofS (N := Ng) (ps := [a]) (us := [.ref f]) (vs := [.ref f]) lk hcd0 Sg hr I1.env0 (hb s' [.ref f] I1.kIn rfl) (.cons rfl .nil) rfl fun hr' => ?_
    have tk2 : Takes (cxOf (L2.CX X.prog X.w) X.prog X.w X.K X.mg X.base Ng qual (defScope st) g cdv X.A X.stack s' H1 (WE W σ)) (fun c d _ H' => WE W σ c d H') := takes_of rfl rfl rfl rfl
    have B := hF cdv s' H1 (WE W σ) (mWork (f, c', σ) (X.env.qual ++ "<lambda>") me 0) tk2 hr' fun W pn xe p1 p2 tk3 => d_work I1 L hf hfn hfr (hbind _ _ _ _ _) tk3 hr' gd (fun A outer s H E hr2 gd2 tk4 => hbody A outer s H E f c' hr2 gd2 tk4) hNg hva hd hcd
    refine ⟨_, B, m, AA, [some (.fnv f c' (X.env.qual ++ "<lambda>") σ ρ)] ++ List.replicate (Ng.length - 1) none, R1, ?_, ?_⟩
    · exact start_rel (N := Ng) (ds := [.fnv f c' (X.env.qual ++ "<lambda>") σ ρ]) (.cons (.fnv hco hout (REnv.toO (EE.mono e1))) .nil)
    · subst hNn
      unfold mFun at h'
      have e0 : ([D.fnv f c' (X.env.qual ++ "<lambda>") σ ρ].map some ++ List.replicate (Ng.length - [D.fnv f c' (X.env.qual ++ "<lambda>") σ ρ].length) none) = [some (.fnv f c' (X.env.qual ++ "<lambda>") σ ρ)] ++ List.replicate (Ng.length - 1) none := rfl
      rw [e0] at h'
      cases hz : F (mWork (f, c', σ) (X.env.qual ++ "<lambda>") me 0) ([some (.fnv f c' (X.env.qual ++ "<lambda>") σ ρ)] ++ List.replicate (Ng.length - 1) none) AA with
      | nx ρ1 A1 => rw [hz] at h'; exact fun m' H' σ' e2 R2 _ => h' m' H' .non e2 R2 .non
      | rt d A1 => rw [hz] at h'; exact fun m' H' v e2 R2 r2 => h' m' H' v e2 R2 r2
      | exc C fs ρ1 A1 => rw [hz] at h'; exact fun m' H' c dx σ' e2 R2 _ hc hx => h' m' H' c dx e2 R2 hc hx
      | bk ρ1 A1 => rw [hz] at h'; exact h'.elim
      | ct ρ1 A1 => rw [hz] at h'; exact h'.elim
      | no => rw [hz] at h'; exact h'.elim
  refine wpAny_call (codeAny_mono run fun r s2 hq => ?_)
  cases r with
  | error e => exact passAt tk σ pins H1 s' e s2 I1 hq
  | ok fl =>
    cases fl with
    | ret u => exact I1.after hq
    | next => exact False.elim hq
    | brk => exact False.elim hq
    | cont => exact False.elim hq
end
end DM
end
section
set_option maxHeartbeats 2000000
namespace DM
open PySem PySem.Spec PyProof.Rows L2
/-! ### tuple * number, any number -/
theorem tm_same (l : Addr) (items : Array Value) (n : Nat) (dd : Option Addr) (sl : Array (Option Value)) (x : Int) (u : Tok) (h0 : -(2 ^ 63) ≤ x ∧ x < 2 ^ 63) (h1 : (items.isEmpty || x == 1) = true) :
    Meets (Builtin.«tuple.__mul__» ⟨[.ref l, .int x u], []⟩) (fun _ R s => s.heap.get? l = some { cls := .type "tuple", dict := dd, data := .seq items n, slots := sl } ∧ R (.ok (.ret (Value.ref l))) s) :=
  .of_wp fun prog w A R s h => by
    obtain ⟨hp, g, d, tk, os⟩ := s
    obtain ⟨hl, h⟩ := h
    have f1 := AutoSeq1.idx_int
    have c0 : (decide (x < -(2 ^ 63)) || decide (x ≥ 2 ^ 63)) = false := by rw [decide_eq_false (by omega), decide_eq_false (by omega)]; rfl
    wp_walk using wpAny_loadPart' hl
    repeat (first
      | (refine wpAny_ite_false (decide_eq_false (by rw [c0]; exact Bool.false_ne_true)) ?_; wp_walk using wpAny_loadPart' hl)
      | (refine wpAny_ite_true (decide_eq_true h1) ?_; wp_walk using wpAny_loadPart' hl))
    exact ⟨_, rfl, h⟩
theorem tm_none (l : Addr) (items : Array Value) (n : Nat) (dd : Option Addr) (sl : Array (Option Value)) (x : Int) (u : Tok) (h0 : -(2 ^ 63) ≤ x) (h1 : (items.isEmpty || x == 1) = false) (h2 : x ≤ 0) :
    Meets (Builtin.«tuple.__mul__» ⟨[.ref l, .int x u], []⟩) (fun _ R s => s.heap.get? l = some { cls := .type "tuple", dict := dd, data := .seq items n, slots := sl } ∧
      R (.ok (.ret (Value.ref s.heap.objs.size))) { s with heap := s.heap.push { cls := Value.type "tuple", data := Data.seq #[] }, toks := s.toks }) :=
  .of_wp fun prog w A R s h => by
    obtain ⟨hp, g, d, tk, os⟩ := s
    obtain ⟨hl, h⟩ := h
    have f1 := AutoSeq1.idx_int
    have c0 : (decide (x < -(2 ^ 63)) || decide (x ≥ 2 ^ 63)) = false := by rw [decide_eq_false (by omega), decide_eq_false (by omega)]; rfl
    have c2 : (decide (x ≤ 0) || items.isEmpty) = true := by rw [decide_eq_true h2]; rfl
    wp_walk using wpAny_loadPart' hl
    repeat (first
      | (refine wpAny_ite_false (decide_eq_false (by rw [c0]; exact Bool.false_ne_true)) ?_; wp_walk using wpAny_loadPart' hl)
      | (refine wpAny_ite_false (decide_eq_false (by rw [h1]; exact Bool.false_ne_true)) ?_; wp_walk using wpAny_loadPart' hl)
      | (refine wpAny_ite_true (decide_eq_true c2) ?_; wp_walk using wpAny_loadPart' hl))
    exact ⟨_, rfl, h⟩
def rRepA (K : PySem.W.Frag) : R2 := fun x y H Q => ∃ l k xs, x = .ref l ∧ y = .int k ∧ SqT K H l xs ∧ -(2 ^ 63) ≤ k ∧ k < 2 ^ 63 ∧ xs.length * k.toNat ≤ sizeLine ∧ ((xs = [] ∨ k = 1) → Q (.ref l) H) ∧
  (¬ (xs = [] ∨ k = 1) → ∀ p us, H p = none → Q (.ref p) (upd H p (plH us (List.replicate k.toNat xs).flatten)))
section
variable {X : Cx}
theorem op_repA : OpR X (binaryOp .Mult) (rRepA X.K) := by
  intro pins s σ H x y v u Q I rx ry h
  obtain ⟨l, k, xs, rfl, rfl, hT, k0, k1, hz, q1, q2⟩ := h
  cases rx
  obtain ⟨t, rfl⟩ := ry
  obtain ⟨its, r, ⟨⟨cls, dd, data, sl⟩, ho, hc, n, hd⟩, hs⟩ := I.tuple hT
  simp only at hc hd
  subst hc hd
  have hle : its.length = xs.length := r.length.symm
  have hie : its.toArray.isEmpty = decide (xs = []) := by
    cases xs with
    | nil => cases r; rfl
    | cons a b => cases r; rfl
  have main : ∀ {F : List Value → (Result → Shared → Prop) → Shared → Prop} , Meets (Builtin.«tuple.__mul__» ⟨[.ref l, .int k t], []⟩) (fun _ R s' => s'.heap.get? l = some { cls := .type "tuple", dict := dd, data := .seq its.toArray n, slots := sl } ∧ F [] R s') →
      F [] (fun r s' => match r with | .ok (.ret v) => EP X pins σ Q v s' | .ok _ => False | .error e => X.xe e s') s → wpAny (model X.prog X.w) X.A (binaryOp .Mult (.ref l) (.int k t)) (EP X pins σ Q) X.xe s := fun M hF =>
    wpAny_binaryOp_repeat_ref (T := "tuple") (U := "int") (by decide) ⟨_, ho, rfl⟩ (fun s' => typeIs_int s' k t) noFill_tuple_mul F.fills_int_mul F.slot_int_rmul repeat_tuple F.slot_int_index.lookup
      (call_meets F.slot_int_rmul (typeIs_int s k t) F.entry_int_rmul (F.args_int_rmul_2 _ _) (int_rmul_tuple k t l its.toArray n dd sl)
        ⟨ho, rfl, ⟨_, ho, rfl⟩, call_meets F.slot_tuple_mul ⟨_, ho, rfl⟩ F.entry_tuple_mul (F.args_tuple_mul_2 _ _) M ⟨ho, hF⟩⟩)
  have laid : ∀ {zs : List V} {ws : List Value}, Vals zs ws → zs.length ≤ sizeLine → (∀ p us, H p = none → Q (.ref p) (upd H p (plH us zs))) → EP X pins σ Q (.ref s.heap.objs.size) { s with heap := s.heap.push { cls := .type "tuple", data := .seq ws.toArray }, toks := s.toks } := fun {zs ws} rz hl q =>
    ⟨.ref s.heap.objs.size, _, I.laid (t' := s.toks) (o := plH ws zs) (fun b ob q => Heap.get?_push_of_some _ q) (Nat.le_refl _) (plain_ok (Heap.get?_push_size _ rfl) rz hl), rfl, q _ _ (I.hok.fresh (Nat.le_refl _))⟩
  by_cases h1 : xs = [] ∨ k = 1
  · refine main (F := fun _ R s => R (.ok (.ret (.ref l))) s) (tm_same l its.toArray n dd sl k t ⟨k0, k1⟩ ?_) ⟨.ref l, H, I, rfl, q1 h1⟩
    rw [hie]
    rcases h1 with h1 | h1
    · rw [decide_eq_true h1]; rfl
    · rw [h1]; simp
  · have hne : xs ≠ [] := fun z => h1 (.inl z)
    have hk1 : k ≠ 1 := fun z => h1 (.inr z)
    have c1 : (its.toArray.isEmpty || k == 1) = false := by
      rw [hie, decide_eq_false hne, Bool.false_or]
      exact beq_eq_false_iff_ne.mpr hk1
    by_cases h2 : k ≤ 0
    · refine main (F := fun _ R s => R (.ok (.ret (Value.ref s.heap.objs.size))) { s with heap := s.heap.push { cls := Value.type "tuple", data := Data.seq #[] }, toks := s.toks }) (tm_none l its.toArray n dd sl k t k0 c1 h2) (laid (zs := []) (ws := []) .nil (Nat.zero_le _) fun p us hp => ?_)
      have z := q2 h1 p us hp
      have e0 : k.toNat = 0 := by omega
      rw [e0] at z
      exact z
    · have hxl : 1 ≤ xs.length := by
        cases xs with
        | nil => exact (hne rfl).elim
        | cons a b => simp
      have hn2 : k.toNat * 1 ≤ xs.length * k.toNat := by rw [Nat.mul_comm xs.length]; exact Nat.mul_le_mul (Nat.le_refl _) hxl
      rw [sizeLine_eq] at hz
      have em : ((its.toArray.size : Nat) : Int) * k = ((xs.length * k.toNat : Nat) : Int) := by
        rw [List.size_toArray, hle, Int.natCast_mul]
        congr 1
        omega
      have c2 : (decide (k ≤ 0) || its.toArray.isEmpty) = false := by rw [decide_eq_false h2, hie, decide_eq_false hne]; rfl
      have c0 : (decide (k < -(2 ^ 63)) || decide (k ≥ 2 ^ 63)) = false := by rw [decide_eq_false (by omega), decide_eq_false (by omega)]; rfl
      have c4 : Builtin.Tuple.tupleTooMany (((its.toArray.size : Nat) : Int) * k) = false := by
        unfold Builtin.Tuple.tupleTooMany
        rw [sizeLine_eq, em]
        exact decide_eq_false (by omega)
      have fl : (List.replicate k.toNat xs).flatten.length = xs.length * k.toNat := by rw [PyProof.Rows.lm_len_rep_flat, Nat.mul_comm]
      refine main (F := fun _ R s => R (.ok (.ret (Value.ref s.heap.objs.size))) { s with heap := s.heap.push { cls := Value.type "tuple", data := Data.seq (List.replicate k.toNat its).flatten.toArray }, toks := s.toks }) ?_ (laid (r.rep k.toNat) (by rw [fl, sizeLine_eq]; exact hz) (q2 h1))
      have M := tuple_mulW l its.toArray n dd sl k t c0 c1 c2 (by rw [em]; omega) c4 (by rw [size_rep, List.size_toArray, PyProof.Rows.lm_len_rep_flat, hle, Nat.mul_comm, sizeLine_eq]; exact hz)
      rw [size_rep] at M
      exact M
/-- a * b: ints; a tuple by a number -/
def fMulA : D → D → AH → Res D := fun d e A => match d, e with
  | .int i, .int j => if CMul i j then .ok (.int (i * j)) A else .no
  | .tup xs, .int k => if -(2 ^ 63) ≤ k ∧ k < 2 ^ 63 ∧ xs.length * k.toNat ≤ 16777216 then .ok (.tup (List.replicate k.toNat xs).flatten) A else .no
  | _, _ => .no
theorem fMulA_ok {K : PySem.W.Frag} : OpD K fMulA (fun x y H Q => rI CMul (fun i j => .int (i * j)) x y H Q ∨ rRepA K x y H Q) := by
  intro W σ m A H x y d e Q R hx hy h
  unfold fMulA at h
  split at h
  · cases hx; cases hy
    split at h
    · rename_i hc
      exact .inl ⟨_, _, rfl, rfl, hc, Post.here R (.int _) h⟩
    · exact h.elim
  · rename_i xs k
    have hx' := hx
    cases hx with
    | tup s r =>
      rename_i a vs
      cases hy
      split at h
      · rename_i hc
        refine .inr ⟨a, k, vs, rfl, rfl, s.sq, hc.1, hc.2.1, by rw [← r.length, sizeLine_eq]; exact hc.2.2, fun h1 => ?_, fun _ => tup_new R (RDs.rep r k.toNat) h⟩
        have e0 : (List.replicate k.toNat xs).flatten = xs := by
          rcases h1 with h1 | h1
          · have : xs = [] := List.eq_nil_of_length_eq_zero (by rw [r.length, h1]; rfl)
            subst this
            simp
          · subst h1
            simp
        rw [e0] at h
        exact Post.here R hx' h
      · exact h.elim
  · exact h.elim
end
section
variable {X : Cx} {W : WX} {a b : Expr} {ma mb : ME} {pos : Pos}
theorem d_mulA (ha : DE X W a ma) (hb : DE X W b mb) : DE X W (.BinOp a .Mult b pos) (mOp fMulA ma mb) := d_op (op_mul.or op_repA) fMulA_ok ha hb
end
end DM
end
section
set_option maxHeartbeats 2000000
namespace DM
open PySem PySem.Spec PyProof.Rows L2
/-! ### own error classes, what is known of them -/
structure ExcK (K : PySem.W.Frag) (n : Str) (c : Addr) : Prop where
  nm : clsV K n = some (.ref c)
  ec : ExcC K c
  ty : PySem.W.typeIn K (.ref c) = some (.type "type")
  kp : PySem.W.keepIn K (.ref c) = true
  self : PySem.W.subIn K (.ref c) (.ref c) = some true
theorem ExcK.xf {K : PySem.W.Frag} {n : Str} {c : Addr} (T : ExcK K n c) : XfC K c := ⟨T.ec.hg, T.ec.hk, T.ec.hs, T.ec.hd⟩
theorem ExcK.cls {K : PySem.W.Frag} {n : Str} {c : Addr} (T : ExcK K n c) : (PySem.W.clsIn K c).isSome = true := by
  obtain ⟨cd, hc, _⟩ := PySem.W.any_some T.ec.hd
  rw [hc]; rfl
theorem ExcK.exm {K : PySem.W.Frag} {n : Str} {c d : Addr} {b : Bool} (T : ExcK K n c) (h : PySem.W.subIn K (.ref d) (.ref c) = some b) : PySem.W.exmOne K (.ref d) (.ref c) = some b := PySem.W.exm_ref T.ec.hs T.ec.hd T.ty h
theorem ExcK.kit {K : PySem.W.Frag} {n : Str} {c d : Addr} {b : Bool} (T : ExcK K n c) (h : PySem.W.subIn K (.ref d) (.ref c) = some b) : PySem.W.kitOne K (.ref d) (.ref c) = some b := by
  unfold PySem.W.kitOne
  by_cases e : d = c
  · subst e
    rw [T.self] at h
    cases h
    rw [if_pos (by simp)]
  · rw [if_neg (by simpa using e)]
    show (if ((PySem.W.clsIn K c).isSome && PySem.W.typeIn K (.ref c) == some (.type "type")) = true then PySem.W.subIn K (.ref d) (.ref c) else none) = some b
    rw [if_pos (by rw [T.cls, T.ty]; rfl)]
    exact h
theorem clsV_inj {K : PySem.W.Frag} {n : Str} {c : Addr} {v : Value} (h : clsV K n = some (.ref c)) (h2 : clsV K n = some v) : v = .ref c := by
  rw [h] at h2; cases h2; rfl
/-- what is told of the raised classes, one after the other -/
def SubF (K : PySem.W.Frag) (cs : List Str) (t : Value) (b : Bool) : Prop := ∀ C ∈ cs, ∀ v, clsV K C = some v → ∃ c, v = .ref c ∧ ExcC K c ∧ PySem.W.subIn K (.ref c) t = some b
theorem subF_nil {K : PySem.W.Frag} {t : Value} {b : Bool} : SubF K [] t b := fun _ h => nomatch h
theorem subF_cons {K : PySem.W.Frag} {n : Str} {cs : List Str} {c : Addr} {t : Value} {b : Bool} (T : ExcK K n c) (h : PySem.W.subIn K (.ref c) t = some b) (r : SubF K cs t b) : SubF K (n :: cs) t b := fun C hC v hv => by
  rcases List.mem_cons.mp hC with rfl | hC
  · exact ⟨c, clsV_inj T.nm hv, T.ec, h⟩
  · exact r C hC v hv
theorem hdF_own {K : PySem.W.Frag} {h : HdM} {n : Str} {c : Addr} (T : ExcK K n c) (y : SubF K h.yes (.ref c) true) (z : SubF K h.nos (.ref c) false) : HdF K h (.ref c) where
  yes := fun C hC v hv => by
    obtain ⟨d, rfl, _, e⟩ := y C hC v hv
    exact T.exm e
  nos := fun C hC v hv => by
    obtain ⟨d, rfl, _, e⟩ := z C hC v hv
    exact T.exm e
theorem xfF_nil {K : PySem.W.Frag} {f : Str} : XfF K [] f := fun _ h => nomatch h
theorem xfF_cons {K : PySem.W.Frag} {n f : Str} {cs : List Str} {c : Addr} (T : ExcK K n c) (h : PySem.W.findIn K (.ref c) f = some none) (r : XfF K cs f) : XfF K (n :: cs) f := fun C hC v hv => by
  rcases List.mem_cons.mp hC with rfl | hC
  · exact ⟨c, clsV_inj T.nm hv, T.xf, h⟩
  · exact r C hC v hv
/-! ### isinstance of the exception in hand -/
def rIsG (K : PySem.W.Frag) (a D : Addr) (d : Option Addr) : List V → Hp → VK → Prop := fun xs H Q => ∃ (c : V) (cv : Value) (b : Bool), xs = [.ref a, c] ∧ (∀ u, RelV c u → u = cv) ∧ ExcC K D ∧ PySem.W.kitOne K (.ref D) cv = some b ∧ (∀ dd, d = some dd → H dd ≠ none) ∧ Q (.bl b) H
theorem call_isG {X : Cx} {a D : Addr} {oe : Obj} {d : Option Addr} {pn : List (Addr × Obj)} (hz : Zc (.ref D) d oe) (hf : ∃ vs, oe.data = .fields vs) : CallR (X.suite a ((a, oe) :: pn)) (.builtin "isinstance") (rIsG X.K a D d) := by
  intro pins s σ H xs us Q I r h
  obtain ⟨c, cv, b, rfl, hcv, C, e, hdd, q⟩ := h
  cases r with
  | cons rx rr =>
    cases rr with
    | cons rt rr =>
      cases rr
      cases rx
      have ec := hcv _ rt
      subst ec
      obtain ⟨hget, _⟩ := I.pin (a, oe) (List.mem_append.mpr (.inl List.mem_cons_self))
      obtain ⟨vs, hv⟩ := hf
      have hcl : (PySem.W.clsIn X.K D).isSome = true := by
        obtain ⟨cd, hc, _⟩ := PySem.W.any_some C.hd
        rw [hc]; rfl
      have J : ∃ od, PySem.W.InstAt s.heap a oe D od := by
        cases d with
        | none =>
          refine ⟨none, hget, hz.1, ?_, by rw [hz.2]; trivial⟩
          unfold PySem.W.notCls
          rw [hv] <;> rfl
        | some dd =>
          cases hH : H dd with
          | none => exact absurd hH (hdd dd rfl)
          | some u =>
            obtain ⟨o, ho⟩ := objOk_get (I.hok dd u hH)
            refine ⟨some o, hget, hz.1, ?_, by rw [hz.2]; exact ho⟩
            unfold PySem.W.notCls
            rw [hv] <;> rfl
      obtain ⟨od, J⟩ := J
      exact PySem.W.kia_one (PySem.W.kitx_exc hcl C.hg C.hk C.hs C.ha C.hn C.ht C.hm) I.kIn J e (fun z => nomatch z) fun tk => ⟨.bl b, H, I.kept (t' := tk) fun _ _ z => z, rfl, q⟩
/-- t: the class that is asked for, an own one or a built-in one -/
noncomputable def fIsx (C : Str) (yes nos : List Str) (t : D) (a : Addr) (d : Option Addr) : List D → AH → Res D := fun ds A => match ds with
  | [.exv a' d' _ _, t'] => open Classical in if a' = a ∧ d' = d ∧ t' = t then (if C ∈ yes then .ok (.bl true) A else if C ∈ nos then .ok (.bl false) A else .no) else .no
  | _ => .no
/-- the class's value -/
def ClsD (K : PySem.W.Frag) (t : D) (tv : Value) : Prop := (∃ n, t = .cl n ∧ clsV K n = some tv ∧ ∃ a, tv = .ref a) ∨ ∃ n, t = .ty n ∧ tv = .type n
theorem ClsD.val {K : PySem.W.Frag} {m : Mp} {H : Hp} {t : D} {tv : Value} {c : V} (h : ClsD K t tv) (r : RD K m H t c) (u : Value) (ru : RelV c u) : u = tv := by
  rcases h with ⟨n, rfl, h1, a, rfl⟩ | ⟨n, rfl, rfl⟩
  · cases r with
    | cl h2 => rw [h1] at h2; cases h2; exact ru
  · cases r
    exact ru
theorem fIsx_ok {K : PySem.W.Frag} {C : Str} {yes nos : List Str} {t : D} {tv cls : Value} {a D0 : Addr} {d : Option Addr} (ht : ClsD K t tv) (hC : clsV K C = some cls)
    (y : ∀ C ∈ yes, ∀ v, clsV K C = some v → ∃ c, v = .ref c ∧ ExcC K c ∧ PySem.W.kitOne K (.ref c) tv = some true) (z : ∀ C ∈ nos, ∀ v, clsV K C = some v → ∃ c, v = .ref c ∧ ExcC K c ∧ PySem.W.kitOne K (.ref c) tv = some false) (hD : cls = .ref D0) :
    CallD K (fIsx C yes nos t a d) (rIsG K a D0 d) := by
  intro W σ m A H xs ds Q R hx h
  unfold fIsx at h
  split at h
  rotate_left
  · exact h.elim
  rename_i a' d' ns es t'
  split at h
  rotate_left
  · exact h.elim
  rename_i hc
  obtain ⟨rfl, rfl, rfl⟩ := hc
  subst hD
  cases hx with
  | cons r1 r =>
    cases r with
    | cons r2 r =>
      cases r
      rename_i x c
      have x0 : x = .ref a' := by cases r1 <;> rfl
      subst x0
      have there : ∀ dd, d' = some dd → H dd ≠ none := fun dd e => by
        subst e
        cases r1 with
        | exv1 h1 _ _ _ => rw [h1]; exact fun z => nomatch z
      split at h
      · rename_i hy
        obtain ⟨c2, e, ec, k⟩ := y C hy _ hC
        cases e
        exact ⟨c, tv, true, rfl, fun u ru => ht.val r2 u ru, ec, k, there, Post.here R (.bl _) h⟩
      · split at h
        · rename_i hn
          obtain ⟨c2, e, ec, k⟩ := z C hn _ hC
          cases e
          exact ⟨c, tv, false, rfl, fun u ru => ht.val r2 u ru, ec, k, there, Post.here R (.bl _) h⟩
        · exact h.elim
section
variable {X : Cx} {W : WX} {a : Addr} {oe : Obj} {cls : Value} {d : Option Addr} {pn : List (Addr × Obj)} {e : Expr} {es : List Expr} {ms : MA} {p pos : Pos} {C : Str} {yes nos : List Str} {t : D} {tv : Value}
theorem d_isx (ht : ClsD X.K t tv) (y : SubF X.K yes tv true) (z : SubF X.K nos tv false) (kit : ∀ c b, PySem.W.subIn X.K (.ref c) tv = some b → PySem.W.kitOne X.K (.ref c) tv = some b) (hC : clsV X.K C = some cls) (hz : Zc cls d oe) (hf : ∃ vs, oe.data = .fields vs)
    (hm : X.mg "isinstance" = none) (ha : DA (X.suite a ((a, oe) :: pn)) W (e :: es) ms)
    (hg : Gl X "isinstance" := by rfl) (he : starEach (e :: es) X.env = (false, eval e X.env) :: starEach es X.env := by rfl) (hpl : (backTo pos (starEach es X.env)).any (·.1) = false := by rfl) :
    DE (X.suite a ((a, oe) :: pn)) W (.Call (.Name "isinstance" p) (e :: es) [] pos) (mCall (fIsx C yes nos t a d) ms) := by
  by_cases hin : C ∈ yes ∨ C ∈ nos
  · have hD : ∃ D0, cls = .ref D0 := by
      rcases hin with h | h
      · obtain ⟨c, e1, _⟩ := y C h _ hC; exact ⟨c, e1⟩
      · obtain ⟨c, e1, _⟩ := z C h _ hC; exact ⟨c, e1⟩
    obtain ⟨D0, rfl⟩ := hD
    have F : CallD X.K (fIsx C yes nos t a d) (rIsG X.K a D0 d) := fIsx_ok (cls := .ref D0) ht hC (fun C hC v hv => by
      obtain ⟨c, e1, e2, e3⟩ := y C hC v hv
      exact ⟨c, e1, e2, kit c true e3⟩) (fun C hC v hv => by
      obtain ⟨c, e1, e2, e3⟩ := z C hC v hv
      exact ⟨c, e1, e2, kit c false e3⟩) rfl
    exact d_callB (X := X.suite a ((a, oe) :: pn)) (call_isG hz hf) F hg hm (by decide +kernel) ha (by decide) (by decide) he hpl
  · have F : CallD X.K (fIsx C yes nos t a d) (fun _ _ _ => False) := fun W σ m A H xs ds Q R hx h => by
      unfold fIsx at h
      split at h
      · split at h
        · rw [if_neg fun z => hin (.inl z), if_neg fun z => hin (.inr z)] at h
          exact h
        · exact h
      · exact h
    exact d_callB (id := "isinstance") (X := X.suite a ((a, oe) :: pn)) (fun _ _ _ _ _ _ _ _ _ h => h.elim) F hg hm (by decide +kernel) ha (by decide) (by decide) he hpl
end
section
variable {X : Cx} {W : WX} {pos : Pos}
/-- an own class, by its name -/
theorem d_cl {x : Str} {c : Addr} (hc : clsV X.K x = some (.ref c)) (hm : X.mg x = some (.ref c)) (hg : Gl X x := by rfl) (hd : (x == ("__debug__" : Str)) = false := by decide) : DE X W (.Name x pos) (mK (.cl x)) :=
  PEi (pe_glob (v := .ref c) hg hm rfl hd) fun σ H Q ⟨m, A, ρ, R, E, h⟩ => Post.here R (.cl hc) h
/-- a built-in type, by its name -/
theorem d_ty {x : Str} {n : String} (hm : X.mg x = none) (hv : bootBuiltins x = some (.type n)) (hg : Gl X x := by rfl) (hn : x ≠ "__name__" := by decide) (hd : (x == ("__debug__" : Str)) = false := by decide) : DE X W (.Name x pos) (mK (.ty n)) :=
  PEi (pe_bltn (v := .ty n) hg hm hv rfl hn hd) fun σ H Q ⟨m, A, ρ, R, E, h⟩ => Post.here R (.ty n) h
end
/-! ### isinstance of a value -/
def tyName (A : AH) : D → Option String
  | .non => some "NoneType"
  | .bl _ => some "bool"
  | .int _ => some "int"
  | .str _ => some "str"
  | .tup _ => some "tuple"
  | .lst _ => some "list"
  | .ref n => match A[n]? with
    | some (.lst _) => some "list"
    | some (.dk _) => some "dict"
    | some (.dt _) => some "dict"
    | _ => none
  | _ => none
def tyNames : List String := ["NoneType", "bool", "int", "str", "tuple", "list", "dict"]
def isB (a b : String) : Bool := a == b || (a == "bool" && b == "int")
theorem kitB_ok : ∀ a ∈ tyNames, ∀ b ∈ tyNames, kitB a b = some (isB a b) := by decide +kernel
theorem tyName_in {A : AH} {d : D} {n : String} (h : tyName A d = some n) : n ∈ tyNames := by
  unfold tyName at h
  split at h <;> first | (cases h; decide) | (split at h <;> first | (cases h; decide) | cases h) | cases h
theorem tyName_ok {K : PySem.W.Frag} {m : Mp} {A : AH} {H : Hp} {d : D} {x : V} {n : String} (R : Rel K m A H) (r : RD K m H d x) (h : tyName A d = some n) : TyX K H x (.type n) := by
  unfold tyName at h
  split at h
  · cases h; cases r; exact .base .non
  · cases h; cases r; exact .base (.bl _)
  · cases h; cases r; exact .base (.int _)
  · cases h; cases r; exact .base (.str _)
  · cases h
    cases r with
    | tup s _ =>
      rcases s.sq with (e | ⟨o, e⟩) | ⟨o, its, k, e, c, _⟩
      · exact .base (.tup e)
      · exact .fTuple e
      · exact .kTuple e c
  · cases h
    cases r with
    | lst s _ =>
      rcases s.sq with (e | ⟨o, e⟩) | ⟨o, its, k, e, c, _⟩
      · exact .base (.lst e)
      · exact .base (.frz e)
      · exact .kList e c
  · cases r with
    | ref hm =>
      split at h
      · rename_i hA
        cases h
        obtain ⟨q, h1, vs, h2, _⟩ := R.obj _ _ hA
        rw [hm] at h1; cases h1
        exact .base (.lst h2)
      · rename_i hA
        cases h
        obtain ⟨q, h1, vs, ⟨h2, _⟩, _⟩ := R.obj _ _ hA
        rw [hm] at h1; cases h1
        exact .base (.dK h2)
      · rename_i hA
        cases h
        obtain ⟨q, h1, vs, ⟨h2, _⟩, _⟩ := R.obj _ _ hA
        rw [hm] at h1; cases h1
        exact .base (.dT h2)
      · cases h
  · cases h
def fIsi : List D → AH → Res D := fun ds A => match ds with
  | [x, .ty n] => (match tyName A x with
    | some t => if n ∈ tyNames then .ok (.bl (isB t n)) A else .no
    | none => .no)
  | _ => .no
theorem fIsi_ok {K : PySem.W.Frag} : CallD K fIsi (rIsi K) := by
  intro W σ m A H xs ds Q R hx h
  unfold fIsi at h
  split at h
  rotate_left
  · exact h.elim
  rename_i x n
  split at h
  rotate_left
  · exact h.elim
  rename_i t ht
  split at h
  rotate_left
  · exact h.elim
  rename_i hn
  cases hx with
  | cons r1 r =>
    cases r with
    | cons r2 r =>
      cases r
      cases r2
      exact ⟨_, _, _, _, _, rfl, .ty n, tyName_ok R r1 ht, kit_ty (kitB_ok t (tyName_in ht) n hn), Post.here R (.bl _) h⟩
theorem d_isi {X : Cx} {W : WX} {e : Expr} {es : List Expr} {ms : MA} {p pos : Pos} (hm : X.mg "isinstance" = none) (ha : DA X W (e :: es) ms)
    (hg : Gl X "isinstance" := by rfl) (he : starEach (e :: es) X.env = (false, eval e X.env) :: starEach es X.env := by rfl) (hpl : (backTo pos (starEach es X.env)).any (·.1) = false := by rfl) :
    DE X W (.Call (.Name "isinstance" p) (e :: es) [] pos) (mCall fIsi ms) := d_callB call_isi fIsi_ok hg hm (by decide +kernel) ha (by decide) (by decide) he hpl
end DM
end
section
set_option maxHeartbeats 2000000
namespace DM
open PySem PySem.Spec PyProof.Rows L2
/-! ### the facts of a text's top, gathered -/
abbrev lamQ (x : Str) : Str := x ++ ".<locals>." ++ "<lambda>"
def clsBody : Stmt → List Stmt
  | .ClassDef _ _ _ b _ _ _ _ _ _ _ => b
  | _ => []
abbrev methAt (st : Stmt) (i : Nat) : Stmt := (clsBody st).getD i (.Pass ⟨0, 0, 0, 0⟩)
theorem excK_mk {K : PySem.W.Frag} {n : Str} {c : Addr} (a : PySem.W.nsIn K mainGlobals n = some (some (.ref c))) (hg : PySem.W.findIn K (.ref c) "__getattribute__" = some (some (.builtin "BaseException.__getattribute__")))
    (hk : PySem.W.findIn K (.ref c) "__getattr__" = some none) (hs : PySem.W.subIn K (.ref c) (.type "BaseException") = some true) (hd : PySem.W.hasDictIn K c = true) (ha : PySem.W.findIn K (.ref c) "__class__" = some (some (.builtin "object.__class__")))
    (hn : PySem.W.specialIn K (.builtin "object.__class__") "__get__" = some (some (.builtin "getset_descriptor.__get__"))) (ht : PySem.W.takesIn K (.builtin "object.__class__") = some true) (hm : PySem.W.mroIn K c (.type "object") = some true)
    (ty : PySem.W.typeIn K (.ref c) = some (.type "type")) (kp : PySem.W.keepIn K (.ref c) = true) (self : PySem.W.subIn K (.ref c) (.ref c) = some true) : ExcK K n c :=
  ⟨by unfold clsV; rw [a]; rfl, ⟨hg, hk, hs, hd, ha, hn, ht, hm⟩, ty, kp, self⟩
theorem errC_mk {prog : Program} {K : PySem.W.Frag} {B newId initId : String} {bm : List Value} {C fI : Addr} {f x : Str} {st : Stmt} {nm q : Str} {N : Addr} {bs bm1 : List Value} {sn : List Str} {sub : List Value} {ab : Bool} {col : Option Bool} {dd : Option Addr} {k0 k1 k2 k3 k5 : Option Value}
    {oc dV kV doc pm ct ccl cl : Value} {od an cdd cld : Option Addr} {osl ccs csl : Array (Option Value)} {qual file : Str} {cda cc : Addr} {vs : Array Value} {tf : Tok} {p0 p1 p2 p3 p4 p5 p6 p7 p8 p9 : Pos} (base : ErE.Base B newId initId bm)
    (lk : K.lookup C = some (excClassObj nm q C N bs bm1 true sn sub ab col dd k0 k1 k2 k3 k5 newId)) (ln : ErE.Line bm bm1) (sa : PySem.W.findIn K (.ref C) "__setattr__" = some (some (.builtin "object.__setattr__"))) (ini : PySem.W.findIn K (.ref C) "__init__" = some (some (.ref fI)))
    (tI : PySem.W.typeIn K (.ref fI) = some (.type "function")) (fld : PySem.W.findIn K (.ref C) f = some none) (sup : PySem.W.ks_superIn K C C "__init__" = some (some (.builtin initId))) (subB : PySem.W.subIn K (.ref C) (.type B) = some true) (opq : PySem.W.nsIn K cStatics "thirdparty.any" = some none)
    (lI : K.lookup fI = some ⟨oc, od, .func (PySem.W.ksFn "__init__" qual (defArgs st) (defBody st) (defScope st) dV kV doc pm an (.ref cda) ct cc), osl⟩) (cI : PySem.W.codeIn K (.ref cda) qual = true)
    (lc : K.lookup cda = some ⟨ccl, cdd, .fields vs, ccs⟩) (v2 : vs[2]? = some (.str file tf)) (fe : ((prog.main.file : Str) == file) = true) (lce : K.lookup cc = some ⟨cl, cld, .cell (some (.ref C)), csl⟩)
    (top : (prog.main.scope.names.lookup ("super" : Str)).isSome = false)
    (hb : defBody st = [.Expr (.Call (.Attribute (.Call (.Name "super" p0) [] [] p1) "__init__" p2) [.Name x p3] [] p4) p5, .Assign [.Attribute (.Name "self" p6) f p7] (.Name x p8) p9])
    (sc : (decide ((defScope st).names.lookup ("super" : Str) = some .globalImplicit) && (decide ((defScope st).names.lookup ("__class__" : Str) = some .free) && (decide ((defScope st).names.lookup ("self" : Str) = some .local) && (decide ((defScope st).names.lookup x = some .local) &&
      (decide (x ≠ "self") && (decide ((x == ("__debug__" : Str)) = false) && ((defScope st).names.all (fun y => decide (y.2 ≠ .cell)) && (decide ((defScope st).kind = .function) && (decide ((defScope st).isCoroutine = false) && (decide ((defScope st).isGenerator = false) && (p2.endLine == p4.line))))))))))) = true)
    (hfirst : ((defArgs st).posonlyargs ++ (defArgs st).args).head?.map (·.arg) = some ("self" : Str))
    (bi : ∀ (qual : Str) (dV kV doc pm cdv ct : Value) (an : Option Addr) (cc : Addr) (s : Shared) (a b : Value), dV = .none → BindsTo s (PySem.W.ksFn "__init__" qual (defArgs st) (defBody st) (defScope st) dV kV doc pm an cdv ct cc) ⟨[a, b], []⟩ [("self", a), (x, b)]) (hdV : dV = .none) : ErE.ErrC prog K B newId initId bm C fI f := by
  simp only [Bool.and_eq_true, decide_eq_true_eq, List.all_eq_true] at sc
  obtain ⟨s1, s2, s3, s4, s5, s6, s7, s8, s9, s10, s11⟩ := sc
  have bi' := bi qual dV kV doc pm (.ref cda) ct an cc
  rw [hb] at lI bi'
  refine { base := base, cls := ⟨_, _, _, _, _, _, _, _, _, _, _, _, _, _, _, lk, ln⟩, sa := sa, ini := ini, tI := tI, fld := fld, sup := sup, subB := subB, opq := opq, top := top, fn := ?_ }
  exact ⟨_, _, _, _, _, _, _, _, _, _, _, _, _, _, _, _, _, _, _, _, _, _, _, _, _, lI, cI, ⟨_, _, _, _, _, _, lc, v2, fe⟩, ⟨_, _, _, lce⟩, s1, s2, s3, s4, s5, s6, s7, s8, s9, s10, s11, hfirst, fun s a b => bi' s a b hdV⟩
theorem tabIn_mk {K : PySem.W.Frag} {x : Str} {f c P : Addr} {oc : Value} {od : Option Addr} {fd : FuncData} {osl : Array (Option Value)} {ccl : Value} {cdd : Option Addr} {vs : Array Value} {ccs : Array (Option Value)} (a : PySem.W.nsIn K mainGlobals x = some (some (.ref f)))
    (l : K.lookup f = some ⟨oc, od, .func fd, osl⟩) (hc : fd.code = .ref c) (lc : K.lookup c = some ⟨ccl, cdd, .fields vs, ccs⟩) (v : vs[11]? = some (.ref P)) : PySem.W.tabIn K x = some (c, P) := by
  unfold PySem.W.tabIn
  rw [a]
  simp only [l, hc, lc, v]
end DM
end
section
set_option maxHeartbeats 2000000
namespace DM
open PySem PySem.Spec PyProof.Rows L2
/-! ### running the further mirrors -/
section
variable {ρ ρ1 : DM.Env} {A A1 : AH} {n N : Nat} {C f q : Str} {P : Addr} {d : D} {fs : List (Str × D)} {me mw : ME} {sa sb : MS} {F : ME → MS} {hs : List HdM} {h : HdM} {r : SRes} {x : LTag}
theorem ev_raise : mRaise C f me ρ A = lift (me ρ A) ρ fun d A1 => .exc C [(f, d)] ρ A1 := id rfl
theorem seq_exc (h : sa ρ A = .exc C fs ρ1 A1) : mSeq sa sb ρ A = .exc C fs ρ1 A1 := by unfold mSeq; rw [h]
theorem fun_exc {ds : List D} (h : sa (ds.map some ++ List.replicate (n - ds.length) none) A = .exc C fs ρ1 A1) : mFun n sa ds A = .exc C fs A1 := by unfold mFun; rw [h]
theorem fun_nx {ds : List D} (h : sa (ds.map some ++ List.replicate (n - ds.length) none) A = .nx ρ1 A1) : mFun n sa ds A = .ok .non A1 := by unfold mFun; rw [h]
theorem try_rt (h : sa ρ A = .rt d A1) : mTry sa hs ρ A = .rt d A1 := by unfold mTry; rw [h]
theorem try_nx (h : sa ρ A = .nx ρ1 A1) : mTry sa hs ρ A = .nx ρ1 A1 := by unfold mTry; rw [h]
theorem try_exc (h : sa ρ A = .exc C fs ρ1 A1) : mTry sa hs ρ A = excGo hs C fs ρ1 A1 := by unfold mTry; rw [h]
theorem exc_yes (hy : C ∈ h.yes) (hr : ∀ a d, goneM h.slot (h.suite C a (if fs = [] then none else some d) (enterM h.slot a (if fs = [] then none else some d) fs ρ) A) = r) : excGo (h :: hs) C fs ρ A = r := by
  unfold excGo
  rw [if_pos hy]
  exact indep_eq hr
theorem exc_no (hy : C ∉ h.yes) (hn : C ∈ h.nos) : excGo (h :: hs) C fs ρ A = excGo hs C fs ρ A := by
  conv => lhs; unfold excGo
  rw [if_neg hy, if_pos hn]
theorem work_at {σ : List (Option D)} : mWork x q me 0 (some (.fnv x.1 x.2.1 q x.2.2 ρ) :: σ) A = me ρ A := by
  unfold mWork
  exact if_pos ⟨rfl, rfl, rfl, rfl⟩
theorem lam_at {r : Res D} (hT : A[n]? = some (.tab P q)) (h : ∀ x : LTag, mFun N (F (mWork x q me 0)) [.fnv x.1 x.2.1 q x.2.2 ρ] A = r) : mLam n P q N F me ρ A = r := by
  unfold mLam
  rw [hT]
  exact (if_pos ⟨rfl, rfl⟩).trans (indepR_eq h)
theorem xf_at {xs : List Str} {a dd : Addr} {ns : List Str} {ds : List D} {y : D} (hm : me ρ A = .ok (.exv a (some dd) ns ds) A1) (hC : C ∈ xs) (hl : (ns.zip ds).lookup f = some y) : mXf C xs a (some dd) f me ρ A = .ok y A1 := by
  unfold mXf
  rw [hm, bind_ok]
  exact (if_pos ⟨hC, rfl, rfl⟩).trans (by rw [hl])
theorem isx_yes {yes nos : List Str} {t : D} {a : Addr} {dd : Option Addr} {ns : List Str} {ds : List D} (hC : C ∈ yes) : fIsx C yes nos t a dd [.exv a dd ns ds, t] A = .ok (.bl true) A := by
  unfold fIsx
  exact (if_pos ⟨rfl, rfl, rfl⟩).trans (if_pos hC)
theorem isx_no {yes nos : List Str} {t : D} {a : Addr} {dd : Option Addr} {ns : List Str} {ds : List D} (hC : C ∉ yes) (hn : C ∈ nos) : fIsx C yes nos t a dd [.exv a dd ns ds, t] A = .ok (.bl false) A := by
  unfold fIsx
  exact (if_pos ⟨rfl, rfl, rfl⟩).trans ((if_neg hC).trans (if_pos hn))
end
end DM
end
section
set_option maxHeartbeats 2000000
namespace DM
open PySem PySem.Spec PyProof.Rows L2
/-! ### zip of a list or tuple and another one -/
def IterAt (tp : Bool) (h : Heap) (it a : Addr) (i : Nat) : Prop := if tp = true then h.IsTupleIter it a i else h.IsListIter it a i
theorem IterAt.keep {tp : Bool} {h h' : Heap} {it a : Addr} {i : Nat} (x : IterAt tp h it a i) (k : ∀ o, h.get? it = some o → h'.get? it = some o) : IterAt tp h' it a i := by
  cases tp with
  | false => exact Heap.IsListIter.at x k
  | true => exact Heap.IsTupleIter.at x k
end DM
end
section
set_option maxHeartbeats 2000000
namespace DM
open PySem PySem.Spec PyProof.Rows L2
section
variable {X : Cx} {W : WX} {a b c e e2 tg : Expr} {es elts : List Expr} {ma mb mc me : ME} {mt mu : MT} {ms : MA} {pos p p2 p3 tpos : Pos} {kk : Nat}
/-! ### zip of things that stay -/
/-! ### any, all -/
/-! ### sorted ints; sum -/
/-! ### in, deep things -/
/-! ### list(range(n)) -/
end
end DM
end
section
set_option maxHeartbeats 2000000
namespace DM
open PySem PySem.Spec PyProof.Rows L2
section
variable {X : Cx} {W : WX} {a b c e e2 tg : Expr} {es elts : List Expr} {ma mb mc me : ME} {mt mu : MT} {ms : MA} {pos p p2 p3 tpos : Pos} {kk : Nat}
/-! ### dicts: of pairs, read -/
def keyOf : D → Option Key
  | .int i => some (.inl i)
  | .str x => some (.inr x)
  | _ => none
theorem key_rd {K : PySem.W.Frag} {m : Mp} {H : Hp} {d : D} {k : Key} {v : V} (h : keyOf d = some k) (r : RD K m H d v) : v = kV k := by
  cases d <;> simp [keyOf] at h <;> subst h <;> cases r <;> rfl
/-! ### d[k] -/
def valD (kvs : List (Key × D)) (k : Key) : Option D := (kvs.find? fun kv => decide (kv.1 = k)).map (·.2)
theorem val_rd {K : PySem.W.Frag} {m : Mp} {H : Hp} : ∀ {kvs : List (Key × D)} {ws : List (Key × V)} {k : Key} {d : D}, kvs.map (·.1) = ws.map (·.1) → RDs K m H (kvs.map (·.2)) (ws.map (·.2)) → valD kvs k = some d → ∃ v, valV ws k = some v ∧ RD K m H d v
  | [], ws, k, d, _, _, h => by simp [valD] at h
  | x :: xs, [], k, d, h1, _, h => by simp at h1
  | x :: xs, y :: ys, k, d, h1, r, h => by
    rw [List.map_cons, List.map_cons] at h1 r
    injection h1 with h1 h2
    cases r with
    | cons r rs =>
      by_cases e : x.1 = k
      · have e' : y.1 = k := h1 ▸ e
        rw [valV_pos e']
        simp [valD, List.find?_cons, e] at h
        subst h
        exact ⟨_, rfl, r⟩
      · have e' : ¬ y.1 = k := fun z => e (h1.trans z)
        rw [valV_neg e']
        simp [valD, List.find?_cons, e] at h
        exact val_rd h2 rs (by simp [valD]; exact h)
def fDGet : D → D → AH → Res D := fun d e A => match d with
  | .ref n => match A[n]?, keyOf e with
    | some (.dk kvs), some k => (match valD kvs k with
      | some x => .ok x A
      | none => .no)
    | _, _ => .no
  | _ => .no
theorem d_dget (hu : X.A.units + 64 < cLine) (ha : DE X W a ma) (hb : DE X W b mb) (hs : NoSl b := by exact fun _ _ => rfl) : DE X W (.Subscript a b pos) (mOp fDGet ma mb) :=
  PEi (pe_dget (by omega) ha hb hs) fun σ H Q ⟨m, A, ρ, R, E, h⟩ => tE.bind R E h fun m1 A1 d v H1 e1 R1 E1 r1 h1 => tE.bind R1 E1 h1 fun m2 A2 d2 v2 H2 e2 R2 E2 r2 h2 => by
    replace r1 := RD.mono e2 _ _ r1
    unfold fDGet at h2
    split at h2
    · rename_i n
      split at h2
      · rename_i kvs k hA hk
        split at h2
        · rename_i x hx
          cases r1 with
          | ref hm =>
            obtain ⟨q, g1, ws, ⟨g2, g3⟩, g4⟩ := R2.obj _ _ hA
            rw [hm] at g1; cases g1
            obtain ⟨v, w1, w2⟩ := val_rd g3 g4 hx
            refine ⟨_, v, rfl, ?_, Post.here R2 w2 h2⟩
            rw [key_rd hk r2, ← w1]
            exact DGet.k g2
        · exact h2.elim
      · exact h2.elim
    · exact h2.elim
end
end DM
end
section
set_option maxHeartbeats 2000000
namespace DM
open PySem PySem.Spec PyProof.Rows L2
/-! ### instances of own classes -/
structure ClsI (K : PySem.W.Frag) (C : Str) (c : Addr) : Prop where
  nm : clsV K C = some (.ref c)
  cl : Cls K c
def putFD (f : Str) (v : D) : List (Str × D) → List (Str × D)
  | [] => [(f, v)]
  | (g, x) :: r => if g = f then (g, v) :: r else (g, x) :: putFD f v r
section
variable {X : Cx} {W : WX} {a b c e o tg : Expr} {es : List Expr} {ma mb mc me mo mv : ME} {mt mu : MT} {ms mk : MA} {pos p pos' apos : Pos} {kws : List Keyword} {C f mname : Str} {ca : Addr}
def mFld (C f : Str) (me : ME) : ME := fun ρ A => (me ρ A).bind fun d A1 => match d with
  | .ref n => match A1[n]? with
    | some (.ins C' fs) => if C' = C then (match fs.lookup f with
      | some x => .ok x A1
      | none => .no) else .no
    | _ => .no
  | _ => .no
def mSetF (C f : Str) (mv mo : ME) : MS := fun ρ A => lift (mv ρ A) ρ fun y A1 => lift (mo ρ A1) ρ fun d A2 => match d with
  | .ref n => match A2[n]? with
    | some (.ins C' fs) => if C' = C ∧ fs.length < 1000 then .nx ρ (A2.set n (.ins C' (putFD f y fs))) else .no
    | _ => .no
  | _ => .no
/-! ### methods -/
def mMeth (C mname : Str) (n : Nat) (mf : List D → AH → Res D) (mo : ME) (ms : MA) : ME := fun ρ A => (mo ρ A).bind fun d A1 => match d with
  | .ref k => match A1[k]? with
    | some (.ins C' fs) => if C' = C ∧ fs.lookup mname = none then (ms ρ A1).bind fun ds A2 => if (D.ref k :: ds).length = n then mf (.ref k :: ds) A2 else .no else .no
    | _ => .no
  | _ => .no
variable {k : Nat} {g : Addr} {fd : FuncData} {ps ks : List Str} {mf : List D → AH → Res D} {pl : Sem Bool}
/-! ### C(..) -/
/-! ### is, of bools -/
end
end DM
end
section
set_option maxHeartbeats 2000000
namespace DM
open PySem PySem.Spec PyProof.Rows L2
/-! ### isinstance of several built-in types -/
section
variable {X : Cx} {W : WX} {a b c e e2 tg : Expr} {es elts : List Expr} {ma mb mc me : ME} {mt mu : MT} {ms : MA} {pos p p2 p3 tpos : Pos} {kk : Nat}
/-! ### sum, min of two -/
def fMin2 : List D → AH → Res D := fun ds A => match ds with
  | [.int i, .int j] => .ok (.int (if j < i then j else i)) A
  | _ => .no
theorem fMin2_ok {K : PySem.W.Frag} : CallD K fMin2 (fun xs H Q => ∃ i j, xs = [.int i, .int j] ∧ Q (.int (if j < i then j else i)) H) := by
  intro W σ m A H xs ds Q R hx h
  unfold fMin2 at h
  split at h
  · cases hx with
    | cons r1 r =>
      obtain ⟨v, rfl, r2⟩ := r.one
      cases r1
      cases r2
      exact ⟨_, _, rfl, Post.here R (.int _) h⟩
  · exact h.elim
theorem d_min2 (hm : X.mg "min" = none) (ha : DA X W [e, e2] ms) (hc : X.calm = true := by rfl) (hg : Gl X "min" := by rfl) (he : starEach [e, e2] X.env = (false, eval e X.env) :: starEach [e2] X.env := by rfl) (hpl : (backTo pos (starEach [e2] X.env)).any (·.1) = false := by rfl) :
    DE X W (.Call (.Name "min" p) [e, e2] [] pos) (mCall fMin2 ms) := d_callB (call_min2 hc) fMin2_ok hg hm (by decide +kernel) ha (by decide) (by decide) he hpl
/-! ### lists that will change: a copy, a slice -/
/-! ### zip of things that may change -/
end
end DM
end
section
set_option maxHeartbeats 2000000
namespace DM
open PySem PySem.Spec PyProof.Rows L2
section
variable {X : Cx} {W : WX} {a b c e e2 tg : Expr} {es elts : List Expr} {ma mb mc me mv mo : ME} {mt mu : MT} {ms : MA} {pos pos' p p2 p3 tpos apos cpos : Pos} {kk : Nat}
/-! ### dicts that change -/
def putKD (kvs : List (Key × D)) (k : Key) (v : D) : List (Key × D) :=
  if (kvs.any fun kv => decide (kv.1 = k)) = true then kvs.map (fun kv => if kv.1 = k then (kv.1, v) else kv) else kvs ++ [(k, v)]
theorem any_keys {α β : Type} (k : Key) : ∀ {kvs : List (Key × α)} {ws : List (Key × β)}, kvs.map (·.1) = ws.map (·.1) → (kvs.any fun kv => decide (kv.1 = k)) = ws.any fun kv => decide (kv.1 = k)
  | [], [], _ => rfl
  | [], _ :: _, h => by simp at h
  | _ :: _, [], h => by simp at h
  | x :: xs, y :: ys, h => by
    simp only [List.map_cons, List.cons.injEq] at h
    rw [List.any_cons, List.any_cons, h.1, any_keys k h.2]
theorem valD_any (k : Key) : ∀ kvs : List (Key × D), (valD kvs k).isSome = kvs.any fun kv => decide (kv.1 = k) := fun kvs => by
  unfold valD
  rw [Option.isSome_map]
  induction kvs with
  | nil => rfl
  | cons x xs ih =>
    rw [List.find?_cons, List.any_cons]
    cases decide (x.1 = k) with
    | true => rfl
    | false => exact ih
theorem repl_rd {K : PySem.W.Frag} {m : Mp} {H : Hp} {k : Key} {d : D} {v : V} (r : RD K m H d v) : ∀ {kvs : List (Key × D)} {ws : List (Key × V)}, kvs.map (·.1) = ws.map (·.1) → RDs K m H (kvs.map (·.2)) (ws.map (·.2)) →
    (kvs.map fun kv => if kv.1 = k then (kv.1, d) else kv).map (·.1) = (ws.map fun kv => if kv.1 = k then (kv.1, v) else kv).map (·.1) ∧
    RDs K m H ((kvs.map fun kv => if kv.1 = k then (kv.1, d) else kv).map (·.2)) ((ws.map fun kv => if kv.1 = k then (kv.1, v) else kv).map (·.2))
  | [], [], _, _ => ⟨rfl, .nil⟩
  | [], _ :: _, h, _ => by simp at h
  | _ :: _, [], h, _ => by simp at h
  | x :: xs, y :: ys, h, hr => by
    simp only [List.map_cons, List.cons.injEq] at h hr
    cases hr with
    | cons r1 rs =>
      obtain ⟨g1, g2⟩ := repl_rd (k := k) r h.2 rs
      simp only [List.map_cons]
      by_cases e : x.1 = k
      · have e' : y.1 = k := h.1 ▸ e
        rw [if_pos e, if_pos e']
        exact ⟨by rw [g1, h.1], .cons r g2⟩
      · have e' : ¬ y.1 = k := fun z => e (h.1.trans z)
        rw [if_neg e, if_neg e']
        exact ⟨by rw [g1, h.1], .cons r1 g2⟩
theorem put_rdK {K : PySem.W.Frag} {m : Mp} {H : Hp} {k : Key} {d : D} {v : V} (r : RD K m H d v) {kvs : List (Key × D)} {ws : List (Key × V)} (h : kvs.map (·.1) = ws.map (·.1)) (hr : RDs K m H (kvs.map (·.2)) (ws.map (·.2))) :
    (putKD kvs k d).map (·.1) = (putK ws k v).map (·.1) ∧ RDs K m H ((putKD kvs k d).map (·.2)) ((putK ws k v).map (·.2)) := by
  unfold putKD putK
  rw [any_keys k h]
  split
  · exact repl_rd r h hr
  · rw [List.map_append, List.map_append, List.map_append, List.map_append, h]
    exact ⟨rfl, hr.append (.cons r .nil)⟩
theorem valD_some {kvs : List (Key × D)} {ws : List (Key × V)} {k : Key} (h : kvs.map (·.1) = ws.map (·.1)) : (valD kvs k).isSome = (valV ws k).isSome := by
  rw [← valV_any, ← any_keys k h, valD_any]
/-- {} -/
def mDict0 : ME := fun ρ A => .ok (.ref A.length) (A ++ [.dk []])
/-- d[k] = v -/
def mDPut (mv mo mi : ME) : MS := fun ρ A => lift (mv ρ A) ρ fun v A1 => lift (mo ρ A1) ρ fun d A2 => lift (mi ρ A2) ρ fun e A3 => match d with
  | .ref n => match A3[n]?, keyOf e with
    | some (.dk kvs), some k => if kvs.length < 16777216 then .nx ρ (A3.set n (.dk (putKD kvs k v))) else .no
    | _, _ => .no
  | _ => .no
end
end DM
end
section
set_option maxHeartbeats 2000000
namespace DM
open PySem PySem.Spec PyProof.Rows L2
section
variable {X : Cx} {W : WX} {a b c e e2 o tg : Expr} {es elts : List Expr} {ma mb mc me mv mo : ME} {mt mu : MT} {ms : MA} {pos pos' p p2 p3 tpos apos cpos : Pos} {kk : Nat} {C f : Str} {ca : Addr}
/-! ### xs.insert(i, y), xs.remove(k) of whole numbers -/
/-! ### o.f += i -/
def mAddF (C f : Str) (mo mv : ME) : MS := fun ρ A => lift (mo ρ A) ρ fun d A1 => match d with
  | .ref n => match A1[n]? with
    | some (.ins C' fs) => if C' = C then (match fs.lookup f with
      | some (.int i) => lift (mv ρ A1) ρ fun y A2 => (match y, A2[n]? with
        | .int j, some (.ins C2 fs2) => if C2 = C ∧ fs2.length < 1000 then .nx ρ (A2.set n (.ins C (putFD f (.int (i + j)) fs2))) else .no
        | _, _ => .no)
      | _ => .no) else .no
    | _ => .no
  | _ => .no
end
end DM
end
section
set_option maxHeartbeats 2000000
/-! own errors over KeyError: its __new__ is LookupError's -/
namespace PySem
namespace ErE
open Builtin Builtin.ObjectAttr
/-- what a line over KeyError holds and what not -/
structure OverKey (l : List Value) : Prop where
  over : l.contains (.type "LookupError") = true
  noAttr : l.contains (.type "AttributeError") = false
  noName : l.contains (.type "NameError") = false
section
variable {M : Model} {prog : Program} {w : World} {A : Around} {E : Value → Shared → Prop} {hp : Heap} {gs : Array GenState} {dr : Drawn} {tn : Nat} {os : OsState}
variable {cn cq : Str} {C N : Addr} {bs l : List Value} {hasD : Bool} {sn : List Str} {sb : List Value} {ab : Bool} {cl : Option Bool} {dd : Option Addr} {k0 k1 k2 k3 k5 : Option Value}
/-- __new__ may be asked of such a class -/
theorem key_may (ok : OverKey l) (hC : hp.get? C = some (excClassObj cn cq C N bs l hasD sn sb ab cl dd k0 k1 k2 k3 k5 "LookupError.__new__")) {xs : List Value} {Q : Unit → Shared → Prop} (fin : Q () ⟨hp, gs, dr, tn, os⟩) :
    wpAny M A (checkBuiltinCall "LookupError.__new__" ⟨.ref C :: xs, []⟩) Q E ⟨hp, gs, dr, tn, os⟩ := by
  have B := F.excBase_LookupError
  have st := B.noStar
  have up : ∀ {Q : Bool → Shared → Prop}, Q true ⟨hp, gs, dr, tn, os⟩ → wpAny M A (isSubtype (.ref C) (.type "LookupError")) Q E ⟨hp, gs, dr, tn, os⟩ := fun q =>
    wpAny_isSubtype_exc hC (by rw [List.contains_cons, ok.over, Bool.or_true]; exact q)
  unfold checkBuiltinCall
  rw [B.newKind, B.newSplit, B.newRow]
  dsimp only
  repeat (first
    | refine up ?_
    | refine wpAny_staticBase_exc hC ?_
    | refine wpAny_madeBy_exc hC ?_
    | refine wpAny_loadPart_at hC ?_
    | wp_step
    | simp only [bne_self_eq_false, Bool.false_eq_true, if_false])
  exact fin
/-- __new__: the tuple of what was handed in, then the error -/
theorem key_made (ok : OverKey l) (hC : hp.get? C = some (excClassObj cn cq C N bs l hasD sn sb ab cl dd k0 k1 k2 k3 k5 "LookupError.__new__")) {xs : List Value} {R : Result → Shared → Prop} (short : xs.length ≤ sizeLine)
    (fin : R (.ok (.ret (.ref (hp.objs.size + 1)))) ⟨(hp.push (W.kdv_tup xs)).push (HandSPX.excO C hp.objs.size), gs, dr, tn, os⟩) :
    codeAny (model prog w) A (.builtin "LookupError.__new__" ⟨.ref C :: xs, []⟩) R ⟨hp, gs, dr, tn, os⟩ := by
  have B := F.excBase_LookupError
  have ends := B.ends
  have ask : ∀ {M : Model} {A : Around} {E : Value → Shared → Prop} {T : String} {b : Bool}, (Value.ref C :: l).contains (.type T) = b → ∀ {Q : Bool → Shared → Prop}, Q b ⟨hp, gs, dr, tn, os⟩ → wpAny M A (isSubtype (.ref C) (.type T)) Q E ⟨hp, gs, dr, tn, os⟩ :=
    by intro _ _ _ _ _ e _ q; exact wpAny_isSubtype_exc hC (by rw [e]; exact q)
  have e1 : (Value.ref C :: l).contains (.type "LookupError") = true := by rw [List.contains_cons, ok.over, Bool.or_true]
  have e2 : (Value.ref C :: l).contains (.type "AttributeError") = false := by rw [List.contains_cons, ok.noAttr]; rfl
  have e3 : (Value.ref C :: l).contains (.type "NameError") = false := by rw [List.contains_cons, ok.noName]; rfl
  refine codeAny_builtinAt B.entry ?_
  unfold Builtin.«BaseException.__new__»
  refine wpAt_bind ?_
  show wpAt _ _ _ (stack >>= _) _ _ _
  refine wpAt_bind (wpAt_stack fun _ _ => wpAt_of_wpAny ?_)
  wp_walk
  refine wpAt_of_wpAny ?_
  rw [B.owner]
  repeat (first
    | with_reducible refine ask e1 ?_
    | with_reducible refine ask e2 ?_
    | with_reducible refine ask e3 ?_
    | with_reducible refine wpAny_madeHere_exc B.canon hC ?_
    | with_reducible refine wpAny_loadPart_at hC ?_
    | wp_step)
  show R _ _
  rw [Heap.size_push]
  exact fin
/-- C(xs): made, then its own __init__ -/
theorem key_call (ok : OverKey l) (hC : hp.get? C = some (excClassObj cn cq C N bs l hasD sn sb ab cl dd k0 k1 k2 k3 k5 "LookupError.__new__")) {xs : List Value} {fI : Addr} {R : Result → Shared → Prop}
    (hi : W.Looks (model prog w) hp (typeLookup (.ref C) "__init__") (some (.ref fI))) (hb : ∀ self, W.Looks (model prog w) hp (bindSpecial (.ref fI) self) (.ref fI, [self])) (short : xs.length ≤ sizeLine)
    (fin : codeAny (model prog w) (A.under (.builtin "type.__call__" ⟨.ref C :: xs, []⟩)) (.call (.ref fI) ⟨.ref (hp.objs.size + 1) :: xs, []⟩) (W.InitBack (hp.objs.size + 1) R)
      ⟨(hp.push (W.kdv_tup xs)).push (HandSPX.excO C hp.objs.size), gs, dr, tn, os⟩) : codeAny (model prog w) A (.call (.ref C) ⟨xs, []⟩) R ⟨hp, gs, dr, tn, os⟩ := by
  have B := F.excBase_LookupError
  have t1 := tc_lookup
  have t2 := tc_bind (.ref C)
  have isT : (⟨hp, gs, dr, tn, os⟩ : Shared).TypeIs (.ref C) "type" := ⟨_, hC, rfl⟩
  refine codeAny_of_tree ?_
  show wpAny _ _ (callAny (.ref C) _) _ _ _
  repeat (any_goals (first | assumption | with_reducible refine wpAny_loadPart_at hC ?_ | wp_step))
  refine ⟨rfl, codeAny_call_builtin_at (Code.quiet_builtin _ (by decide +kernel)) entry_typeCall (wpAny_check_type_call_sub hC ?_)⟩
  repeat (first | with_reducible refine wpAny_madeBy_exc hC ?_ | with_reducible refine wpAny_loadPart_at hC ?_ | wp_step)
  refine codeAny_call_builtin_code (Code.quiet_builtin _ B.quiet) (key_may ok hC (key_made ok hC short ?_))
  show wpAny _ _ _ _ _ _
  have stays : ∀ b o, hp.get? b = some o → ((hp.push (W.kdv_tup xs)).push (HandSPX.excO C hp.objs.size)).get? b = some o := fun b o e => Heap.get?_push_of_some _ (Heap.get?_push_of_some _ e)
  have here : ((hp.push (W.kdv_tup xs)).push (HandSPX.excO C hp.objs.size)).get? (hp.objs.size + 1) = some (HandSPX.excO C hp.objs.size) := by heap_get
  have isC : ∀ {M : Model} {A : Around} {E : Value → Shared → Prop} {Q : Bool → Shared → Prop}, Q true ⟨(hp.push (W.kdv_tup xs)).push (HandSPX.excO C hp.objs.size), gs, dr, tn, os⟩ →
      wpAny M A (isSubtype (.ref C) (.ref C)) Q E ⟨(hp.push (W.kdv_tup xs)).push (HandSPX.excO C hp.objs.size), gs, dr, tn, os⟩ := fun q => wpAny_isSubtype_exc (stays _ _ hC) (by rw [show (Value.ref C :: l).contains (.ref C) = true by simp]; exact q)
  unfold isInstance
  repeat (first | refine isC ?_ | with_reducible refine wpAny_loadPart_at here ?_ | wp_step)
  show wpAny _ _ (typeLookup (.ref C) _) _ _ _
  refine (hi.keeps stays).at (wpAny_holding (wpAny_bind (((hb _).keeps stays).at ?_)))
  refine wpAny_bind (wpAny_call (codeAny_mono fin fun r s' z => ?_))
  cases r with
  | error x => exact z
  | ok fl =>
    cases fl with
    | ret v =>
      obtain ⟨rfl, z⟩ := z
      first
        | exact wpAny_pure (wpAny_pure z)
        | (wp_walk; exact z)
    | next => exact z.elim
    | brk => exact z.elim
    | cont => exact z.elim
end
section
variable {M : Model} {A : Around} {E : Value → Shared → Prop} {hp : Heap} {gs : Array GenState} {dr : Drawn} {tn : Nat} {os : OsState}
theorem key_bound {newId : String} {cn cq : Str} {C N e : Addr} {bs l : List Value} {hasD : Bool} {sn : List Str} {sb : List Value} {ab : Bool} {cl : Option Bool} {dd : Option Addr} {k0 k1 k2 k3 k5 : Option Value} {oe : Obj} {xs : List Value} {Q : Unit → Shared → Prop}
    (hC : hp.get? C = some (excClassObj cn cq C N bs l hasD sn sb ab cl dd k0 k1 k2 k3 k5 newId)) (he : hp.get? e = some oe) (hc : oe.cls = .ref C) (fin : Q () ⟨hp, gs, dr, tn, os⟩) : wpAny M A (checkBoundCall "KeyError.__init__" ⟨.ref e :: xs, []⟩) Q E ⟨hp, gs, dr, tn, os⟩ := by
  have hk : builtinKind "KeyError.__init__" = some .slot := by kernel_rfl
  have hr : Manifest.signature? "KeyError.__init__" = some ⟨.positional, "*", "KeyError", .self, [⟨"args", .varPos, false⟩]⟩ := by kernel_rfl
  have hs : ("KeyError" != "*") = true := by decide +kernel
  unfold checkBoundCall
  rw [hk, hr]
  dsimp only
  repeat (first | (with_reducible refine wpAny_loadPart_at he ?_; rw [hc]) | with_reducible refine wpAny_loadPart_at hC ?_ | wp_step)
  refine wpAny_onRaise ?_
  have star : ∀ (f a : String) (n : Nat), Bind.check ⟨.positional, "*", "KeyError", .self, [⟨"args", .varPos, false⟩]⟩ f a n [] = pure () := fun f a n => check_star_args _ _ _ _ _ _
  exact wpAny_of_eq (star _ _ _) fin
end
theorem base_KeyError : Base "KeyError" "LookupError.__new__" "KeyError.__init__" [.type "KeyError", .type "LookupError", .type "Exception", .type "BaseException", .type "object"] where
  call := fun hT hC hi hb hr hq => key_call ⟨by rw [hT]; decide +kernel, by rw [hT]; decide +kernel, by rw [hT]; decide +kernel⟩ hC hi hb hr hq
  bound := fun hC he hc hq => key_bound hC he hc hq
  plain := by decide +kernel
  entry := PyProof.Rows.excClass_KeyError.initEntry
  KF := ⟨by show builtinType _ = _; rw [builtinType_eq_fast]; kernel_rfl, by first | kernel_rfl | rfl⟩
  pass := fun self => by
    first
      | rfl
      | kernel_rfl
      | (simp [refuseLoop]; kernel_rfl)
  obj := by decide +kernel
  ne := rfl
end ErE
end PySem
end
section
set_option maxHeartbeats 2000000
namespace DM
open PySem PySem.Spec PyProof.Rows L2
/-! ### defs that are called where an exception is handled, and let none out -/
abbrev XNo : XK := fun _ _ _ => False
structure FnH (P : Program) (w : World) (K : PySem.W.Frag) (mg : Str → Option Value) (base : Heap) (k : Nat) (f : Addr) (fd : FuncData) (ps : List Str) (mf : List D → AH → Res D) : Prop where
  run : ∀ (A : Around) (outer : List PySem.Env) (s : Shared) (H : Hp) (args : Args) (us : List Value) (vs : List V) (Q : VK) (p : Addr × Obj), L2H.RoomH k A → A.handled = some (.ref p.1) → A.guards = some [] → L2H.PinOk outer H s p → Env0 P w K mg base A outer s H → BindsTo s fd args (ps.zip us) → Vals vs us →
    spD K ps.length mf vs H Q XNo → codeAny (model P w) A (.call (.ref f) args) (CR (L2.CX P w) outer P w H s Q XNo) s
section
variable {P : Program} {w : World} {K : PySem.W.Frag} {mg : Str → Option Value} {base : Heap}
theorem FnH.of {x qual : Str} {st : Stmt} {f : Addr} {fd : FuncData} {N ps : List Str} {k : Nat} {ms : MS} (F : Fun K x qual st f fd) (S : FnScope N ps (defScope st))
    (hb : ∀ (cdv : Value), fd.code = cdv → ∀ (A : Around) (outer : List PySem.Env) (s : Shared) (H : Hp) (p : Addr × Obj), A.handled = some (.ref p.1) → L2H.RoomH k (A.deeper (envOfC qual (defScope st) s.heap.objs.size f cdv)) → (A.deeper (envOfC qual (defScope st) s.heap.objs.size f cdv)).guards = some [] →
      DSs (L2H.cxH (L2.CX P w) P w K mg base N qual (defScope st) f cdv A outer s H XNo p) WNo (defBody st) ms) {n : Nat} (hn : N.length = n := by rfl) : FnH P w K mg base (k + 1) f fd ps (mFun n ms) := by
  subst hn
  obtain ⟨oc, od, kV, doc, pm, an, cdv, ct, osl, rfl, lk, hcd⟩ := F.ex
  refine ⟨fun A outer s H args us vs Q p room hot gd pin en bi rel hsp => ?_⟩
  obtain ⟨hlen, m, AA, ds, R, rds, post⟩ := hsp
  have kin : K.In s.heap := en.mod.kin.keeps fun b o h => (en.bs b o h).1
  have nolim : s.heap.NoLimit := en.mod.nolimit.keeps fun b o h => (en.bs b o h).1
  have kinds : ∀ y ∈ ps.zip us, (defScope st).names.lookup y.1 = some .local ∨ ((defScope st).names.lookup y.1 = some .cell ∧ ((cellsFrom (s.heap.objs.size + 1) (defScope st).names []).lookup y.1).isSome = true) := by
    rintro ⟨n, v⟩ hy
    rcases S.par n (List.of_mem_zip hy).1 with z | z
    · exact .inl z
    · exact .inr ⟨z, PySem.W.cellsFrom_some _ _ _ (.inl z)⟩
  refine codeAny_call_function room.depth (kin _ _ lk) rfl S.co S.gen rfl (PySem.W.codeRec_of kin hcd) (bi _ _ _ _ (wpAny_newFunctionEnv_cells S.kind kinds fun env henv s1 hx => ?_))
  subst henv
  refine ⟨nolim.keeps hx.toInCall.keep, codeAny_func ?_⟩
  have body := hb cdv rfl A outer s H p hot (room.deeper _) gd
  have I := L2H.inv_startH (CX := L2.CX P w) (E := XNo) S pin en hlen rel hx
  have want : tS K WNo ms { nx := fun _ H' => Q .non H', rt := Q } (L2.start N vs) H := by
    refine ⟨m, AA, _, R, start_rel (N := N) rds, ?_⟩
    unfold mFun at post
    cases hr : ms (ds.map some ++ List.replicate (N.length - ds.length) none) AA with
    | nx ρ1 A1 => rw [hr] at post; exact fun m' H' σ' e1 R1 _ => post m' H' .non e1 R1 .non
    | rt d A1 => rw [hr] at post; exact fun m' H' v e1 R1 r1 => post m' H' v e1 R1 r1
    | exc C fs ρ1 A1 => rw [hr] at post; exact fun m' H' c dx σ' e1 R1 _ hc hx => post m' H' c dx e1 R1 hc hx
    | bk ρ1 A1 => rw [hr] at post; exact post.elim
    | ct ρ1 A1 => rw [hr] at post; exact post.elim
    | no => rw [hr] at post; exact post.elim
  have back : ∀ {σ' : L2.St} {H' : Hp} {v : V} {u : Value} {s' : Shared}, Inv (L2H.cxH (L2.CX P w) P w K mg base N qual (defScope st) f cdv A outer s H XNo p) [] σ' H' s' → RelV v u → Q v H' → CE outer P w H s Q u s' :=
    fun J ru q => ⟨_, _, J.os, J.bare, J.base, J.hok, ru, q⟩
  refine wpAny_mono (body.run [] s1 (L2.start N vs) H _ I want) (fun fl s' z => ?_) fun _ _ z => z
  cases fl with
  | next =>
    obtain ⟨_, _, J, q⟩ := z
    exact back (v := V.non) (u := Value.none) J rfl q
  | ret u =>
    obtain ⟨_, _, _, J, ru, q⟩ := z
    exact back J ru q
  | brk =>
    obtain ⟨_, _, _, q⟩ := z
    exact q.elim
  | cont =>
    obtain ⟨_, _, _, q⟩ := z
    exact q.elim
end
section
variable {X : Cx} {k : Nat} {f : Addr} {fd : FuncData} {ps ks : List Str} {mf : List D → AH → Res D} {x : Str} {p pos kpos : Pos} {e : Expr} {es : List Expr} {ms mk : MA} {me : ME}
end
/-! ### built-in classes: isinstance, except -/
section
variable {K : PySem.W.Frag} {T : String} {c : Addr} {b : Bool}
theorem kitC_ty (hm : PySem.W.kitMeta T = true) (h : PySem.W.subIn K (.ref c) (.type T) = some b) : PySem.W.kitOne K (.ref c) (.type T) = some b := by
  unfold PySem.W.kitOne
  rw [if_neg (by intro z; cases z)]
  show (if PySem.W.kitMeta T = true then PySem.W.subIn K (.ref c) (.type T) else none) = some b
  rw [if_pos hm]
  exact h
end
end DM
end
section
set_option maxHeartbeats 4000000
namespace DM
open PySem PySem.Spec PyProof.Rows L2
/-! ### set(xs) of a list of whole numbers, and sorted(set(xs)) -/
section
variable {P : Program} {w : World} {A : Around} {E : Value → Shared → Prop} {s : Shared}
end
/-! ### sorted(set(xs)) -/
section
variable {X : Cx} {W : WX} {e : Expr} {me : ME} {p p2 pos pos2 : Pos}
def rSetL (K : PySem.W.Frag) (w : World) : List V → Hp → VK → Prop := fun xs H Q => ∃ (l : Addr) (ns : List Int), xs = [.ref l] ∧ SqL K H l (ns.map V.int) ∧ ns.length < 64 ∧
  ∀ (a : Addr) (c : Nat), H a = none → c ≤ ns.length → Q (.ref a) (upd H a (SetO w a (fun j => decide (j ∈ ns)) c))
end
end DM
namespace DM
open PySem PySem.Spec PyProof.Rows L2
theorem units64 {k : Nat} {A : Around} (r : Room k A) : A.units + 64 < cLine := by have := r.un; omega
section
variable {X : Cx} {j k : Nat} {a f : Addr} {oe : Obj} {pn : List (Addr × Obj)} {fd : FuncData} {ps : List Str} {mf : List D → AH → Res D} {x : Str} {p pos : Pos} {e : Expr} {es : List Expr} {ms : MA}
end
end DM
end
section
set_option maxHeartbeats 2000000
namespace DM
open PySem PySem.Spec PyProof.Rows L2
/-! ### order of texts -/
abbrev sLt (a b : Str) : Prop := a.cps.toList < b.cps.toList
def sLe (a b : Str) : Bool := !decide (sLt b a)
theorem str_ext {a b : Str} (h : a.cps.toList = b.cps.toList) : a = b := by
  cases a
  cases b
  simp only at h
  congr 1
  exact Array.toList_inj.mp h
theorem sLe_total (a b : Str) : (sLe a b || sLe b a) = true := by
  unfold sLe sLt
  by_cases h : b.cps.toList < a.cps.toList
  · have : ¬ a.cps.toList < b.cps.toList := List.lt_asymm h
    simp [this]
  · simp [h]
theorem sLe_iff {a b : Str} : sLe a b = true ↔ a.cps.toList ≤ b.cps.toList := by
  unfold sLe sLt
  simp
theorem sLe_trans (a b c : Str) (h1 : sLe a b = true) (h2 : sLe b c = true) : sLe a c = true := sLe_iff.mpr (List.le_trans (sLe_iff.mp h1) (sLe_iff.mp h2))
theorem sLe_anti {a b : Str} (h1 : sLe a b = true) (h2 : sLe b a = true) : a = b := str_ext (List.le_antisymm (sLe_iff.mp h1) (sLe_iff.mp h2))
def srtS (xs : List Str) : List Str := xs.mergeSort sLe
theorem srtS_perm (xs : List Str) : (srtS xs).Perm xs := List.mergeSort_perm ..
theorem srtS_sorted (xs : List Str) : (srtS xs).Pairwise fun a b => sLe a b = true := List.pairwise_mergeSort sLe_trans sLe_total xs
theorem srtS_uniq {a b : List Str} (h1 : a.Perm b) (h2 : a.Pairwise fun x y => sLe x y = true) : a = srtS b :=
  List.Perm.eq_of_pairwise (fun x y _ _ h h' => sLe_anti h h') h2 (srtS_sorted b) (h1.trans (srtS_perm b).symm)
/-! ### lists of texts -/
section
variable {X : Cx} {W : WX} {a b c e e2 o tg iter kx vx : Expr} {es ifs : List Expr} {ma mb mc me mo mk mv : ME} {mt tt : MT} {ms : MA} {mi : MI} {pos pos' p p2 apos cpos : Pos} {t : Tg} {f C : Str} {ca : Addr}
/-! ### a <= b of whole numbers and of texts -/
def fLeX : D → D → AH → Res D := fun d e A => match d, e with
  | .int i, .int j => .ok (.bl (decide (i ≤ j))) A
  | .str i, .str j => .ok (.bl (sLe i j)) A
  | _, _ => .no
theorem fLeX_ok {K : PySem.W.Frag} : OpD K fLeX (fun x y H Q => rI0 (fun i j => .bl (decide (i ≤ j))) x y H Q ∨ ∃ i j, x = .str i ∧ y = .str j ∧ Q (.bl (!decide (j.cps.toList < i.cps.toList))) H) := by
  intro W σ m A H x y d e Q R hx hy h
  unfold fLeX at h
  split at h
  · cases hx; cases hy
    exact .inl ⟨_, _, rfl, rfl, Post.here R (.bl _) h⟩
  · cases hx; cases hy
    exact .inr ⟨_, _, rfl, rfl, Post.here R (.bl _) h⟩
  · exact h.elim
theorem op_leX : OpR X (compareOp .LtE) (fun x y H Q => rI0 (fun i j => .bl (decide (i ≤ j))) x y H Q ∨ ∃ i j, x = .str i ∧ y = .str j ∧ Q (.bl (!decide (j.cps.toList < i.cps.toList))) H) := op_le.or op_le_str
/-! ### x += y of whole numbers, texts, tuples -/
theorem iop_catA : OpR X (inplaceOp .Add) (rCatP X.K) := by
  intro pins s σ H x y v u Q I rx ry h
  obtain ⟨a, b, xs, ys, rfl, rfl, ha, hb, hz, q0, q1, q2⟩ := h
  cases rx
  cases ry
  obtain ⟨its, r1, p1, _⟩ := I.tuple ha
  obtain ⟨its2, r2, p2, _⟩ := I.tuple hb
  have e := id p1
  have e2 := id p2
  obtain ⟨⟨c1, d1, dt1, s1⟩, g1, g2, n1, g3⟩ := e
  obtain ⟨⟨c2, d2, dt2, s2⟩, k1, k2, n2, k3⟩ := e2
  simp only at g2 g3 k2 k3
  subst g2 g3 k2 k3
  have none1 : typeLookup (.type "tuple") (dunderI "add") = pure none := by rw [typeLookup_type, builtinLookup_eq_fast]; kernel_rfl
  have lz : its.toArray.size + its2.toArray.size ≤ sizeLine := by rw [List.size_toArray, List.size_toArray, ← r1.length, ← r2.length]; exact hz
  refine wpAny_inplaceOp_concat (id := "tuple.__add__") ⟨_, g1, rfl⟩ ⟨_, k1, rfl⟩ none1 noFill_tuple_add seq_tuple_add ?_
  by_cases hx : xs = []
  · subst hx
    cases r1
    exact call_meets PySem.F.slot_tuple_add ⟨_, g1, rfl⟩ PySem.F.entry_tuple_add (PySem.F.args_tuple_add_2 _ _) (tuple_addW0 a b ([] : List Value).toArray its2.toArray n1 n2 d1 d2 s1 s2 (by simp)) ⟨g1, k1, .ref b, H, I, rfl, q0 rfl⟩
  · have hi : its ≠ [] := fun z => hx (r1.nil_iff.mp z)
    by_cases hy : ys = []
    · have hj : its2 = [] := r2.nil_iff.mpr hy
      exact call_meets PySem.F.slot_tuple_add ⟨_, g1, rfl⟩ PySem.F.entry_tuple_add (PySem.F.args_tuple_add_2 _ _) (tuple_addW1 a b its.toArray its2.toArray n1 n2 d1 d2 s1 s2 (by simpa using hi) (by simp [hj])) ⟨g1, k1, .ref a, H, I, rfl, q1 hx hy⟩
    · have hj : its2 ≠ [] := fun z => hy (r2.nil_iff.mp z)
      refine call_meets PySem.F.slot_tuple_add ⟨_, g1, rfl⟩ PySem.F.entry_tuple_add (PySem.F.args_tuple_add_2 _ _) (tuple_addW2 a b its.toArray its2.toArray n1 n2 d1 d2 s1 s2 (by simpa using hi) (by simpa using hj) lz) ⟨g1, k1, ?_⟩
      have e : its.toArray ++ its2.toArray = (its ++ its2).toArray := by simp
      rw [e]
      refine ⟨.ref s.heap.objs.size, _, I.laid (t' := s.toks) (o := plH (its ++ its2) (xs ++ ys)) (fun b ob q => Heap.get?_push_of_some _ q) (Nat.le_refl _) ?_, rfl, q2 hx hy _ _ (I.hok.fresh (Nat.le_refl _))⟩
      exact plain_ok (Heap.get?_push_size _ rfl) (r1.append r2) (by rw [List.length_append]; exact hz)
def fAug : D → D → AH → Res D := fun d e A => match d, e with
  | .int i, .int j => .ok (.int (i + j)) A
  | .str x, .str y => if x.length + y.length ≤ 16777216 then .ok (.str (x ++ y)) A else .no
  | .tup xs, .tup ys => if xs.length + ys.length ≤ 16777216 then .ok (.tup (xs ++ ys)) A else .no
  | _, _ => .no
theorem fAug_ok {K : PySem.W.Frag} : OpD K fAug (fun x y H Q => (rI0 (fun i j => .int (i + j)) x y H Q ∨ (∃ i j, x = .str i ∧ y = .str j ∧ i.length + j.length ≤ sizeLine ∧ Q (.str (i ++ j)) H)) ∨ rCatP K x y H Q) := by
  intro W σ m A H x y d e Q R hx hy h
  have sz : (sizeLine : Nat) = 16777216 := sizeLine_eq
  unfold fAug at h
  split at h
  · cases hx; cases hy
    exact .inl (.inl ⟨_, _, rfl, rfl, Post.here R (.int _) h⟩)
  · cases hx; cases hy
    split at h
    · rename_i hz
      exact .inl (.inr ⟨_, _, rfl, rfl, by rw [sz]; exact hz, Post.here R (.str _) h⟩)
    · exact h.elim
  · rename_i xs ys
    cases hx with
    | tup sx rx =>
      cases hy with
      | tup sy ry =>
        rename_i a vs b ws
        split at h
        · rename_i hz
          refine .inr ⟨a, b, vs, ws, rfl, rfl, sx.sq, sy.sq, by rw [sz, ← rx.length, ← ry.length]; exact hz, fun e0 => ?_, fun _ e0 => ?_, fun _ _ => tup_new R (rx.append ry) h⟩
          · subst e0
            cases rx
            exact Post.here R (.tup sy ry) h
          · subst e0
            cases ry
            rw [List.append_nil] at h
            exact Post.here R (.tup sx rx) h
        · exact h.elim
  · exact h.elim
theorem ia_aug {i : Nat} {x : Str} (hN : X.N.Nodup) (he : DE X W e me) (hi : X.N[i]? = some x := by rfl) (hx : Loc X.env.scope x := by first | exact Or.inl rfl | exact Or.inr rfl) (hx2 : X.fn x = true ∨ X.env.scope.names.lookup x = some .local := by first | exact .inl rfl | exact .inr rfl | assumption) :
    DS X W (.AugAssign (.Name x pos') .Add e pos) (mAug i fAug me) := s_aug ((iop_add.or iop_add_str).or iop_catA) fAug_ok hN hi hx he hx2
theorem ia_shr {i : Nat} {x : Str} (hN : X.N.Nodup) (he : DE X W e me) (hi : X.N[i]? = some x := by rfl) (hx : Loc X.env.scope x := by first | exact Or.inl rfl | exact Or.inr rfl) (hx2 : X.fn x = true ∨ X.env.scope.names.lookup x = some .local := by first | exact .inl rfl | exact .inr rfl | assumption) :
    DS X W (.AugAssign (.Name x pos') .RShift e pos) (mAug i fShr me) := s_aug iop_shr (fI_ok (fun _ _ h => h) fun _ _ _ _ => .int _) hN hi hx he hx2
/-! ### a.join(list), ord, what is walked -/
def fOrd : List D → AH → Res D := fun ds A => match ds with
  | [.str x] => if x.length = 1 then .ok (.int (x.cps.getD 0 0 : Nat)) A else .no
  | _ => .no
theorem fOrd_ok {K : PySem.W.Frag} : CallD K fOrd (fun xs H Q => ∃ x, xs = [.str x] ∧ x.length = 1 ∧ Q (.int (x.cps.getD 0 0 : Nat)) H) := by
  intro W σ m A H xs ds Q R hx h
  unfold fOrd at h
  split at h
  · obtain ⟨v, rfl, r⟩ := hx.one
    split at h
    · rename_i x hl
      cases r
      exact ⟨x, rfl, hl, Post.here R (.int _) h⟩
    · exact h.elim
  · exact h.elim
theorem d_ord (hm : X.mg "ord" = none) (ha : DA X W [e] ms) (hg : Gl X "ord" := by rfl) (he : starEach [e] X.env = (false, eval e X.env) :: starEach [] X.env := by rfl) (hpl : (backTo pos (starEach [] X.env)).any (·.1) = false := by rfl) :
    DE X W (.Call (.Name "ord" p) [e] [] pos) (mCall fOrd ms) := d_callB call_ord fOrd_ok hg hm (by decide +kernel) ha (by decide) (by decide) he hpl
def charsD (x : Str) : List D := x.cps.toList.map fun c => D.str ⟨#[c]⟩
theorem iter_str {K : PySem.W.Frag} {m : Mp} {H : Hp} {x : Str} : Iter K (Its x) m H (.sq (.lst (charsD x))) := by
  refine ⟨fun m' A' H' all i d e R hs hi => ?_, fun m' A' H' all i e R hs hl => ?_⟩
  · cases hs
    unfold charsD at hi
    rw [List.getElem?_map] at hi
    obtain ⟨c, hc, rfl⟩ := Option.map_eq_some_iff.mp hi
    rw [Array.getElem?_toList] at hc
    refine ⟨(Array.getElem?_eq_some_iff.mp hc).1, fun y H'' hy => ?_⟩
    obtain ⟨rfl, c2, h2, rfl⟩ := hy
    rw [hc] at h2
    cases h2
    exact ⟨R, Ext.refl _ _, .str _⟩
  · cases hs
    unfold charsD at hl
    rw [List.length_map, Array.length_toList] at hl
    exact hl
def mStrI (me : ME) : MI := fun ρ A => (me ρ A).bind fun d A1 => match d with
  | .str x => .ok (.sq (.lst (charsD x))) A1
  | _ => .no
theorem i_str (he : DE X W e me) : DI X W tg e (mStrI me) :=
  PIi (pi_str he) fun σ H Q ⟨m, A, ρ, R, E, h⟩ => tE.bind R E h fun m1 A1 d v H1 e1 R1 E1 r1 h1 => by
    split at h1
    · rename_i x
      cases r1
      exact ⟨x, rfl, Post.here R1 iter_str h1⟩
    · exact h1.elim
/-! ### sorted of texts, of a dict -/
def strKeys : List (Key × D) → Option (List Str)
  | [] => some []
  | (.inr k, _) :: r => (strKeys r).map (k :: ·)
  | _ => none
def fSortD : List D → AH → Res D := fun ds A => match ds with
  | [.ref n] => match A[n]? with
    | some (.dk kvs) => match strKeys kvs with
      | some ks => if ks.length < 64 then .ok (.lst ((srtS ks).map D.str)) A else .no
      | none => .no
    | _ => .no
  | _ => .no
/-! ### xs.extend(ys) -/
/-! ### {k: v} -/
/-! ### {k: v for ..} -/
open Classical in
noncomputable def dcGo (iv : ItV) (all : List D) (t : Tg) (tt : MT) (mk mv : ME) (ρ : DM.Env) (n : Nat) : List D → AH → Res Unit
  | [], A => if itemsOf A iv = some all then .ok () A else .no
  | x :: xs, A => if itemsOf A iv = some all then (match bindT t x ρ with
    | some ρ1 => (match tt ρ1 A with
      | .ok true A1 => (match mk ρ1 A1 with
        | .ok y A2 => (match mv ρ1 A2 with
          | .ok z A3 => (match A3[n]?, keyOf y with
            | some (.dk kvs), some key => if kvs.length < 16777216 then dcGo iv all t tt mk mv ρ n xs (A3.set n (.dk (putKD kvs key z))) else .no
            | _, _ => .no)
          | _ => .no)
        | _ => .no)
      | .ok false A1 => dcGo iv all t tt mk mv ρ n xs A1
      | _ => .no)
    | none => .no) else .no
noncomputable def mDc (mi : MI) (t : Tg) (tt : MT) (mk mv : ME) (vs : List Nat) : ME := fun ρ A => (mi ρ A).bind fun iv A1 => match itemsOf (A1 ++ [.dk []]) iv with
  | some all => (dcGo iv all t tt mk mv (wipeD ρ vs) A1.length all (A1 ++ [.dk []])).bind fun _ A2 => .ok (.ref A1.length) A2
  | none => .no
theorem dcD {K : PySem.W.Frag} {vs : List Nat} (hsl : ∀ i ∈ slots t, i ∈ vs) {σ : L2.St} {H : Hp} {Q : VK} (h : tE K W (mDc mi t tt mk mv vs) σ H Q) : tDc (tI K W mi) (gOf K t) (tTs K tt) (tE K WNo mk) (tE K WNo mv) vs σ H Q := by
  obtain ⟨m, A, ρ, R, E, h⟩ := h
  refine ⟨m, A, ρ, R, E, Post.imp (Post.bind (R := fun m' H' iv J => Iter K J m' H' iv) h) fun J H1 ⟨m1, A1, iv, e1, R1, itr, h1⟩ q hq => ?_⟩
  have E1 := E.mono e1
  split at h1
  rotate_left
  · exact h1.elim
  rename_i all hall
  let ⟨R2, e2⟩ := R1.push (H' := upd H1 q (.dK [])) (o := .dk []) hq (fun q' u z => by rw [upd_ne (ne_of_none z hq)]; exact z) fun e => ⟨[], ⟨upd_same, rfl⟩, .nil⟩
  have hq1 : (m1.1 ++ [q])[A1.length]? = some q := by rw [← R1.len]; simp
  refine ⟨fun i n H' => n = all.length - i ∧ i ≤ all.length ∧ ∃ (m' : Mp) (A' : AH), Ext m1 H1 m' H' ∧ m'.1[A1.length]? = some q ∧ Rel K m' A' H' ∧
      Post K (RD K) W σ m1 H1 ((dcGo iv all t tt mk mv (wipeD ρ vs) A1.length (all.drop i) A').bind fun _ A2 => .ok (.ref A1.length) A2) Q, ⟨all.length, by simp, Nat.zero_le _, _, _, e2, hq1, R2, by simpa using h1⟩, ?_⟩
  rintro i n H' ⟨rfl, hi, m', A', e', hm', R', h'⟩
  by_cases hlt : i < all.length
  · rw [List.drop_eq_getElem_cons hlt] at h'
    unfold dcGo at h'
    split at h'
    rotate_left
    · exact h'.elim
    rename_i hit
    have go := itr.go m' A' H' all i _ e' R' hit (List.getElem?_eq_getElem hlt)
    refine .inr ⟨go.1, fun H2 => ∃ (m' : Mp) (A' : AH), Ext m1 H1 m' H2 ∧ m'.1[A1.length]? = some q ∧ Rel K m' A' H2 ∧
      Post K (RD K) W σ m1 H1 ((dcGo iv all t tt mk mv (wipeD ρ vs) A1.length (all.drop (i + 1)) A').bind fun _ A2 => .ok (.ref A1.length) A2) Q,
      fun H2 h2 => ⟨all.length - (i + 1), by omega, rfl, hlt, h2⟩, fun x H2 hy => ?_⟩
    obtain ⟨R3, e3, rx⟩ := go.2 x H2 hy
    split at h'
    rotate_left
    · exact h'.elim
    rename_i ρ1 hb1
    refine gOf_ok (sl := slots t) t (fun _ h => h) m' H2 _ _ _ x _ ρ1 ((E1.wipe vs).mono (e'.trans e3)) rx hb1 fun σ3 E3 o3 => ⟨wipe_same o3 hsl, m', A', ρ1, R3, E3, ?_⟩
    split at h'
    · rename_i A2 htt
      rw [htt]
      intro m3 H3 k e4 R4 hk
      subst hk
      rw [if_pos rfl]
      refine ⟨m3, A2, ρ1, R4, E3.mono e4, ?_⟩
      split at h'
      rotate_left
      · exact h'.elim
      rename_i y A3 hmk
      rw [hmk]
      intro m4 H4 v e5 R5 r5
      refine ⟨m4, A3, ρ1, R5, (E3.mono e4).mono e5, ?_⟩
      split at h'
      rotate_left
      · exact h'.elim
      rename_i z A4 hmv
      rw [hmv]
      intro m5 H5 w e6 R6 r6
      split at h'
      rotate_left
      · exact h'.elim
      rename_i kvs key hA hkey
      split at h'
      rotate_left
      · exact h'.elim
      rename_i hlen
      have hm5 := e6.get (e5.get (e4.get (e3.get hm')))
      obtain ⟨q', g1, ws, ⟨g2, g3⟩, g4⟩ := R6.obj _ _ hA
      rw [hm5] at g1; cases g1
      have hl : ws.length < sizeLine := by
        have := congrArg List.length g3
        rw [List.length_map, List.length_map] at this
        rw [← this, sizeLine_eq]; exact hlen
      let ⟨R7, e7⟩ := R6.write (H' := upd H5 q (.dK (putK ws key w))) (o := .dk (putKD kvs key z)) hm5 (fun p u hp z => by rw [upd_ne hp]; exact z) fun ex => by
        obtain ⟨w1, w2⟩ := put_rdK (k := key) (RD.mono ex _ _ r6) g3 (RDs.mono ex _ _ g4)
        exact ⟨_, ⟨upd_same, w1⟩, w2⟩
      exact ⟨ws, key, by rw [key_rd hkey r5], g2, hl, m5, _, (((e'.trans e3).trans (e4.trans e5)).trans e6).trans e7, e7.get hm5, R7, h'⟩
    · rename_i A2 htt
      rw [htt]
      intro m3 H3 k e4 R4 hk
      subst hk
      rw [if_neg (by decide)]
      exact ⟨m3, A2, (e'.trans e3).trans e4, e4.get (e3.get hm'), R4, h'⟩
    · exact h'.elim
  · have hnil : all.drop i = [] := List.drop_eq_nil_of_le (by omega)
    rw [hnil] at h'
    unfold dcGo at h'
    split at h'
    rotate_left
    · exact h'.elim
    rename_i hit
    refine .inl ⟨itr.stop m' A' H' all i e' R' hit (by omega), ?_⟩
    rw [bind_ok] at h'
    exact h' m' H' _ e' R' (.ref hm')
theorem d_dc {scope : Scope} (own : List (Str × Nat)) (hc : X.calm = true) (hN : X.N.Nodup) (hi : DI X W tg iter mi) (ok : BlkOk X.N X.env.scope scope own)
    (hg : ∀ (s : Shared) (H : Hp) (C : Addr) (cl : List (Str × Addr)) (fp : List Addr), DG (X.blk s H scope (compEnvC scope cl C X.env) fp) tg t)
    (ht : ∀ (s : Shared) (H : Hp) (C : Addr) (cl : List (Str × Addr)) (fp : List Addr), PTs (X.blk s H scope (compEnvC scope cl C X.env) fp) ifs (tTs X.K tt))
    (hk : ∀ (s : Shared) (H : Hp) (C : Addr) (cl : List (Str × Addr)) (fp : List Addr), DE (X.blk s H scope (compEnvC scope cl C X.env) fp) WNo kx mk)
    (he : ∀ (s : Shared) (H : Hp) (C : Addr) (cl : List (Str × Addr)) (fp : List Addr), DE (X.blk s H scope (compEnvC scope cl C X.env) fp) WNo vx mv)
    {sl : List Nat} (hsl : ∀ i ∈ slots t, i ∈ sl) (ho : own.map (·.2) = sl := by rfl) (hs : ∀ x, foldedSetIterable iter X.env x = pure x := by intro _; rfl) : DE X W (.DictComp kx vx [⟨tg, iter, ifs, 0⟩] scope pos) (mDc mi t tt mk mv sl) := by
  subst ho
  exact PEi (pe_dc hc hN hi ok hg ht hk he hs) fun _ _ _ h => dcD hsl h
end
end DM
end
section
set_option maxHeartbeats 2000000
namespace DM
open PySem PySem.Spec PyProof.Rows L2
/-! ### dict(t), t a tuple of pairs that is known as a plain object -/
section
variable {X : Cx} {W : WX} {e o a b kx vx : Expr} {es : List Expr} {ms : MA} {me mo ma mb mv : ME} {pos p pos' apos cpos : Pos}
theorem pairs_val {s : Heap} : ∀ {ps : List Addr} {prs : List (Key × Value)}, prs.length = ps.length → (∀ (j : Nat) (q : Key × Value), prs[j]? = some q → ∃ (b : Addr) (u : Value), ps[j]? = some b ∧ IsTup s b #[u, q.2] ∧ keyIs q.1 u = true) →
    ∃ ws : List (Value × Value), ws.length = prs.length ∧ ∀ (j : Nat) (k v : Value), ws[j]? = some (k, v) → ∃ (q : Key × Value) (b : Addr), prs[j]? = some q ∧ v = q.2 ∧ ps[j]? = some b ∧ IsTup s b #[k, v] ∧ keyIs q.1 k = true
  | [], [], _, _ => ⟨[], rfl, fun j k v h => by simp at h⟩
  | [], _ :: _, h, _ => by simp at h
  | _ :: _, [], h, _ => by simp at h
  | p :: ps, q :: prs, hl, h => by
    obtain ⟨ws, l, g⟩ := pairs_val (ps := ps) (prs := prs) (by simpa using hl) fun j q e => by
      obtain ⟨b, u, e1, e2⟩ := h (j + 1) q (by simpa using e)
      exact ⟨b, u, by simpa using e1, e2⟩
    obtain ⟨b, u, e1, e2, e3⟩ := h 0 q rfl
    refine ⟨(u, q.2) :: ws, by simp [l], fun j k v e => ?_⟩
    cases j with
    | zero =>
      simp only [List.getElem?_cons_zero, Option.some.injEq, Prod.mk.injEq] at e
      obtain ⟨rfl, rfl⟩ := e
      exact ⟨q, b, rfl, rfl, e1, e2, e3⟩
    | succ j =>
      obtain ⟨q', b', f1, f2, f3, f4⟩ := g j k v (by simpa using e)
      exact ⟨q', b', by simpa using f1, f2, by simpa using f3, f4⟩
/-! ### len of a dict -/
/-! ### texts of the written part -/
theorem d_gstr {x : Str} {v : Str} (h : ∃ t, X.mg x = some (.str v t)) (hg : Gl X x := by rfl) (hd : (x == ("__debug__" : Str)) = false := by decide) : DE X W (.Name x pos) (mK (.str v)) := by
  obtain ⟨t, h⟩ := h
  exact PEi (pe_glob (v := .str v) hg h ⟨t, rfl⟩ hd) fun σ H Q ⟨m, A, ρ, R, E, h⟩ => Post.here R (.str v) h
/-! ### o.f, o.g = t -/
inductive AtF (X : Cx) (W : WX) (C : Str) (ca : Addr) (mo : ME) : List Expr → List Str → Prop
  | nil : AtF X W C ca mo [] []
  | cons {o : Expr} {f : Str} {pos : Pos} {es : List Expr} {fs : List Str} (ho : DE X W o mo) (nf : NoAttr X.K ca f) (r : AtF X W C ca mo es fs)
      (hs : (assignEach (.Attribute o f pos :: es) X.env).map (·.2) = assign (.Attribute o f pos) X.env :: (assignEach es X.env).map (·.2) := by rfl) : AtF X W C ca mo (.Attribute o f pos :: es) (f :: fs)
end
end DM
end
section
set_option maxHeartbeats 2000000
namespace DM
open PySem PySem.Spec PyProof.Rows L2
/-! ### C(k = v, ..) -/
section
variable {X : Cx} {W : WX} {pos p : Pos} {kws : List Keyword} {mk : MA} {C : Str} {ca g : Addr} {fd : FuncData} {ps ks : List Str} {pm : List Nat} {mf : List D → AH → Res D} {k : Nat}
end
end DM
namespace DM
open PySem PySem.Spec PyProof.Rows L2
/-! ### k in d, k perhaps None -/
section
variable {X : Cx} {W : WX} {a b : Expr} {ma mb : ME} {pos : Pos}
def fDInN (neg : Bool) : D → D → AH → Res D := fun e d A => match d with
  | .ref n => match A[n]? with
    | some (.dk kvs) => match e with
      | .non => .ok (.bl neg) A
      | e => match keyOf e with
        | some k => .ok (.bl ((valD kvs k).isSome != neg)) A
        | none => .no
    | _ => .no
  | _ => .no
theorem fDInN_rd {K : PySem.W.Frag} {m : Mp} {A : AH} {H : Hp} {neg : Bool} {e d : D} {y x : V} {σ : L2.St} {Q : VK} (R : Rel K m A H) (re : RD K m H e y) (rd : RD K m H d x) (h : Post K (RD K) W σ m H (fDInN neg e d A) Q) :
    (∃ q o, x = .ref q ∧ DGet H q y o ∧ Q (.bl (o.isSome != neg)) H) ∨ ∃ q kvs, x = .ref q ∧ y = .non ∧ Rd H q (.dK kvs) ∧ Q (.bl neg) H := by
  unfold fDInN at h
  split at h
  · rename_i n
    split at h
    · rename_i kvs hA
      cases rd with
      | ref hm =>
        obtain ⟨q, g1, ws, ⟨g2, g3⟩, g4⟩ := R.obj _ _ hA
        rw [hm] at g1; cases g1
        split at h
        · cases re
          exact .inr ⟨_, ws, rfl, rfl, .inl g2, Post.here R (.bl _) h⟩
        · split at h
          · rename_i k hk
            refine .inl ⟨_, valV ws k, rfl, by rw [key_rd hk re]; exact DGet.k g2, ?_⟩
            rw [← valD_some g3]
            exact Post.here R (.bl _) h
          · exact h.elim
    · exact h.elim
  · exact h.elim
theorem dinN_run (neg : Bool) {σ : L2.St} {H : Hp} {Q : VK} (h : tE X.K W (mOp (fDInN neg) ma mb) σ H Q) : tE X.K W ma σ H fun y H1 => tE X.K W mb σ H1 fun x H2 => (∃ q o, x = .ref q ∧ DGet H2 q y o ∧ Q (.bl (o.isSome != neg)) H2) ∨ ∃ q kvs, x = .ref q ∧ y = .non ∧ Rd H2 q (.dK kvs) ∧ Q (.bl neg) H2 := by
  obtain ⟨m, A, ρ, R, E, h⟩ := h
  exact tE.bind R E h fun m1 A1 d v H1 e1 R1 E1 r1 h1 => tE.bind R1 E1 h1 fun m2 A2 d2 v2 H2 e2 R2 E2 r2 h2 => fDInN_rd R2 (RD.mono e2 _ _ r1) r2 h2
theorem tDInN_of {σ : L2.St} {H : Hp} {Q : VK} (h : tE X.K W (mOp (fDInN false) ma mb) σ H Q) : tDInN (tE X.K W ma) (tE X.K W mb) σ H Q := by
  have z := dinN_run false h
  simp only [Bool.bne_false] at z
  exact z
theorem tDNotInN_of {σ : L2.St} {H : Hp} {Q : VK} (h : tE X.K W (mOp (fDInN true) ma mb) σ H Q) : tDNotInN (tE X.K W ma) (tE X.K W mb) σ H Q := by
  have z := dinN_run true h
  simp only [Bool.bne_true] at z
  exact z
theorem t_dinN (hu : X.A.units + 64 < cLine) (ha : DE X W a ma) (hb : DE X W b mb) (hm : behindInMarks .In b = false := by rfl) : DT X W (.Compare a [.In] [b] pos) (mTst (mOp (fDInN false) ma mb)) :=
  PTi (pt_cmp (pc_dinN (by omega) ha hb) hm) fun _ _ _ h => tTstD (fun _ q => tDInN_of q) h
theorem t_dninN (hu : X.A.units + 64 < cLine) (ha : DE X W a ma) (hb : DE X W b mb) (hm : behindInMarks .NotIn b = false := by rfl) : DT X W (.Compare a [.NotIn] [b] pos) (mTst (mOp (fDInN true) ma mb)) :=
  PTi (pt_cmp (pc_dnotinN (by omega) ha hb) hm) fun _ _ _ h => tTstD (fun _ q => tDNotInN_of q) h
theorem t_leX (ha : DE X W a ma) (hb : DE X W b mb) (hm : behindInMarks .LtE b = false := by first | exact nomark _ | rfl) : DT X W (.Compare a [.LtE] [b] pos) (mTst (mOp fLeX ma mb)) := t_cmp op_leX fLeX_ok ha hb hm
end
end DM
end
section
set_option maxHeartbeats 2000000
namespace DM
open PySem PySem.Spec PyProof.Rows L2
section
variable {X : Cx} {W : WX} {a b : Expr} {ma mb : ME} {pos : Pos}
/-- + where the left list changes later -/
def fAddR : D → D → AH → Res D := fun d e A => match d, e with
  | .ref n, .lst ys => match A[n]? with
    | some (.lst xs) => if xs.length + ys.length ≤ 16777216 then .ok (.lst (xs ++ ys)) A else .no
    | _ => .no
  | _, _ => .no
theorem fAddR_ok {K : PySem.W.Frag} : OpD K fAddR (fun x y H Q => rI0 (fun i j => .int (i + j)) x y H Q ∨ (∃ i j, x = .str i ∧ y = .str j ∧ i.length + j.length ≤ sizeLine ∧ Q (.str (i ++ j)) H) ∨ rCatP K x y H Q ∨ rCatL K x y H Q) := by
  intro W σ m A H x y d e Q R hx hy h
  have sz : (sizeLine : Nat) = 16777216 := sizeLine_eq
  unfold fAddR at h
  split at h
  · rename_i n ys
    split at h
    · rename_i xs hA
      split at h
      · rename_i hz
        cases hx with
        | ref hm =>
          cases hy with
          | lst sy ry =>
            obtain ⟨q, h1, vs, h2, r⟩ := R.obj _ _ hA
            rw [hm] at h1; cases h1
            exact .inr (.inr (.inr ⟨_, _, vs, _, rfl, rfl, .inl (.inl h2), sy.sq, by rw [sz, ← r.length, ← ry.length]; exact hz, lst_new R (r.append ry) h⟩))
      · exact h.elim
    · exact h.elim
  · exact h.elim
theorem d_addR (ha : DE X W a ma) (hb : DE X W b mb) : DE X W (.BinOp a .Add b pos) (mOp fAddR ma mb) := d_op (op_add.or (op_add_str.or (op_catP.or op_catL))) fAddR_ok ha hb
end
end DM
end
section
set_option maxHeartbeats 1000000
namespace DM
open PySem PySem.Spec PyProof.Rows L2
/-! ### numbers as data -/
theorem toPys_ints : ∀ L : List Int, toPys (L.map D.int) = some (L.map PyData.int)
  | [] => rfl
  | x :: L => by
    simp only [List.map_cons, toPys, toPy, toPys_ints L]
theorem toPysG_ints (g : Nat → Option PyData) : ∀ L : List Int, toPysG g (L.map D.int) = some (L.map PyData.int)
  | [] => rfl
  | x :: L => by
    simp only [List.map_cons, toPysG, toPyG, toPysG_ints g L]
theorem canLays_ints : ∀ L : List Int, PyData.canLayAll0 (L.map PyData.int) = true
  | [] => rfl
  | x :: L => by simp only [List.map_cons, PyData.canLayAll0, PyData.canLay0, canLays_ints L, Bool.and_self]
theorem depths_ints : ∀ L : List Int, PyData.depthAll (L.map PyData.int) ≤ 1
  | [] => by decide
  | x :: L => by
    have h := depths_ints L
    simp only [List.map_cons, PyData.depthAll, PyData.depth] at h ⊢
    omega
theorem shaped_lints (L : List Int) : SeqAt.shaped (.list (L.map PyData.int)) = true := by
  have h := depths_ints L
  have h1 : PyData.canLay0 (.list (L.map PyData.int)) = true := by simp only [PyData.canLay0, canLays_ints]
  have h2 : PyData.depth (.list (L.map PyData.int)) ≤ 64 := by
    simp only [PyData.depth]
    omega
  unfold SeqAt.shaped
  rw [h1, decide_eq_true h2]
  rfl
theorem shaped_tints (L : List Int) : SeqAt.shaped (.tuple (L.map PyData.int)) = true := by
  have h := depths_ints L
  have h1 : PyData.canLay0 (.tuple (L.map PyData.int)) = true := by simp only [PyData.canLay0, canLays_ints]
  have h2 : PyData.depth (.tuple (L.map PyData.int)) ≤ 64 := by
    simp only [PyData.depth]
    omega
  unfold SeqAt.shaped
  rw [h1, decide_eq_true h2]
  rfl
theorem eqvAll_nil (xs : List PyData) : PyData.eqvAll xs [] = xs.isEmpty := by
  cases xs <;> rfl
/-- the drawing object: at h the pair of the list at q and the number -/
def HS (h q : Nat) (A : AH) : Prop := h ≠ q ∧ ∃ (L : List Int) (s : Int), A[h]? = some (.lst [.ref q, .int s]) ∧ A[q]? = some (.lst (L.map D.int)) ∧ L.length ≤ 63 ∧ 0 ≤ s ∧ s < 2147483647
def Drawn (h q : Nat) (A A' : AH) : Prop := A'.length = A.length ∧ HS h q A' ∧ ∀ n, n ≠ h → n ≠ q → A'[n]? = A[n]?
theorem Drawn.trans {h q : Nat} {A B C : AH} (a : Drawn h q A B) (b : Drawn h q B C) : Drawn h q A C := ⟨b.1.trans a.1, b.2.1, fun n h1 h2 => (b.2.2 n h1 h2).trans (a.2.2 n h1 h2)⟩
/-- one object changed -/
def Put (q : Nat) (o : AO) (A A' : AH) : Prop := A'.length = A.length ∧ A'[q]? = some o ∧ ∀ n, n ≠ q → A'[n]? = A[n]?
theorem Put.set {q : Nat} {o u : AO} {A : AH} (h : A[q]? = some u) : Put q o A (A.set q o) := by
  refine ⟨List.length_set .., List.getElem?_set_self (List.getElem?_eq_some_iff.mp h).1, fun n hn => List.getElem?_set_ne (Ne.symm hn)⟩
theorem Put.trans {q : Nat} {o u : AO} {A B C : AH} (a : Put q o A B) (b : Put q u B C) : Put q u A C := ⟨b.1.trans a.1, b.2.1, fun n h => (b.2.2 n h).trans (a.2.2 n h)⟩
theorem at_ref0 {q : Nat} {s : Int} : atI [D.ref q, D.int s] 0 = some (D.ref q) := rfl
theorem at_ref1 {q : Nat} {s : Int} : atI [D.ref q, D.int s] 1 = some (D.int s) := rfl
theorem seqOf_ref {A : AH} {n : Nat} {xs : List D} (h : A[n]? = some (.lst xs)) : seqOf A (.ref n) = some xs := by
  simp only [seqOf, h]
theorem ix_ref {A : AH} {n : Nat} {xs : List D} {i : Int} {v : D} (h : A[n]? = some (.lst xs)) (hv : atI xs i = some v) : fIx (.ref n) (.int i) A = .ok v A := by
  unfold fIx
  simp only [seqOf_ref h, hv]
theorem ix_lst {A : AH} {xs : List D} {i : Int} {v : D} (hv : atI xs i = some v) : fIx (.lst xs) (.int i) A = .ok v A := by
  unfold fIx
  simp only [seqOf, hv]
theorem ix_tup {A : AH} {xs : List D} {i : Int} {v : D} (hv : atI xs i = some v) : fIx (.tup xs) (.int i) A = .ok v A := by
  unfold fIx
  simp only [seqOf, hv]
theorem eq_ints {A : AH} {i j : Int} {neg : Bool} : fEq neg (.int i) (.int j) A = .ok (.bl (if neg then !decide (i = j) else decide (i = j))) A := rfl
theorem eq_refnil {A : AH} {n : Nat} {L : List Int} (h : A[n]? = some (.lst (L.map D.int))) {neg : Bool} : fEq neg (.ref n) (.lst []) A = .ok (.bl (if neg then !L.isEmpty else L.isEmpty)) A := by
  have hz : SeqAt.shaped (.list []) = true := by decide +kernel
  have e : cEq A (.ref n) (.lst []) = some L.isEmpty := by
    unfold cEq
    simp only [toPyA, refPy, toPyG, h, toPysG_ints, toPys_ints, toPy, toPys, Option.map_some, shaped_lints, hz, and_self, if_true, PyData.eqv, eqvAll_nil]
    cases L <;> rfl
  unfold fEq
  rw [e]
noncomputable def heapM : List D → AH → Res D := mFun 5 (mSeq (mSet 2 (mLc false (mSq (mSl (mVar 0) (mNone) (mSome (mK (.int 63))))) (.nm 4) (mYes) (mCall fAbs (mCons (mCall fInt (mCons (mVar 4)
    (mNil))) (mNil))) [4])) (mSeq (mSet 3 (mOp fAdd (mK (.int 52387)) (mOp fMulA (mK (.int 811)) (mVar 1)))) (mSeq (mFor (mSq (mVar 2)) (.nm 4) (mSet 3 (mOp fMod (mCall fInt (mCons (mOp fAdd (mOp fAdd
    (mOp fMulA (mVar 3) (mK (.int 48271))) (mOp fMod (mVar 4) (mK (.int 2147483549)))) (mK (.int 29))) (mNil))) (mK (.int 2147483647))))) (mRet (mNew (mCons (mRev true (mLc false (mSq (mVar 2)) (.nm 4)
    (mTst (mOp fGe (mVar 4) (mOp fPow (mK (.int 10)) (mK (.int 18))))) (mVar 4) [4])) (mCons (mVar 3) (mNil))))))))
noncomputable def drawM : List D → AH → Res D := mFun 3 (mSeq (mWhile (mAnd (mTst (mOp (fEq true) (mOp fIx (mVar 0) (mK (.int 0))) (mLst (mNil)))) (mTst (mOp (fEq false) (mOp fIx (mOp fIx (mVar
    0) (mK (.int 0))) (mNeg (mK (.int 1)))) (mK (.int 0))))) (mDrop (mPop (mOp fIx (mVar 0) (mK (.int 0)))))) (mSeq (mIfS (mTst (mOp (fEq true) (mOp fIx (mVar 0) (mK (.int 0))) (mLst (mNil)))) (mSeq
    (mSet 2 (mCall fInt (mCons (mPop (mOp fIx (mVar 0) (mK (.int 0)))) (mNil)))) (mSeq (mDrop (mMet fApp (mOp fIx (mVar 0) (mK (.int 0))) (mCons (mOp fDiv (mVar 2) (mVar 1)) (mNil)))) (mRet (mOp fMod
    (mVar 2) (mVar 1))))) (mNext)) (mSeq (mSto (mOp fMod (mCall fInt (mCons (mOp fAdd (mOp fMulA (mOp fIx (mVar 0) (mK (.int 1))) (mK (.int 48271))) (mK (.int 13))) (mNil))) (mK (.int 2147483647)))
    (mVar 0) (mK (.int 1))) (mRet (mOp fMod (mCall fInt (mCons (mOp fDiv (mOp fIx (mVar 0) (mK (.int 1))) (mK (.int 64))) (mNil))) (mVar 1))))))
noncomputable def pickM (c : List D → AH → Res D) : List D → AH → Res D := mFun 2 (mRet (mOp fIx (mVar 1) (mCallF 2 c (mCons (mVar 0) (mCons (mCall fLen (mCons (mVar 1)
    (mNil))) (mNil))))))
def tstM : MT := mAnd (mTst (mOp (fEq true) (mOp fIx (mVar 0) (mK (.int 0))) (mLst (mNil)))) (mTst (mOp (fEq false) (mOp fIx (mOp fIx (mVar 0) (mK (.int 0))) (mNeg (mK (.int 1)))) (mK (.int 0))))
def popM : MS := mDrop (mPop (mOp fIx (mVar 0) (mK (.int 0))))
theorem zeros_go {h q : Nat} {s k : Int} (hq : h ≠ q) : ∀ (n : Nat) (L : List Int) (A : AH), L.length = n → A[h]? = some (.lst [.ref q, .int s]) → A[q]? = some (.lst (L.map D.int)) →
    ∃ (L' : List Int) (A' : AH), L'.length ≤ L.length ∧ Put q (.lst (L'.map D.int)) A A' ∧ iterW tstM popM (n + 1) [some (.ref h), some (.int k), none] A = .nx [some (.ref h), some (.int k), none] A'
  | n, L, A, hn, h1, h2 => by
    cases hL : L with
    | nil =>
      subst hL
      refine ⟨[], A, Nat.le_refl _, ⟨rfl, h2, fun _ _ => rfl⟩, ?_⟩
      simp [iterW, tstM, mAnd, mTst, mOp, mVar, mK, mLst, mNil, ix_ref h1 at_ref0, eq_refnil h2]
    | cons x0 R =>
      obtain ⟨M, x, e⟩ : ∃ M x, L = M ++ [x] := ⟨L.dropLast, L.getLast (by rw [hL]; simp), (List.dropLast_concat_getLast (by rw [hL]; simp)).symm⟩
      rw [← hL]
      have hlast : atI (L.map D.int) (-1) = some (D.int x) := by
        rw [e, List.map_append]; exact atI_last _ _
      have hne : L.isEmpty = false := by rw [hL]; rfl
      have t1 : tstM [some (.ref h), some (.int k), none] A = .ok (decide (x = 0)) A := by
        simp [tstM, mAnd, mTst, mOp, mVar, mK, mLst, mNil, mNeg, ix_ref h1 at_ref0, eq_refnil h2, hne, ix_ref h2 hlast, eq_ints]
      by_cases hx : x = 0
      · have hlen : M.length + 1 = n := by rw [← hn, e]; simp
        obtain ⟨m, rfl⟩ : ∃ m, n = m + 1 := ⟨M.length, hlen.symm⟩
        have hg : (L.map D.int)[(L.map D.int).length - 1]? = some (D.int x) := by
          rw [e]; simp
        have hd : (L.map D.int).dropLast = M.map D.int := by
          rw [e]; simp
        have p1 : popM [some (.ref h), some (.int k), none] A = .nx [some (.ref h), some (.int k), none] (A.set q (.lst (M.map D.int))) := by
          simp only [popM, mDrop, mPop, mOp, mVar, mK, List.getElem?_cons_zero, bind_ok, ix_ref h1 at_ref0, h2, hg, hd, lift_ok]
        have P := Put.set (o := .lst (M.map D.int)) h2
        obtain ⟨L', A', l1, P', w⟩ := zeros_go hq m M (A.set q (.lst (M.map D.int))) (by omega) ((P.2.2 h hq).trans h1) P.2.1
        refine ⟨L', A', by rw [e]; simp; omega, P.trans P', ?_⟩
        unfold iterW
        rw [t1, decide_eq_true hx]
        simp only [p1]
        exact w
      · refine ⟨L, A, Nat.le_refl _, ⟨rfl, h2, fun _ _ => rfl⟩, ?_⟩
        unfold iterW
        rw [t1, decide_eq_false hx]
theorem draw_ok {h q : Nat} {A : AH} {k : Int} (hs : HS h q A) (h0 : 0 < k) (h1 : k < 1180591620717411303424) : ∃ v A', drawM [.ref h, .int k] A = .ok (.int v) A' ∧ 0 ≤ v ∧ v < k ∧ Drawn h q A A' := by
  obtain ⟨hq, L, s, e1, e2, hl, s0, s1⟩ := hs
  have cw : ∀ i : Int, CDivW i k := fun i => cdw_big h0 h1
  have c64 : ∀ i : Int, CDivW i 64 := fun i => cdw_big (by decide) (by decide)
  obtain ⟨L', A1, l1, P, w⟩ := zeros_go (k := k) hq L.length L A rfl e1 e2
  have w' : mWhile tstM popM [some (.ref h), some (.int k), none] A = .nx [some (.ref h), some (.int k), none] A1 := mWhile_eq w (by intro z; cases z)
  have f1 : A1[h]? = some (.lst [.ref q, .int s]) := (P.2.2 h hq).trans e1
  have f2 := P.2.1
  have hm : drawM [.ref h, .int k] A = mFun 3 (mSeq (mWhile tstM popM) (mSeq (mIfS (mTst (mOp (fEq true) (mOp fIx (mVar 0) (mK (.int 0))) (mLst (mNil)))) (mSeq (mSet 2 (mCall fInt (mCons (mPop (mOp fIx (mVar 0) (mK (.int 0)))) (mNil)))) (mSeq (mDrop (mMet fApp (mOp fIx (mVar 0) (mK (.int 0))) (mCons (mOp fDiv (mVar 2) (mVar 1)) (mNil)))) (mRet (mOp fMod (mVar 2) (mVar 1))))) (mNext)) (mSeq (mSto (mOp fMod (mCall fInt (mCons (mOp fAdd (mOp fMulA (mOp fIx (mVar 0) (mK (.int 1))) (mK (.int 48271))) (mK (.int 13))) (mNil))) (mK (.int 2147483647))) (mVar 0) (mK (.int 1))) (mRet (mOp fMod (mCall fInt (mCons (mOp fDiv (mOp fIx (mVar 0) (mK (.int 1))) (mK (.int 64))) (mNil))) (mVar 1)))))) [.ref h, .int k] A := rfl
  rw [hm]
  cases hL : L' with
  | nil =>
    subst hL
    have cm : CMul s 48271 := .inl ⟨by omega, by omega⟩
    have A2 := Put.set (o := .lst [.ref q, .int ((s * 48271 + 13) % 2147483647)]) f1
    refine ⟨((s * 48271 + 13) % 2147483647) / 64 % k, A1.set h (.lst [.ref q, .int ((s * 48271 + 13) % 2147483647)]), ?_, Int.emod_nonneg _ (by omega), Int.emod_lt_of_pos _ h0, ?_, ⟨hq, [], (s * 48271 + 13) % 2147483647, A2.2.1, (A2.2.2 q (Ne.symm hq)).trans f2, by simp, Int.emod_nonneg _ (by omega), Int.emod_lt_of_pos _ (by omega)⟩, fun n a b => (A2.2.2 n a).trans (P.2.2 n b)⟩
    · have g1 := A2.2.1
      have ixn : ixN 2 1 = some 1 := rfl
      simp [mFun, mSeq, w', mIfS, mTst, mOp, mVar, mK, mLst, mNil, mCons, mCall, mRet, mSto, mNext, ix_ref f1 at_ref0, ix_ref f1 at_ref1, eq_refnil f2, fAdd, fMulA, fMod, fDiv, fI, fInt, cm, f1, ixn, ix_ref g1 at_ref1, cw, c64, h0, h1]
    · exact A2.1.trans P.1
  | cons x0 R =>
    obtain ⟨M, x, e⟩ : ∃ M x, L' = M ++ [x] := ⟨L'.dropLast, L'.getLast (by rw [hL]; simp), (List.dropLast_concat_getLast (by rw [hL]; simp)).symm⟩
    have hne : L'.isEmpty = false := by rw [hL]; rfl
    have hg : (L'.map D.int)[L'.length - 1]? = some (D.int x) := by
      rw [e]; simp
    have hd : (L'.map D.int).dropLast = M.map D.int := by
      rw [e]; simp
    have B := Put.set (o := .lst (M.map D.int)) f2
    have b1 : (A1.set q (.lst (M.map D.int)))[h]? = some (.lst [.ref q, .int s]) := (B.2.2 h hq).trans f1
    have b2 := B.2.1
    have C := Put.set (o := .lst (M.map D.int ++ [D.int (x / k)])) b2
    have ml : M.length ≤ 62 := by
      have : L'.length = M.length + 1 := by rw [e]; simp
      omega
    refine ⟨x % k, _, ?_, Int.emod_nonneg _ (by omega), Int.emod_lt_of_pos _ h0, ?_, ⟨hq, M ++ [x / k], s, (C.2.2 h hq).trans b1, ?_, by simp; omega, s0, s1⟩, fun n a b => (C.2.2 n b).trans ((B.2.2 n b).trans (P.2.2 n b))⟩
    · have hlen : (M.map D.int).length < 16777216 := by rw [List.length_map]; omega
      rw [List.length_map] at hlen
      simp only [hg, hd, mFun, mSeq, w', mIfS, mTst, mOp, mVar, mK, mLst, mNil, mCons, mCall, mRet, mSet, mDrop, mPop, mMet, ix_ref f1 at_ref0, eq_refnil f2, hne, f2, b2, ix_ref b1 at_ref0, fApp, fMod, fDiv, fI, fInt, cw, c64, h0, h1, hlen,
        List.map_cons, List.map_nil, List.cons_append, List.nil_append, List.length_cons, List.length_nil, List.getElem?_cons_zero, List.getElem?_cons_succ, List.set_cons_succ, List.set_cons_zero, bind_ok, lift_ok, List.replicate, Nat.reduceAdd, Nat.reduceSub, Nat.reduceLeDiff, if_true, and_self, Bool.not_false, List.length_map]
    · exact C.1.trans (B.1.trans P.1)
    · rw [C.2.1]; simp
end DM
end
section
set_option maxHeartbeats 1000000
namespace DM
open PySem PySem.Spec PyProof.Rows L2
theorem pick_ok {h q : Nat} {A : AH} {xs : List D} (hs : HS h q A) (h0 : 0 < xs.length) (h1 : xs.length < 1073741824) : ∃ (i : Nat) (hi : i < xs.length) (A' : AH), pickM drawM [.ref h, .lst xs] A = .ok xs[i] A' ∧ Drawn h q A A' := by
  obtain ⟨v, A', e, v0, v1, dr⟩ := draw_ok (k := (xs.length : Int)) hs (by omega) (by omega)
  obtain ⟨i, rfl⟩ : ∃ i : Nat, v = i := ⟨v.toNat, by omega⟩
  have hi : i < xs.length := by omega
  refine ⟨i, hi, A', ?_, dr⟩
  have ha : atI xs (i : Int) = some xs[i] := atI_nat (List.getElem?_eq_getElem hi)
  simp [pickM, mFun, mRet, mOp, mVar, mCallF, mCons, mNil, mCall, fLen, seqOf, e, ix_lst ha]
/-- a comprehension whose parts change nothing -/
theorem comp_pure {iv : ItV} {all : List D} {t : Tg} {tt : MT} {me : ME} {ρ : DM.Env} {A : AH} {p : D → Bool} {f : D → D} (hit : itemsOf A iv = some all) : ∀ (xs acc : List D), (∀ x ∈ xs, ∃ ρ1, bindT t x ρ = some ρ1 ∧ tt ρ1 A = .ok (p x) A ∧ (p x = true → me ρ1 A = .ok (f x) A)) →
    compGo iv all t tt me ρ xs acc A = .ok (acc ++ (xs.filter p).map f) A
  | [], acc, _ => by
    unfold compGo
    rw [if_pos hit]
    simp
  | x :: xs, acc, h => by
    obtain ⟨ρ1, h1, h2, h3⟩ := h x List.mem_cons_self
    have ih := comp_pure (t := t) (tt := tt) (me := me) (ρ := ρ) (p := p) (f := f) hit xs
    unfold compGo
    rw [if_pos hit, h1]
    simp only [h2]
    cases hp : p x with
    | true =>
      simp only [h3 hp]
      rw [ih _ fun y hy => h y (List.mem_cons_of_mem _ hy), List.filter_cons, if_pos hp, List.map_cons, List.append_assoc]
      rfl
    | false =>
      simp only
      rw [ih _ fun y hy => h y (List.mem_cons_of_mem _ hy), List.filter_cons, if_neg (by rw [hp]; decide)]
theorem cut_take (xs : List D) (k : Nat) : cutD xs none (some (k : Int)) = xs.take k := by
  unfold cutD
  rw [HT.sIx_none, HT.sIx_nat, List.drop_zero, Nat.sub_zero]
  rcases Nat.le_total k xs.length with h | h
  · rw [Nat.min_eq_left h]
  · rw [Nat.min_eq_right h, List.take_of_length_le (Nat.le_refl _), List.take_of_length_le h]
theorem filter_true {α : Type} (xs : List α) : xs.filter (fun _ => true) = xs := List.filter_eq_self.mpr fun _ _ => rfl
/-- the mixing of the cells -/
theorem stir_go {d0 d1 d2 d4 : Option D} {all : List D} {A : AH} : ∀ (L : List Int) (s : Int), 0 ≤ s → s < 2147483647 → ∃ s' d, 0 ≤ s' ∧ s' < 2147483647 ∧
    forGo (.sq (.lst all)) all (.nm 4) (mSet 3 (mOp fMod (mCall fInt (mCons (mOp fAdd (mOp fAdd (mOp fMulA (mVar 3) (mK (.int 48271))) (mOp fMod (mVar 4) (mK (.int 2147483549)))) (mK (.int 29))) (mNil))) (mK (.int 2147483647)))) (L.map D.int) [d0, d1, d2, some (.int s), d4] A
      = .nx [d0, d1, d2, some (.int s'), d] A
  | [], s, h0, h1 => ⟨s, d4, h0, h1, by simp [forGo, itemsOf, seqOf]⟩
  | x :: L, s, h0, h1 => by
    obtain ⟨s', d, a, b, e⟩ := stir_go (d0 := d0) (d1 := d1) (d2 := d2) (d4 := some (.int x)) (all := all) (A := A) L ((s * 48271 + x % 2147483549 + 29) % 2147483647) (Int.emod_nonneg _ (by omega)) (Int.emod_lt_of_pos _ (by omega))
    refine ⟨s', d, a, b, ?_⟩
    have cm : CMul s 48271 := .inl ⟨by omega, by omega⟩
    rw [List.map_cons]
    unfold forGo
    simp only [itemsOf, seqOf, if_true, bindT, List.set_cons_succ, List.set_cons_zero, mSet, mOp, mCall, mCons, mNil, mVar, mK, List.getElem?_cons_zero, List.getElem?_cons_succ, bind_ok, fMulA, fI, cm, fMod, fAdd, fInt, lift_ok, show (0 : Int) < 2147483549 by decide, show (0 : Int) < 2147483647 by decide]
    exact e
theorem heap_ok {A : AH} {ns : List Int} {b : Int} (b0 : 0 ≤ b) (b1 : b < 1000) : ∃ h q A', heapM [.lst (ns.map D.int), .int b] A = .ok (.ref h) A' ∧ HS h q A' ∧ A'.length = A.length + 2 ∧ h = A.length + 1 ∧ q = A.length ∧ ∀ n, n < A.length → A'[n]? = A[n]? := by
  have cz : ∀ L : List Int, (L.map D.int).map (fun d => match d with | .int i => D.int (if i < 0 then -i else i) | d => d) = (L.map fun i => if i < 0 then -i else i).map D.int := fun L => by
    rw [List.map_map, List.map_map]; rfl
  have hl : ((ns.map D.int).take 63).length ≤ 16777216 := by rw [List.length_take]; omega
  generalize hN : ns.take 63 = M at *
  have hM : (ns.map D.int).take 63 = M.map D.int := by rw [← hN, List.map_take]
  have hMl : M.length ≤ 63 := by rw [← hN, List.length_take]; omega
  have cm : CMul 811 b := .inl ⟨by decide, by decide⟩
  generalize hC : (M.map fun i => if i < 0 then -i else i) = C at *
  have hCl : C.length ≤ 63 := by rw [← hC, List.length_map]; exact hMl
  have c1 : ∀ d1 d3, compGo (.sq (.lst (M.map D.int))) (M.map D.int) (.nm 4) mYes (mCall fAbs (mCons (mCall fInt (mCons (mVar 4) mNil)) mNil)) [some (.lst (ns.map D.int)), d1, none, d3, none] (M.map D.int) [] A = .ok (C.map D.int) A := fun d1 d3 => by
    rw [comp_pure (p := fun _ => true) (f := fun d => match d with | .int i => D.int (if i < 0 then -i else i) | d => d) rfl _ _ fun x hx => ?_]
    · rw [filter_true, cz, hC]; rfl
    · obtain ⟨i, _, rfl⟩ := List.mem_map.mp hx
      exact ⟨_, rfl, rfl, fun _ => rfl⟩
  obtain ⟨s', d, s0, s1, st⟩ := stir_go (d0 := some (.lst (ns.map D.int))) (d1 := some (.int b)) (d2 := some (.lst (C.map D.int))) (d4 := none) (all := C.map D.int) (A := A) C (52387 + 811 * b) (by omega) (by omega)
  have pw : CPow 10 18 := ⟨by decide, by decide, by decide⟩
  have c2 : ∀ d3, compGo (.sq (.lst (C.map D.int))) (C.map D.int) (.nm 4) (mTst (mOp fGe (mVar 4) (mOp fPow (mK (.int 10)) (mK (.int 18))))) (mVar 4) [some (.lst (ns.map D.int)), some (.int b), some (.lst (C.map D.int)), d3, none] (C.map D.int) [] A = .ok ((C.filter fun i => decide ((10 : Int) ^ 18 ≤ i)).map D.int) A := fun d3 => by
    rw [comp_pure (p := fun d => match d with | .int i => decide ((10 : Int) ^ 18 ≤ i) | _ => true) (f := fun d => d) rfl _ _ fun x hx => ?_]
    · rw [List.map_id', List.filter_map]; rfl
    · obtain ⟨i, _, rfl⟩ := List.mem_map.mp hx
      refine ⟨_, rfl, ?_, fun _ => rfl⟩
      simp only [mTst, mOp, mVar, mK, bindT, List.set_cons_succ, List.set_cons_zero, List.getElem?_cons_zero, List.getElem?_cons_succ, bind_ok, fPow, fI, pw, if_true, fGe, fI0]
      rfl
  generalize hF : (C.filter fun i => decide ((10 : Int) ^ 18 ≤ i)) = F at *
  have hFl : F.length ≤ 63 := by rw [← hF]; exact Nat.le_trans (List.length_filter_le _ _) hCl
  have e63 : cutD (ns.map D.int) none (some 63) = M.map D.int := by rw [← hM]; exact cut_take _ 63
  have z1 : (M.map D.int).length ≤ 16777216 := by rw [List.length_map]; omega
  have z2 : (C.map D.int).length ≤ 16777216 := by rw [List.length_map]; omega
  refine ⟨A.length + 1, A.length, A ++ [.lst (F.map D.int).reverse] ++ [.lst [.ref A.length, .int s']], ?_, ⟨by omega, F.reverse, s', ?_, ?_, by rw [List.length_reverse]; exact hFl, s0, s1⟩, by simp, rfl, rfl, fun n hn => ?_⟩
  · unfold heapM
    refine fun_rt ?_
    refine (seq_nx (ρ1 := [some (.lst (ns.map D.int)), some (.int b), some (.lst (C.map D.int)), none, none]) (A1 := A) ?_).trans ?_
    · simp only [ev_var, ev_K, ev_op, ev_neg, ev_tst, ev_and, ev_or, ev_not, ev_andV, ev_orV, ev_notV, ev_if, ev_chn, ev_nil, ev_cons, ev_tup, ev_lst, ev_new, ev_call, ev_callF, ev_callK, ev_met, ev_sl, ev_some, ev_none, ev_rev, ev_yes, ev_sq, ev_r1, ev_next, ev_drop, ev_ret, ev_ifs, ev_set, ev_par2, ev_par3, ev_asg, ev_nm, List.getElem?_cons_zero, List.getElem?_cons_succ, List.set_cons_zero, List.set_cons_succ, bind_ok, lift_ok, List.length_cons, List.length_nil, Nat.reduceAdd, Nat.reduceLeDiff, ↓reduceIte, if_true, if_false, Bool.false_eq_true, ev_lc, fSl, seqOf, e63, itemsOf, z1, wipeD, List.map_cons, List.map_nil, List.replicate, List.cons_append, List.nil_append, List.foldl_cons, List.foldl_nil, Nat.reduceSub, c1]
    refine (seq_nx (ρ1 := [some (.lst (ns.map D.int)), some (.int b), some (.lst (C.map D.int)), some (.int (52387 + 811 * b)), none]) (A1 := A) ?_).trans ?_
    · simp only [ev_var, ev_K, ev_op, ev_neg, ev_tst, ev_and, ev_or, ev_not, ev_andV, ev_orV, ev_notV, ev_if, ev_chn, ev_nil, ev_cons, ev_tup, ev_lst, ev_new, ev_call, ev_callF, ev_callK, ev_met, ev_sl, ev_some, ev_none, ev_rev, ev_yes, ev_sq, ev_r1, ev_next, ev_drop, ev_ret, ev_ifs, ev_set, ev_par2, ev_par3, ev_asg, ev_nm, List.getElem?_cons_zero, List.getElem?_cons_succ, List.set_cons_zero, List.set_cons_succ, bind_ok, lift_ok, List.length_cons, List.length_nil, Nat.reduceAdd, Nat.reduceLeDiff, ↓reduceIte, if_true, if_false, Bool.false_eq_true, fMulA, fI, cm, fAdd]
    refine (seq_nx (ρ1 := [some (.lst (ns.map D.int)), some (.int b), some (.lst (C.map D.int)), some (.int s'), d]) (A1 := A) ?_).trans ?_
    · simp only [ev_var, ev_K, ev_op, ev_neg, ev_tst, ev_and, ev_or, ev_not, ev_andV, ev_orV, ev_notV, ev_if, ev_chn, ev_nil, ev_cons, ev_tup, ev_lst, ev_new, ev_call, ev_callF, ev_callK, ev_met, ev_sl, ev_some, ev_none, ev_rev, ev_yes, ev_sq, ev_r1, ev_next, ev_drop, ev_ret, ev_ifs, ev_set, ev_par2, ev_par3, ev_asg, ev_nm, List.getElem?_cons_zero, List.getElem?_cons_succ, List.set_cons_zero, List.set_cons_succ, bind_ok, lift_ok, List.length_cons, List.length_nil, Nat.reduceAdd, Nat.reduceLeDiff, ↓reduceIte, if_true, if_false, Bool.false_eq_true, ev_for, itemsOf, seqOf]
      exact st
    simp only [ev_var, ev_K, ev_op, ev_neg, ev_tst, ev_and, ev_or, ev_not, ev_andV, ev_orV, ev_notV, ev_if, ev_chn, ev_nil, ev_cons, ev_tup, ev_lst, ev_new, ev_call, ev_callF, ev_callK, ev_met, ev_sl, ev_some, ev_none, ev_rev, ev_yes, ev_sq, ev_r1, ev_next, ev_drop, ev_ret, ev_ifs, ev_set, ev_par2, ev_par3, ev_asg, ev_nm, List.getElem?_cons_zero, List.getElem?_cons_succ, List.set_cons_zero, List.set_cons_succ, bind_ok, lift_ok, List.length_cons, List.length_nil, Nat.reduceAdd, Nat.reduceLeDiff, ↓reduceIte, if_true, if_false, Bool.false_eq_true, ev_lc, seqOf, itemsOf, z2, wipeD, List.foldl_cons, List.foldl_nil, c2, isTup]
    simp
  · rw [List.getElem?_append_right (by simp)]; simp
  · rw [List.getElem?_append_left (by simp), List.getElem?_append_right (by simp)]; simp
  · rw [List.getElem?_append_left (by simp; omega), List.getElem?_append_left hn]
end DM
end
section
set_option maxHeartbeats 1000000
namespace DM
open PySem PySem.Spec PyProof.Rows L2
/-- octets as data -/
def dI (os : List Nat) : List D := os.map fun n : Nat => D.int (n : Int)
theorem dI_length (os : List Nat) : (dI os).length = os.length := by simp [dI]
theorem dI_append (a b : List Nat) : dI (a ++ b) = dI a ++ dI b := by simp [dI]
theorem dI_take (a : List Nat) (k : Nat) : (dI a).take k = dI (a.take k) := by simp [dI, List.map_take]
theorem dI_drop (a : List Nat) (k : Nat) : (dI a).drop k = dI (a.drop k) := by simp [dI, List.map_drop]
theorem dI_ints (a : List Nat) : dI a = (a.map fun n : Nat => (n : Int)).map D.int := by simp [dI, List.map_map, Function.comp_def]
theorem Drawn.refl {h q : Nat} {A : AH} (hs : HS h q A) : Drawn h q A A := ⟨rfl, hs, fun _ _ _ => rfl⟩
end DM
end
section
set_option maxHeartbeats 1000000
namespace DM
open PySem PySem.Spec PyProof.Rows L2
/-! ### the other way to draw -/
end DM
end
section
set_option maxHeartbeats 1000000
namespace DM
open PySem PySem.Spec PyProof.Rows L2
noncomputable def checkM : List D → AH → Res D := mFun 3 (mSeq (mSet 1 (mK (.int 1))) (mSeq (mFor (mSq (mVar 0)) (.nm 2) (mSet 1 (mOp fMod (mOp fAdd (mOp fMulA (mVar 1) (mK (.int 256))) (mVar 2))
    (mK (.int 4294967291))))) (mRet (mVar 1))))
noncomputable def pairM : List D → AH → Res D := mFun 1 (mRet (mTup (mCons (mOp fShr (mVar 0) (mK (.int 8))) (mCons (mOp fAnd (mVar 0) (mK (.int 255))) (mNil)))))
noncomputable def sumM (c_check_sum : List D → AH → Res D) (c_pair_of : List D → AH → Res D) : List D → AH → Res D := mFun 2 (mSeq (mSet 1 (mCallF 1 c_check_sum (mCons (mVar 0) (mNil)))) (mRet
    (mOp fAdd (mCallF 1 c_pair_of (mCons (mOp fShr (mVar 1) (mK (.int 16))) (mNil))) (mCallF 1 c_pair_of (mCons (mOp fAnd (mVar 1) (mK (.int 65535))) (mNil))))))
noncomputable def putM (c_sum_octets : List D → AH → Res D) (c_pair_of : List D → AH → Res D) : List D → AH → Res D := mFun 2 (mSeq (mIfS (mTst (mOp fGt (mCall fLen (mCons (mVar 0) (mNil))) (mK
    (.int 65535)))) (mRaise "InvalidSize" "word" (mK (.str "body"))) (mNext)) (mSeq (mSet 1 (mOp fAdd (mOp fAdd (mCallF 1 c_pair_of (mCons (mCall fLen (mCons (mVar 0) (mNil))) (mNil))) (mCallF 1 c_pair_of (mCons (mOp fSub (mK (.int 65535))
    (mCall fLen (mCons (mVar 0) (mNil)))) (mNil)))) (mCall fTup (mCons (mVar 0) (mNil))))) (mRet (mOp fAdd (mVar 1) (mCallF 1 c_sum_octets (mCons (mVar 1) (mNil)))))))
noncomputable def faultM (c_sum_octets : List D → AH → Res D) : List D → AH → Res D := mFun 4 (mSeq (mIfS (mTst (mOp fLt (mCall fLen (mCons (mVar 0) (mNil))) (mOp fAdd (mVar 1) (mK (.int 4)))))
    (mRet (mK (.str "cut"))) (mNext)) (mSeq (mSet 2 (mOp fAdd (mOp fMulA (mOp fIx (mVar 0) (mVar 1)) (mK (.int 256))) (mOp fIx (mVar 0) (mOp fAdd (mVar 1) (mK (.int 1)))))) (mSeq (mIfS (mTst (mOp (fEq
    true) (mOp fAdd (mOp fAdd (mVar 2) (mOp fMulA (mOp fIx (mVar 0) (mOp fAdd (mVar 1) (mK (.int 2)))) (mK (.int 256)))) (mOp fIx (mVar 0) (mOp fAdd (mVar 1) (mK (.int 3))))) (mK (.int 65535)))) (mRet
    (mK (.str "broken"))) (mNext)) (mSeq (mSet 3 (mOp fAdd (mOp fAdd (mVar 1) (mVar 2)) (mK (.int 8)))) (mSeq (mIfS (mTst (mOp fLt (mCall fLen (mCons (mVar 0) (mNil))) (mVar 3))) (mRet (mK (.str
    "cut"))) (mNext)) (mRet (mIf (mTst (mOp (fEq false) (mCall fTup (mCons (mSl (mVar 0) (mSome (mOp fSub (mVar 3) (mK (.int 4)))) (mSome (mVar 3))) (mNil))) (mCallF 1 c_sum_octets (mCons (mSl (mVar 0)
    (mSome (mVar 1)) (mSome (mOp fSub (mVar 3) (mK (.int 4))))) (mNil))))) (mK .non) (mK (.str "broken")))))))))
/-! ### the sum -/
def cs (os : List Nat) : Nat := os.foldl (fun t o => (t * 256 + o) % 4294967291) 1
theorem cs_step {x : Option D} {i j : Int} {A : AH} (cm : CMul i 256) : mSet 1 (mOp fMod (mOp fAdd (mOp fMulA (mVar 1) (mK (.int 256))) (mVar 2)) (mK (.int 4294967291))) [x, some (.int i), some (.int j)] A = .nx [x, some (.int ((i * 256 + j) % 4294967291)), some (.int j)] A := by
  simp only [EVa, List.getElem?_cons_zero, List.getElem?_cons_succ, List.set_cons_zero, List.set_cons_succ, bind_ok, lift_ok, List.length_cons, List.length_nil, Nat.reduceAdd, Nat.reduceLeDiff, ↓reduceIte, if_true, if_false, Bool.false_eq_true, fMulA, fI, cm, fAdd, fMod, show (0 : Int) < 4294967291 by decide]
theorem cs_go {x : Option D} {all : List D} {A : AH} (hx : x = some (.tup all)) : ∀ (os : List Nat) (t : Nat) (d : Option D), t < 4294967291 → ∃ d',
    forGo (.sq (.tup all)) all (.nm 2) (mSet 1 (mOp fMod (mOp fAdd (mOp fMulA (mVar 1) (mK (.int 256))) (mVar 2)) (mK (.int 4294967291)))) (dI os) [x, some (.int (t : Int)), d] A
      = .nx [x, some (.int ((os.foldl (fun t o => (t * 256 + o) % 4294967291) t : Nat) : Int)), d'] A
  | [], t, d, _ => ⟨d, for_nil rfl⟩
  | o :: os, t, d, ht => by
    obtain ⟨d', e⟩ := cs_go (x := x) (all := all) (A := A) hx os ((t * 256 + o) % 4294967291) (some (.int o)) (Nat.mod_lt _ (by decide))
    refine ⟨d', ?_⟩
    rw [List.foldl_cons, show dI (o :: os) = .int o :: dI os from rfl]
    have cm : CMul (t : Int) 256 := .inl ⟨by omega, by omega⟩
    have e1 : ((t : Int) * 256 + o) % 4294967291 = (((t * 256 + o) % 4294967291 : Nat) : Int) := by omega
    have st := cs_step (x := x) (A := A) (i := t) (j := o) cm
    rw [e1] at st
    exact (for_nx rfl rfl st).trans e
theorem check_ok {os : List Nat} {A : AH} : checkM [.tup (dI os)] A = .ok (.int (cs os : Nat)) A := by
  obtain ⟨d', e⟩ := cs_go (x := some (.tup (dI os))) (all := dI os) (A := A) rfl os 1 none (by decide)
  unfold checkM
  refine fun_rt ?_
  refine (seq_nx (ρ1 := [some (.tup (dI os)), some (.int (1 : Nat)), none]) (A1 := A) rfl).trans ?_
  refine (seq_nx (ρ1 := [some (.tup (dI os)), some (.int ((cs os : Nat) : Int)), d']) (A1 := A) ?_).trans ?_
  · simp only [EVa, List.getElem?_cons_zero, List.getElem?_cons_succ, List.set_cons_zero, List.set_cons_succ, bind_ok, lift_ok, List.length_cons, List.length_nil, Nat.reduceAdd, Nat.reduceLeDiff, ↓reduceIte, if_true, if_false, Bool.false_eq_true, ev_for, itemsOf, seqOf]
    exact e
  · simp only [EVa, List.getElem?_cons_zero, List.getElem?_cons_succ, List.set_cons_zero, List.set_cons_succ, bind_ok, lift_ok, List.length_cons, List.length_nil, Nat.reduceAdd, Nat.reduceLeDiff, ↓reduceIte, if_true, if_false, Bool.false_eq_true]
theorem pair_ok {n : Nat} {A : AH} : pairM [.int n] A = .ok (.tup (dI [n / 256, n % 256])) A := by
  have e1 : (n : Int) / 2 ^ (Int.toNat 8) = ((n / 256 : Nat) : Int) := by
    show (n : Int) / 256 = _
    omega
  have e2 : Builtin.bitAnd (n : Int) 255 = ((n % 256 : Nat) : Int) := by
    have h := Bits.bitAnd_mask (x := (n : Int)) 8 (by omega)
    have h2 : ((2 : Int) ^ 8 - 1) = 255 := rfl
    rw [h2] at h
    rw [h]
    show (n : Int) % 256 = _
    omega
  unfold pairM
  refine fun_rt ?_
  simp only [EVa, List.getElem?_cons_zero, List.getElem?_cons_succ, List.set_cons_zero, List.set_cons_succ, bind_ok, lift_ok, List.length_cons, List.length_nil, Nat.reduceAdd, Nat.reduceLeDiff, ↓reduceIte, if_true, if_false, Bool.false_eq_true, fShr, fAnd, fI, fI0, show (0 : Int) ≤ 8 by decide, List.map_cons, List.map_nil, List.replicate, List.cons_append, List.nil_append, e1, e2]
  rfl
theorem and_word {n : Nat} : Builtin.bitAnd (n : Int) 65535 = ((n % 65536 : Nat) : Int) := by
  have h := Bits.bitAnd_mask (x := (n : Int)) 16 (by omega)
  have h2 : ((2 : Int) ^ 16 - 1) = 65535 := rfl
  rw [h2] at h
  rw [h]
  show (n : Int) % 65536 = _
  omega
def s4 (os : List Nat) : List Nat := [cs os / 65536 / 256, cs os / 65536 % 256, cs os % 65536 / 256, cs os % 65536 % 256]
theorem add_tup {xs ys : List D} {A : AH} (h : xs.length + ys.length ≤ 16777216) : fAdd (.tup xs) (.tup ys) A = .ok (.tup (xs ++ ys)) A := if_pos h
theorem sum_ok {os : List Nat} {A : AH} : sumM checkM pairM [.tup (dI os)] A = .ok (.tup (dI (s4 os))) A := by
  have e1 : (cs os : Int) / 2 ^ (Int.toNat 16) = ((cs os / 65536 : Nat) : Int) := by
    show (cs os : Int) / 65536 = _
    omega
  unfold sumM
  refine fun_rt ?_
  refine (seq_nx (ρ1 := [some (.tup (dI os)), some (.int (cs os : Nat))]) (A1 := A) ?_).trans ?_
  · simp only [EVa, List.getElem?_cons_zero, List.getElem?_cons_succ, List.set_cons_zero, List.set_cons_succ, bind_ok, lift_ok, List.length_cons, List.length_nil, Nat.reduceAdd, Nat.reduceLeDiff, ↓reduceIte, if_true, if_false, Bool.false_eq_true, List.map_cons, List.map_nil, List.replicate, List.cons_append, List.nil_append, Nat.reduceSub, check_ok]
  simp only [EVa, List.getElem?_cons_zero, List.getElem?_cons_succ, List.set_cons_zero, List.set_cons_succ, bind_ok, lift_ok, List.length_cons, List.length_nil, Nat.reduceAdd, Nat.reduceLeDiff, ↓reduceIte, if_true, if_false, Bool.false_eq_true, fShr, fAnd, fI, fI0, show (0 : Int) ≤ 16 by decide, e1, and_word, pair_ok]
  rw [add_tup (by simp [dI])]
  rfl
/-! ### a frame -/
def hd4 (b : List Nat) : List Nat := [b.length / 256, b.length % 256, (65535 - b.length) / 256, (65535 - b.length) % 256]
def pf (b : List Nat) : List Nat := hd4 b ++ b ++ s4 (hd4 b ++ b)
theorem pf_length (b : List Nat) : (pf b).length = b.length + 8 := by
  simp [pf, hd4, s4]
theorem len_tup {os : List Nat} {A : AH} : fLen [.tup (dI os)] A = .ok (.int (os.length : Nat)) A := by
  simp only [fLen, seqOf, dI_length]
theorem tup_tup {xs : List D} {A : AH} : fTup [.tup xs] A = .ok (.tup xs) A := rfl
theorem put_ok {b : List Nat} {A : AH} (hb : b.length ≤ 65535) : putM (sumM checkM pairM) pairM [.tup (dI b)] A = .ok (.tup (dI (pf b))) A := by
  have e0 : decide ((b.length : Int) > 65535) = false := decide_eq_false (by omega)
  have e1 : (65535 : Int) - (b.length : Int) = ((65535 - b.length : Nat) : Int) := by omega
  unfold putM
  refine fun_rt ?_
  refine (seq_nx (ρ1 := [some (.tup (dI b)), none]) (A1 := A) ?_).trans ?_
  · simp only [EVa, List.getElem?_cons_zero, List.getElem?_cons_succ, List.set_cons_zero, List.set_cons_succ, bind_ok, lift_ok, List.length_cons, List.length_nil, Nat.reduceAdd, Nat.reduceLeDiff, ↓reduceIte, if_true, if_false, Bool.false_eq_true, List.map_cons, List.map_nil, List.replicate, List.cons_append, List.nil_append, Nat.reduceSub, len_tup, fGt, fI0, e0]
  refine (seq_nx (ρ1 := [some (.tup (dI b)), some (.tup (dI (hd4 b ++ b)))]) (A1 := A) ?_).trans ?_
  · simp only [EVa, List.getElem?_cons_zero, List.getElem?_cons_succ, List.set_cons_zero, List.set_cons_succ, bind_ok, lift_ok, List.length_cons, List.length_nil, Nat.reduceAdd, Nat.reduceLeDiff, ↓reduceIte, if_true, if_false, Bool.false_eq_true, len_tup, fSub, fI0, e1, pair_ok, tup_tup]
    rw [add_tup (by simp [dI])]
    simp only [bind_ok, ↓reduceIte]
    rw [add_tup (by simp [dI]; omega)]
    simp only [lift_ok, ← dI_append, List.set_cons_zero, List.set_cons_succ]
    rfl
  · simp only [EVa, List.getElem?_cons_zero, List.getElem?_cons_succ, List.set_cons_zero, List.set_cons_succ, bind_ok, lift_ok, List.length_cons, List.length_nil, Nat.reduceAdd, Nat.reduceLeDiff, ↓reduceIte, if_true, if_false, Bool.false_eq_true, sum_ok]
    rw [add_tup (by simp [dI, s4, hd4]; omega), ← dI_append]
    rfl
end DM
end
section
set_option maxHeartbeats 1000000
namespace DM
open PySem PySem.Spec PyProof.Rows L2
section
variable {S : List D → AH → Res D} {T : D} {A : AH} {p n ia ib ic id : Int}
theorem fault_g1 (hl : fLen [T] A = .ok (.int n) A) (h1 : n < p + 4) : faultM S [T, .int p] A = .ok (.str "cut") A := by
  unfold faultM
  refine fun_rt ?_
  refine (seq_rt (d := .str "cut") (A1 := A) ?_)
  simp only [EVa, List.getElem?_cons_zero, List.getElem?_cons_succ, List.set_cons_zero, List.set_cons_succ, bind_ok, lift_ok, List.length_cons, List.length_nil, Nat.reduceAdd, Nat.reduceLeDiff, ↓reduceIte, if_true, if_false, Bool.false_eq_true, List.map_cons, List.map_nil, List.replicate, List.cons_append, List.nil_append, Nat.reduceSub, hl, fAdd, fLt, fI0, decide_eq_true h1]
theorem fault_g2 (hl : fLen [T] A = .ok (.int n) A) (h1 : ¬ n < p + 4) (x0 : fIx T (.int p) A = .ok (.int ia) A) (x1 : fIx T (.int (p + 1)) A = .ok (.int ib) A) (x2 : fIx T (.int (p + 2)) A = .ok (.int ic) A) (x3 : fIx T (.int (p + 3)) A = .ok (.int id) A)
    (ca : CMul ia 256) (cc : CMul ic 256) (h2 : ia * 256 + ib + ic * 256 + id ≠ 65535) : faultM S [T, .int p] A = .ok (.str "broken") A := by
  unfold faultM
  refine fun_rt ?_
  refine (seq_nx (ρ1 := [some T, some (.int p), none, none]) (A1 := A) ?_).trans ?_
  · simp only [EVa, List.getElem?_cons_zero, List.getElem?_cons_succ, List.set_cons_zero, List.set_cons_succ, bind_ok, lift_ok, List.length_cons, List.length_nil, Nat.reduceAdd, Nat.reduceLeDiff, ↓reduceIte, if_true, if_false, Bool.false_eq_true, List.map_cons, List.map_nil, List.replicate, List.cons_append, List.nil_append, Nat.reduceSub, hl, fAdd, fLt, fI0, decide_eq_false h1]
  refine (seq_nx (ρ1 := [some T, some (.int p), some (.int (ia * 256 + ib)), none]) (A1 := A) ?_).trans ?_
  · simp only [EVa, List.getElem?_cons_zero, List.getElem?_cons_succ, List.set_cons_zero, List.set_cons_succ, bind_ok, lift_ok, List.length_cons, List.length_nil, Nat.reduceAdd, Nat.reduceLeDiff, ↓reduceIte, if_true, if_false, Bool.false_eq_true, x0, x1, fAdd, fMulA, fI, ca]
  refine (seq_rt (d := .str "broken") (A1 := A) ?_)
  simp only [EVa, List.getElem?_cons_zero, List.getElem?_cons_succ, List.set_cons_zero, List.set_cons_succ, bind_ok, lift_ok, List.length_cons, List.length_nil, Nat.reduceAdd, Nat.reduceLeDiff, ↓reduceIte, if_true, if_false, Bool.false_eq_true, x2, x3, fAdd, fMulA, fI, cc, eq_ints, decide_eq_false h2, Bool.not_false]
theorem fault_g3 (hl : fLen [T] A = .ok (.int n) A) (h1 : ¬ n < p + 4) (x0 : fIx T (.int p) A = .ok (.int ia) A) (x1 : fIx T (.int (p + 1)) A = .ok (.int ib) A) (x2 : fIx T (.int (p + 2)) A = .ok (.int ic) A) (x3 : fIx T (.int (p + 3)) A = .ok (.int id) A)
    (ca : CMul ia 256) (cc : CMul ic 256) (h2 : ia * 256 + ib + ic * 256 + id = 65535) (h3 : n < p + (ia * 256 + ib) + 8) : faultM S [T, .int p] A = .ok (.str "cut") A := by
  unfold faultM
  refine fun_rt ?_
  refine (seq_nx (ρ1 := [some T, some (.int p), none, none]) (A1 := A) ?_).trans ?_
  · simp only [EVa, List.getElem?_cons_zero, List.getElem?_cons_succ, List.set_cons_zero, List.set_cons_succ, bind_ok, lift_ok, List.length_cons, List.length_nil, Nat.reduceAdd, Nat.reduceLeDiff, ↓reduceIte, if_true, if_false, Bool.false_eq_true, List.map_cons, List.map_nil, List.replicate, List.cons_append, List.nil_append, Nat.reduceSub, hl, fAdd, fLt, fI0, decide_eq_false h1]
  refine (seq_nx (ρ1 := [some T, some (.int p), some (.int (ia * 256 + ib)), none]) (A1 := A) ?_).trans ?_
  · simp only [EVa, List.getElem?_cons_zero, List.getElem?_cons_succ, List.set_cons_zero, List.set_cons_succ, bind_ok, lift_ok, List.length_cons, List.length_nil, Nat.reduceAdd, Nat.reduceLeDiff, ↓reduceIte, if_true, if_false, Bool.false_eq_true, x0, x1, fAdd, fMulA, fI, ca]
  refine (seq_nx (ρ1 := [some T, some (.int p), some (.int (ia * 256 + ib)), none]) (A1 := A) ?_).trans ?_
  · simp only [EVa, List.getElem?_cons_zero, List.getElem?_cons_succ, List.set_cons_zero, List.set_cons_succ, bind_ok, lift_ok, List.length_cons, List.length_nil, Nat.reduceAdd, Nat.reduceLeDiff, ↓reduceIte, if_true, if_false, Bool.false_eq_true, x2, x3, fAdd, fMulA, fI, cc, eq_ints, decide_eq_true h2, Bool.not_true]
  refine (seq_nx (ρ1 := [some T, some (.int p), some (.int (ia * 256 + ib)), some (.int (p + (ia * 256 + ib) + 8))]) (A1 := A) ?_).trans ?_
  · simp only [EVa, List.getElem?_cons_zero, List.getElem?_cons_succ, List.set_cons_zero, List.set_cons_succ, bind_ok, lift_ok, List.length_cons, List.length_nil, Nat.reduceAdd, Nat.reduceLeDiff, ↓reduceIte, if_true, if_false, Bool.false_eq_true, fAdd]
  refine (seq_rt (d := .str "cut") (A1 := A) ?_)
  simp only [EVa, List.getElem?_cons_zero, List.getElem?_cons_succ, List.set_cons_zero, List.set_cons_succ, bind_ok, lift_ok, List.length_cons, List.length_nil, Nat.reduceAdd, Nat.reduceLeDiff, ↓reduceIte, if_true, if_false, Bool.false_eq_true, hl, fLt, fI0, decide_eq_true h3]
theorem fault_g4 {U U' V W : D} {k : Bool} (hl : fLen [T] A = .ok (.int n) A) (h1 : ¬ n < p + 4) (x0 : fIx T (.int p) A = .ok (.int ia) A) (x1 : fIx T (.int (p + 1)) A = .ok (.int ib) A) (x2 : fIx T (.int (p + 2)) A = .ok (.int ic) A) (x3 : fIx T (.int (p + 3)) A = .ok (.int id) A)
    (ca : CMul ia 256) (cc : CMul ic 256) (h2 : ia * 256 + ib + ic * 256 + id = 65535) (h3 : ¬ n < p + (ia * 256 + ib) + 8)
    (y1 : fSl T (some (p + (ia * 256 + ib) + 8 - 4)) (some (p + (ia * 256 + ib) + 8)) A = .ok U A) (y2 : fTup [U] A = .ok U' A) (y3 : fSl T (some p) (some (p + (ia * 256 + ib) + 8 - 4)) A = .ok V A) (y4 : S [V] A = .ok W A) (y5 : fEq false U' W A = .ok (.bl k) A) :
    faultM S [T, .int p] A = .ok (if k then .non else .str "broken") A := by
  unfold faultM
  refine fun_rt ?_
  refine (seq_nx (ρ1 := [some T, some (.int p), none, none]) (A1 := A) ?_).trans ?_
  · simp only [EVa, List.getElem?_cons_zero, List.getElem?_cons_succ, List.set_cons_zero, List.set_cons_succ, bind_ok, lift_ok, List.length_cons, List.length_nil, Nat.reduceAdd, Nat.reduceLeDiff, ↓reduceIte, if_true, if_false, Bool.false_eq_true, List.map_cons, List.map_nil, List.replicate, List.cons_append, List.nil_append, Nat.reduceSub, hl, fAdd, fLt, fI0, decide_eq_false h1]
  refine (seq_nx (ρ1 := [some T, some (.int p), some (.int (ia * 256 + ib)), none]) (A1 := A) ?_).trans ?_
  · simp only [EVa, List.getElem?_cons_zero, List.getElem?_cons_succ, List.set_cons_zero, List.set_cons_succ, bind_ok, lift_ok, List.length_cons, List.length_nil, Nat.reduceAdd, Nat.reduceLeDiff, ↓reduceIte, if_true, if_false, Bool.false_eq_true, x0, x1, fAdd, fMulA, fI, ca]
  refine (seq_nx (ρ1 := [some T, some (.int p), some (.int (ia * 256 + ib)), none]) (A1 := A) ?_).trans ?_
  · simp only [EVa, List.getElem?_cons_zero, List.getElem?_cons_succ, List.set_cons_zero, List.set_cons_succ, bind_ok, lift_ok, List.length_cons, List.length_nil, Nat.reduceAdd, Nat.reduceLeDiff, ↓reduceIte, if_true, if_false, Bool.false_eq_true, x2, x3, fAdd, fMulA, fI, cc, eq_ints, decide_eq_true h2, Bool.not_true]
  refine (seq_nx (ρ1 := [some T, some (.int p), some (.int (ia * 256 + ib)), some (.int (p + (ia * 256 + ib) + 8))]) (A1 := A) ?_).trans ?_
  · simp only [EVa, List.getElem?_cons_zero, List.getElem?_cons_succ, List.set_cons_zero, List.set_cons_succ, bind_ok, lift_ok, List.length_cons, List.length_nil, Nat.reduceAdd, Nat.reduceLeDiff, ↓reduceIte, if_true, if_false, Bool.false_eq_true, fAdd]
  refine (seq_nx (ρ1 := [some T, some (.int p), some (.int (ia * 256 + ib)), some (.int (p + (ia * 256 + ib) + 8))]) (A1 := A) ?_).trans ?_
  · simp only [EVa, List.getElem?_cons_zero, List.getElem?_cons_succ, List.set_cons_zero, List.set_cons_succ, bind_ok, lift_ok, List.length_cons, List.length_nil, Nat.reduceAdd, Nat.reduceLeDiff, ↓reduceIte, if_true, if_false, Bool.false_eq_true, hl, fLt, fI0, decide_eq_false h3]
  simp only [EVa, List.getElem?_cons_zero, List.getElem?_cons_succ, List.set_cons_zero, List.set_cons_succ, bind_ok, lift_ok, List.length_cons, List.length_nil, Nat.reduceAdd, Nat.reduceLeDiff, ↓reduceIte, if_true, if_false, Bool.false_eq_true, fSub, fI0, y1, y2, y3, y4, y5]
  cases k <;> rfl
end
/-! ### what is told of the octets from a place on -/
def ffR : List Nat → D
  | a :: b :: c :: d :: r => if a * 256 + b + c * 256 + d ≠ 65535 then .str "broken" else if r.length < a * 256 + b + 4 then .str "cut" else
      if (r.drop (a * 256 + b)).take 4 = s4 ((a :: b :: c :: d :: r).take (a * 256 + b + 4)) then .non else .str "broken"
  | _ => .str "cut"
theorem eqvAll_ints : ∀ L M : List Int, PyData.eqvAll (L.map PyData.int) (M.map PyData.int) = decide (L = M)
  | [], [] => rfl
  | [], _ :: _ => rfl
  | _ :: _, [] => rfl
  | x :: L, y :: M => by
    simp only [List.map_cons, PyData.eqvAll, PyData.eqv, eqvAll_ints L M]
    by_cases h : x = y <;> simp [h]
theorem cast_inj {L M : List Nat} : ((L.map fun n : Nat => (n : Int)) = M.map fun n : Nat => (n : Int)) ↔ L = M := by
  constructor
  · intro h
    exact List.map_inj_right (f := fun n : Nat => (n : Int)) (by intro a b h; exact Int.ofNat.inj h) |>.mp h
  · rintro rfl; rfl
theorem eq_tups {L M : List Nat} {A : AH} {neg : Bool} : fEq neg (.tup (dI L)) (.tup (dI M)) A = .ok (.bl (if neg then !decide (L = M) else decide (L = M))) A := by
  have e : cEq A (.tup (dI L)) (.tup (dI M)) = some (decide (L = M)) := by
    unfold cEq
    simp only [dI_ints, toPyA, toPy, toPys_ints, Option.map_some, shaped_tints, and_self, if_true, PyData.eqv, eqvAll_ints, cast_inj]
  unfold fEq
  rw [e]
theorem ix_dI {os : List Nat} {k v : Nat} {j : Int} {A : AH} (h : os[k]? = some v) (hj : j = k) : fIx (.tup (dI os)) (.int j) A = .ok (.int v) A := by
  subst hj
  refine ix_tup (atI_nat ?_)
  simp [dI, h]
theorem cut_nat {xs : List D} {lo hi : Nat} (h1 : lo ≤ hi) (h2 : hi ≤ xs.length) : cutD xs (some (lo : Int)) (some (hi : Int)) = (xs.drop lo).take (hi - lo) := by
  unfold cutD
  rw [HT.sIx_nat, HT.sIx_nat, Nat.min_eq_left h2, Nat.min_eq_left (Nat.le_trans h1 h2)]
theorem sl_dI {os : List Nat} {lo hi : Nat} {i j : Int} {A : AH} (h1 : lo ≤ hi) (h2 : hi ≤ os.length) (e1 : i = lo) (e2 : j = hi) : fSl (.tup (dI os)) (some i) (some j) A = .ok (.tup (dI ((os.drop lo).take (hi - lo)))) A := by
  subst e1; subst e2
  simp only [fSl]
  rw [cut_nat h1 (by rw [dI_length]; exact h2), dI_drop, dI_take]
theorem fault_ok {os : List Nat} {p : Nat} {A : AH} (hb : ∀ b ∈ os, b < 256) (hp : p ≤ os.length) : faultM (sumM checkM pairM) [.tup (dI os), .int p] A = .ok (ffR (os.drop p)) A := by
  by_cases h4 : os.length < p + 4
  · rw [fault_g1 len_tup (by omega)]
    have hl : (os.drop p).length < 4 := by rw [List.length_drop]; omega
    match hr : os.drop p, hl with
    | [], _ => rfl
    | [_], _ => rfl
    | [_, _], _ => rfl
    | [_, _, _], _ => rfl
    | _ :: _ :: _ :: _ :: _, hl => simp at hl; omega
  · have hl : 4 ≤ (os.drop p).length := by rw [List.length_drop]; omega
    match hr : os.drop p, hl with
    | a :: b :: c :: d :: r, _ =>
      have hi : ∀ i : Nat, os[p + i]? = (a :: b :: c :: d :: r)[i]? := fun i => by rw [← hr, List.getElem?_drop]
      have hrl : os.length = p + (r.length + 4) := by
        have := congrArg List.length hr
        simp at this
        omega
      have hm : ∀ (i v : Nat), os[p + i]? = some v → v < 256 := fun i v h => hb v (List.mem_of_getElem? h)
      have ga : os[p]? = some a := hi 0
      have gb : os[p + 1]? = some b := hi 1
      have gc : os[p + 2]? = some c := hi 2
      have gd : os[p + 3]? = some d := hi 3
      have ba := hm 0 a ga
      have bc := hm 2 c gc
      have ca : CMul (a : Int) 256 := .inl ⟨by omega, by omega⟩
      have cc : CMul (c : Int) 256 := .inl ⟨by omega, by omega⟩
      have x0 := ix_dI (j := (p : Int)) (A := A) ga rfl
      have x1 := ix_dI (j := (p : Int) + 1) (A := A) gb (by omega)
      have x2 := ix_dI (j := (p : Int) + 2) (A := A) gc (by omega)
      have x3 := ix_dI (j := (p : Int) + 3) (A := A) gd (by omega)
      have h1 : ¬ (os.length : Int) < (p : Int) + 4 := by omega
      by_cases h2 : a * 256 + b + c * 256 + d = 65535
      · by_cases h3 : r.length < a * 256 + b + 4
        · rw [fault_g3 len_tup h1 x0 x1 x2 x3 ca cc (by omega) (by omega)]
          simp only [ffR, h2, ne_eq, not_true_eq_false, if_false, h3, if_true]
        · have hd1 : (os.drop (p + (a * 256 + b) + 4)).take 4 = (r.drop (a * 256 + b)).take 4 := by
            have : os.drop (p + (a * 256 + b) + 4) = r.drop (a * 256 + b) := by
              rw [show p + (a * 256 + b) + 4 = p + (a * 256 + b + 4) by omega, ← List.drop_drop, hr]
              rfl
            rw [this]
          have y1 := sl_dI (os := os) (A := A) (lo := p + (a * 256 + b) + 4) (hi := p + (a * 256 + b) + 8) (i := (p : Int) + ((a : Int) * 256 + b) + 8 - 4) (j := (p : Int) + ((a : Int) * 256 + b) + 8) (by omega) (by omega) (by omega) (by omega)
          have y3 := sl_dI (os := os) (A := A) (lo := p) (hi := p + (a * 256 + b) + 4) (i := (p : Int)) (j := (p : Int) + ((a : Int) * 256 + b) + 8 - 4) (by omega) (by omega) rfl (by omega)
          rw [show p + (a * 256 + b) + 8 - (p + (a * 256 + b) + 4) = 4 by omega, hd1] at y1
          rw [show p + (a * 256 + b) + 4 - p = a * 256 + b + 4 by omega, hr] at y3
          rw [fault_g4 len_tup h1 x0 x1 x2 x3 ca cc (by omega) (by omega) y1 tup_tup y3 sum_ok eq_tups]
          simp only [ffR, h2, ne_eq, not_true_eq_false, if_false, h3]
          by_cases h5 : (r.drop (a * 256 + b)).take 4 = s4 ((a :: b :: c :: d :: r).take (a * 256 + b + 4))
          · rw [if_pos h5, decide_eq_true h5]; rfl
          · rw [if_neg h5, decide_eq_false h5]; rfl
      · rw [fault_g2 len_tup h1 x0 x1 x2 x3 ca cc (by omega)]
        simp only [ffR, ne_eq, h2, not_false_eq_true, if_true]
end DM
end
section
set_option maxHeartbeats 1000000
namespace DM
open PySem PySem.Spec PyProof.Rows L2
noncomputable def getM (c_frame_fault : List D → AH → Res D) : List D → AH → Res D := mFun 4 (mSeq (mSet 2 (mCallF 2 c_frame_fault (mCons (mVar 0) (mCons (mVar 1) (mNil))))) (mSeq (mIfS (mTst
    (mOp (fIsN true) (mVar 2) (mK .non))) (mRaise "Refused" "word" (mVar 2)) (mNext)) (mSeq (mSet 3 (mOp fAdd (mOp fAdd (mOp fAdd (mVar 1) (mOp fMulA (mOp fIx (mVar 0) (mVar 1)) (mK (.int 256)))) (mOp fIx (mVar 0) (mOp fAdd (mVar
    1) (mK (.int 1))))) (mK (.int 8)))) (mRet (mTup (mCons (mCall fTup (mCons (mSl (mVar 0) (mSome (mOp fAdd (mVar 1) (mK (.int 4)))) (mSome (mOp fSub (mVar 3) (mK (.int 4))))) (mNil))) (mCons (mVar 3)
    (mNil))))))))
def rdBody (c_frame_fault : List D → AH → Res D) (c_get_frame : List D → AH → Res D) : MS := (mSeq (mAsg (.tp [.nm 4, .nm 2]) (mCallF 2
    c_get_frame (mCons (mVar 0) (mCons (mVar 2) (mNil))))) (mSeq (mDrop (mMet fApp (mVar 1) (mCons (mVar 4) (mNil)))) (mSet 3 (mCallF 2 c_frame_fault (mCons (mVar 0) (mCons (mVar 2) (mNil)))))))
def rdTst : MT := mTst (mOp (fIsN false) (mVar 3) (mK .non))
noncomputable def readM (c_frame_fault : List D → AH → Res D) (c_get_frame : List D → AH → Res D) : List D → AH → Res D := mFun 5 (mSeq (mPar3 1 2 3 (mCons (mNew (mNil)) (mCons (mK (.int 0))
    (mCons (mCallF 2 c_frame_fault (mCons (mVar 0) (mCons (mK (.int 0)) (mNil)))) (mNil))))) (mSeq (mWhile rdTst (rdBody c_frame_fault c_get_frame)) (mRet
    (mTup (mCons (mCall fTup (mCons (mVar 1) (mNil))) (mCons (mVar 2) (mCons (mIf (mTst (mOp (fEq false) (mVar 2) (mCall fLen (mCons (mVar 0) (mNil))))) (mK (.str "whole")) (mVar 3)) (mNil))))))))
section
variable {F G : List D → AH → Res D} {T U U' : D} {A : AH} {p n ia ib ic id : Int}
theorem get_g (hf : F [T, .int p] A = .ok .non A) (x0 : fIx T (.int p) A = .ok (.int ia) A) (x1 : fIx T (.int (p + 1)) A = .ok (.int ib) A) (ca : CMul ia 256)
    (y1 : fSl T (some (p + 4)) (some (p + ia * 256 + ib + 8 - 4)) A = .ok U A) (y2 : fTup [U] A = .ok U' A) : getM F [T, .int p] A = .ok (.tup [U', .int (p + ia * 256 + ib + 8)]) A := by
  unfold getM
  refine fun_rt ?_
  refine (seq_nx (ρ1 := [some T, some (.int p), some .non, none]) (A1 := A) ?_).trans ?_
  · simp only [EVa, List.getElem?_cons_zero, List.getElem?_cons_succ, List.set_cons_zero, List.set_cons_succ, bind_ok, lift_ok, List.length_cons, List.length_nil, Nat.reduceAdd, Nat.reduceLeDiff, ↓reduceIte, if_true, if_false, Bool.false_eq_true, List.map_cons, List.map_nil, List.replicate, List.cons_append, List.nil_append, Nat.reduceSub, hf]
  refine (seq_nx (ρ1 := [some T, some (.int p), some .non, none]) (A1 := A) ?_).trans ?_
  · simp only [EVa, List.getElem?_cons_zero, List.getElem?_cons_succ, List.set_cons_zero, List.set_cons_succ, bind_ok, lift_ok, List.length_cons, List.length_nil, Nat.reduceAdd, Nat.reduceLeDiff, ↓reduceIte, if_true, if_false, Bool.false_eq_true, fIsN, isNon, Bool.not_true]
  refine (seq_nx (ρ1 := [some T, some (.int p), some .non, some (.int (p + ia * 256 + ib + 8))]) (A1 := A) ?_).trans ?_
  · simp only [EVa, List.getElem?_cons_zero, List.getElem?_cons_succ, List.set_cons_zero, List.set_cons_succ, bind_ok, lift_ok, List.length_cons, List.length_nil, Nat.reduceAdd, Nat.reduceLeDiff, ↓reduceIte, if_true, if_false, Bool.false_eq_true, x0, x1, fAdd, fMulA, fI, ca]
  simp only [EVa, List.getElem?_cons_zero, List.getElem?_cons_succ, List.set_cons_zero, List.set_cons_succ, bind_ok, lift_ok, List.length_cons, List.length_nil, Nat.reduceAdd, Nat.reduceLeDiff, ↓reduceIte, if_true, if_false, Bool.false_eq_true, fAdd, fSub, fI0, y1, y2]
theorem bind_pair {x y : D} {i j : Nat} {ρ : DM.Env} : bindT (.tp [.nm i, .nm j]) (.tup [x, y]) ρ = some ((ρ.set i (some x)).set j (some y)) := rfl
theorem read_turn {b w : D} {e : Int} {n : Nat} {xs : List D} (hA : A[n]? = some (.lst xs)) (hx : xs.length < 16777216) (hg : G [T, .int p] A = .ok (.tup [b, .int e]) A) (hf : F [T, .int e] (A.set n (.lst (xs ++ [b]))) = .ok w (A.set n (.lst (xs ++ [b])))) {o : Option D} :
    rdBody F G [some T, some (.ref n), some (.int p), some .non, o] A = .nx [some T, some (.ref n), some (.int e), some w, some b] (A.set n (.lst (xs ++ [b]))) := by
  unfold rdBody
  refine (seq_nx (ρ1 := [some T, some (.ref n), some (.int e), some .non, some b]) (A1 := A) ?_).trans ?_
  · simp only [EVa, List.getElem?_cons_zero, List.getElem?_cons_succ, List.set_cons_zero, List.set_cons_succ, bind_ok, lift_ok, List.length_cons, List.length_nil, Nat.reduceAdd, Nat.reduceLeDiff, ↓reduceIte, if_true, if_false, Bool.false_eq_true, hg, bind_pair]
  refine (seq_nx (ρ1 := [some T, some (.ref n), some (.int e), some .non, some b]) (A1 := A.set n (.lst (xs ++ [b]))) ?_).trans ?_
  · simp only [EVa, List.getElem?_cons_zero, List.getElem?_cons_succ, List.set_cons_zero, List.set_cons_succ, bind_ok, lift_ok, List.length_cons, List.length_nil, Nat.reduceAdd, Nat.reduceLeDiff, ↓reduceIte, if_true, if_false, Bool.false_eq_true, fApp, hA, hx]
  simp only [EVa, List.getElem?_cons_zero, List.getElem?_cons_succ, List.set_cons_zero, List.set_cons_succ, bind_ok, lift_ok, List.length_cons, List.length_nil, Nat.reduceAdd, Nat.reduceLeDiff, ↓reduceIte, if_true, if_false, Bool.false_eq_true, hf]
theorem read_tst {x0 x1 x2 x4 : Option D} {w : D} : rdTst [x0, x1, x2, some w, x4] A = .ok (isNon w) A := by
  unfold rdTst
  simp only [EVa, List.getElem?_cons_zero, List.getElem?_cons_succ, List.set_cons_zero, List.set_cons_succ, bind_ok, lift_ok, List.length_cons, List.length_nil, Nat.reduceAdd, Nat.reduceLeDiff, ↓reduceIte, if_true, if_false, Bool.false_eq_true, fIsN]
theorem eq_len {i j : Int} : fEq false (.int i) (.int j) A = .ok (.bl (decide (i = j))) A := rfl
end
/-! ### frames told and read -/
theorem hd4_app (b r : List Nat) : hd4 b ++ r = (b.length / 256) :: (b.length % 256) :: ((65535 - b.length) / 256) :: ((65535 - b.length) % 256) :: r := rfl
theorem pf_eq (b : List Nat) : pf b = (b.length / 256) :: (b.length % 256) :: ((65535 - b.length) / 256) :: ((65535 - b.length) % 256) :: (b ++ s4 (hd4 b ++ b)) := by
  unfold pf
  rw [List.append_assoc, hd4_app]
theorem s4_length (os : List Nat) : (s4 os).length = 4 := rfl
theorem ffR_cons {a b c d : Nat} {r : List Nat} : ffR (a :: b :: c :: d :: r) = if a * 256 + b + c * 256 + d ≠ 65535 then .str "broken" else if r.length < a * 256 + b + 4 then .str "cut" else if (r.drop (a * 256 + b)).take 4 = s4 ((a :: b :: c :: d :: r).take (a * 256 + b + 4)) then .non else .str "broken" := rfl
theorem ffR_whole {b rest : List Nat} (hb : b.length ≤ 65535) : ffR (pf b ++ rest) = .non := by
  rw [pf_eq]
  simp only [List.cons_append]
  rw [ffR_cons]
  have e : b.length / 256 * 256 + b.length % 256 = b.length := by omega
  rw [if_neg (by omega), e, if_neg (by simp [s4_length])]
  rw [if_pos]
  rw [← hd4_app, List.append_assoc, List.drop_left, List.take_left' (s4_length _), show b.length + 4 = (hd4 b ++ b).length by simp [hd4]]
  rw [← List.append_assoc, List.take_left]
theorem s4_oct (os : List Nat) : ∀ b ∈ s4 os, b < 256 := by
  have h : cs os < 4294967296 := by
    suffices hh : ∀ (os : List Nat) (t : Nat), t < 4294967296 → os.foldl (fun t o => (t * 256 + o) % 4294967291) t < 4294967296 from hh os 1 (by decide)
    intro os
    induction os with
    | nil => intro t h; exact h
    | cons o os ih =>
      intro t _
      rw [List.foldl_cons]
      exact ih _ (Nat.lt_trans (Nat.mod_lt _ (by decide)) (by decide))
  intro b hb
  simp only [s4, List.mem_cons, List.not_mem_nil, or_false] at hb
  omega
theorem pf_oct {b : List Nat} (hb : b.length ≤ 65535) (h : ∀ x ∈ b, x < 256) : ∀ x ∈ pf b, x < 256 := by
  intro x hx
  unfold pf hd4 at hx
  rw [List.mem_append, List.mem_append] at hx
  rcases hx with (hx | hx) | hx
  · simp only [List.mem_cons, List.not_mem_nil, or_false] at hx
    omega
  · exact h x hx
  · exact s4_oct _ x hx
theorem get_ok {os b rest : List Nat} {p : Nat} {A : AH} (ho : ∀ x ∈ os, x < 256) (hb : b.length ≤ 65535) (hr : os.drop p = pf b ++ rest) :
    getM (faultM (sumM checkM pairM)) [.tup (dI os), .int p] A = .ok (.tup [.tup (dI b), .int ((p + b.length + 8 : Nat) : Int)]) A := by
  have hl : os.length - p = b.length + 8 + rest.length := by
    rw [← List.length_drop, hr, List.length_append, pf_length]
  have hp : p ≤ os.length := by omega
  have hi : ∀ i : Nat, os[p + i]? = (pf b ++ rest)[i]? := fun i => by rw [← hr, List.getElem?_drop]
  have ga : os[p]? = some (b.length / 256) := by rw [show p = p + 0 by omega, hi 0, pf_eq]; rfl
  have gb : os[p + 1]? = some (b.length % 256) := by rw [hi 1, pf_eq]; rfl
  have hd : (os.drop (p + 4)).take b.length = b := by
    rw [← List.drop_drop, hr, pf_eq]
    simp only [List.cons_append, List.drop_succ_cons, List.drop_zero, List.append_assoc]
    exact List.take_left
  have x0 := ix_dI (j := (p : Int)) (A := A) ga rfl
  have x1 := ix_dI (j := (p : Int) + 1) (A := A) gb (by omega)
  have hf : faultM (sumM checkM pairM) [.tup (dI os), .int p] A = .ok .non A := by
    rw [fault_ok ho hp, hr, ffR_whole hb]
  have y1 := sl_dI (os := os) (A := A) (lo := p + 4) (hi := p + 4 + b.length) (i := (p : Int) + 4) (j := (p : Int) + ((b.length / 256 : Nat) : Int) * 256 + ((b.length % 256 : Nat) : Int) + 8 - 4) (by omega) (by omega) (by omega) (by omega)
  rw [show p + 4 + b.length - (p + 4) = b.length by omega, hd] at y1
  rw [get_g hf x0 x1 (.inl ⟨by omega, by omega⟩) y1 tup_tup, show (p : Int) + ((b.length / 256 : Nat) : Int) * 256 + ((b.length % 256 : Nat) : Int) + 8 = ((p + b.length + 8 : Nat) : Int) by omega]
def tups (bs : List (List Nat)) : List D := bs.map fun b => D.tup (dI b)
def tot (bs : List (List Nat)) : Nat := (bs.map fun b => b.length + 8).sum
theorem set_get {A : AH} {n : Nat} {o u : AO} (h : A[n]? = some o) : (A.set n u)[n]? = some u := List.getElem?_set_self (List.getElem?_eq_some_iff.mp h).1
theorem read_go {os rest : List Nat} {w : D} {n : Nat} (ho : ∀ x ∈ os, x < 256) (hw : ffR rest = w) (hn : isNon w = false) : ∀ (bs : List (List Nat)) (p : Nat) (xs : List D) (A : AH) (o : Option D), (∀ b ∈ bs, b.length ≤ 65535) → os.drop p = (bs.map pf).flatten ++ rest → p ≤ os.length → A[n]? = some (.lst xs) → xs.length + bs.length < 16777216 →
    ∃ o', iterW rdTst (rdBody (faultM (sumM checkM pairM)) (getM (faultM (sumM checkM pairM)))) (bs.length + 1) [some (.tup (dI os)), some (.ref n), some (.int p), some (ffR (os.drop p)), o] A
      = .nx [some (.tup (dI os)), some (.ref n), some (.int ((p + tot bs : Nat) : Int)), some w, o'] (A.set n (.lst (xs ++ tups bs)))
  | [], p, xs, A, o, _, hr, hp, hA, _ => by
    refine ⟨o, ?_⟩
    rw [hr]
    have e : A.set n (.lst (xs ++ tups [])) = A := by
      have h1 := List.getElem?_eq_some_iff.mp hA
      rw [show xs ++ tups [] = xs by simp [tups], ← h1.2]
      exact List.set_getElem_self h1.1
    rw [e]
    simp only [List.map_nil, List.flatten_nil, List.nil_append, hw]
    unfold iterW
    rw [read_tst, hn]
    simp [tot]
  | b :: bs, p, xs, A, o, hb, hr, hp, hA, hl => by
    have hb1 : b.length ≤ 65535 := hb b List.mem_cons_self
    simp only [List.map_cons, List.flatten_cons, List.append_assoc] at hr
    simp only [List.length_cons] at hl
    have hlen : os.length - p = b.length + 8 + ((bs.map pf).flatten ++ rest).length := by
      rw [← List.length_drop, hr, List.length_append, pf_length]
    have hr2 : os.drop (p + b.length + 8) = (bs.map pf).flatten ++ rest := by
      rw [Nat.add_assoc, ← List.drop_drop, hr, ← pf_length b, List.drop_left]
    obtain ⟨o', ih⟩ := read_go ho hw hn bs (p + b.length + 8) (xs ++ [.tup (dI b)]) (A.set n (.lst (xs ++ [.tup (dI b)]))) (some (.tup (dI b))) (fun x hx => hb x (List.mem_cons_of_mem _ hx)) hr2 (by omega) (set_get hA) (by simp; omega)
    refine ⟨o', ?_⟩
    have t1 : ffR (os.drop p) = .non := by rw [hr, ffR_whole hb1]
    rw [t1]
    have turn := read_turn (F := faultM (sumM checkM pairM)) (G := getM (faultM (sumM checkM pairM))) (o := o) (T := .tup (dI os)) (w := ffR (os.drop (p + b.length + 8))) hA (by omega) (get_ok (A := A) ho hb1 hr) (fault_ok ho (by omega))
    rw [List.length_cons]
    conv => lhs; unfold iterW
    rw [read_tst]
    simp only [isNon, turn]
    rw [ih, List.set_set]
    simp only [tot, tups, List.map_cons, List.sum_cons, List.append_assoc, List.cons_append, List.nil_append]
    rw [show p + b.length + 8 + (bs.map fun b => b.length + 8).sum = p + (b.length + 8 + (bs.map fun b => b.length + 8).sum) by omega]
/-- what read_frames tells -/
def rdD (bs : List (List Nat)) (full : Bool) (w : D) : D := .tup [.tup (tups bs), .int ((tot bs : Nat) : Int), if full then .str "whole" else w]
theorem read_ok {os rest : List Nat} {w : D} {bs : List (List Nat)} {A : AH} (ho : ∀ x ∈ os, x < 256) (hw : ffR rest = w) (hn : isNon w = false) (hb : ∀ b ∈ bs, b.length ≤ 65535) (hr : os = (bs.map pf).flatten ++ rest) (hl : bs.length < 16777216) :
    readM (faultM (sumM checkM pairM)) (getM (faultM (sumM checkM pairM))) [.tup (dI os)] A = .ok (rdD bs (decide (tot bs = os.length)) w) (A ++ [.lst (tups bs)]) := by
  have hA : (A ++ [AO.lst []])[A.length]? = some (.lst []) := by simp
  obtain ⟨o', h⟩ := read_go (n := A.length) ho hw hn bs 0 [] (A ++ [AO.lst []]) none hb (by rw [List.drop_zero]; exact hr) (by omega) hA (by simpa using hl)
  have hset : (A ++ [AO.lst []]).set A.length (.lst (tups bs)) = A ++ [.lst (tups bs)] := by
    rw [List.set_append_right _ _ (Nat.le_refl _)]; simp
  rw [List.nil_append, hset, Nat.zero_add, List.drop_zero] at h
  have f0 := fault_ok (p := 0) (A := A ++ [AO.lst []]) ho (Nat.zero_le _)
  rw [List.drop_zero] at f0
  unfold readM
  refine fun_rt ?_
  refine (seq_nx (ρ1 := [some (.tup (dI os)), some (.ref A.length), some (.int ((0 : Nat) : Int)), some (ffR os), none]) (A1 := A ++ [AO.lst []]) ?_).trans ?_
  · simp only [EVa, List.getElem?_cons_zero, List.getElem?_cons_succ, List.set_cons_zero, List.set_cons_succ, bind_ok, lift_ok, List.length_cons, List.length_nil, Nat.reduceAdd, Nat.reduceLeDiff, ↓reduceIte, if_true, if_false, Bool.false_eq_true, List.map_cons, List.map_nil, List.replicate, List.cons_append, List.nil_append, Nat.reduceSub]
    rw [show (D.int 0) = .int ((0 : Nat) : Int) from rfl, f0]
    simp only [bind_ok, lift_ok, List.set_cons_zero, List.set_cons_succ]
  refine (seq_nx (A1 := A ++ [.lst (tups bs)]) (mWhile_eq h (by intro z; cases z))).trans ?_
  have hx : (A ++ [AO.lst (tups bs)])[A.length]? = some (.lst (tups bs)) := by simp
  have tu : fTup [.ref A.length] (A ++ [AO.lst (tups bs)]) = .ok (.tup (tups bs)) (A ++ [AO.lst (tups bs)]) := by
    simp only [fTup, seqOf, hx]
  have ed : decide (((tot bs : Nat) : Int) = ((os.length : Nat) : Int)) = decide (tot bs = os.length) := by
    by_cases h : tot bs = os.length
    · rw [decide_eq_true h, decide_eq_true (by omega)]
    · rw [decide_eq_false h, decide_eq_false (by omega)]
  simp only [ev_ret, ev_tup, ev_cons, ev_call, ev_var, ev_if, ev_tst, ev_op, ev_nil, ev_K, List.getElem?_cons_zero, List.getElem?_cons_succ, bind_ok, tu, len_tup, eq_len, ed]
  unfold rdD
  cases decide (tot bs = os.length) <;> rfl
end DM
end
section
set_option maxHeartbeats 1000000
namespace DM
open PySem PySem.Spec PyProof.Rows L2
/-- data of few and small parts -/
structure Few (k w : Nat) (d : PyData) : Prop where
  lay : d.canLay0 = true
  short : d.leavesShort 13 = true
  sh : d.showable = true
  dep : d.depth ≤ k
  wt : d.weight ≤ w
theorem Few.mono {k w k' w' : Nat} {d : PyData} (h : Few k w d) (hk : k ≤ k') (hw : w ≤ w') : Few k' w' d := ⟨h.lay, h.short, h.sh, Nat.le_trans h.dep hk, Nat.le_trans h.wt hw⟩
mutual
theorem eqv_self : ∀ d : PyData, d.canLay0 = true → PyData.eqv d d = true
  | .none, _ => rfl
  | .bool b, _ => by cases b <;> rfl
  | .int i, _ => by simp [PyData.eqv]
  | .str x, _ => by simp [PyData.eqv]
  | .list xs, h => by
    simp only [PyData.eqv]
    exact eqvAll_self xs (by simpa only [PyData.canLay0] using h)
  | .tuple xs, h => by
    simp only [PyData.eqv]
    exact eqvAll_self xs (by simpa only [PyData.canLay0] using h)
  | .dict kvs, h => by simp [PyData.canLay0] at h
theorem eqvAll_self : ∀ xs : List PyData, PyData.canLayAll0 xs = true → PyData.eqvAll xs xs = true
  | [], _ => rfl
  | x :: xs, h => by
    simp only [PyData.canLayAll0, Bool.and_eq_true] at h
    simp only [PyData.eqvAll, eqv_self x h.1, eqvAll_self xs h.2, Bool.and_self]
end
theorem Few.shaped {k w : Nat} {d : PyData} (h : Few k w d) (hk : k ≤ 64) : SeqAt.shaped d = true := by
  unfold SeqAt.shaped
  rw [h.lay, decide_eq_true (Nat.le_trans h.dep hk)]
  rfl
theorem toPyA_of {d : D} {q : PyData} {A : AH} (h : toPy d = some q) : toPyA A d = some q := by unfold toPyA; rw [h]
/-- == of tuples and lists -/
def notSc : D → Bool
  | .tup _ => true
  | .lst _ => true
  | .ref _ => true
  | .non => true
  | _ => false
/-! ### octets and bodies -/
end DM
end
section
set_option maxHeartbeats 1000000
namespace DM
open PySem PySem.Spec PyProof.Rows L2
/-- data of small parts; B: how long a leaf is shown -/
structure FewB (B k w : Nat) (d : PyData) : Prop where
  lay : d.canLay0 = true
  short : d.leavesShort B = true
  sh : d.showable = true
  dep : d.depth ≤ k
  wt : d.weight ≤ w
theorem FewB.mono {B k w k' w' : Nat} {d : PyData} (h : FewB B k w d) (hk : k ≤ k') (hw : w ≤ w') : FewB B k' w' d := ⟨h.lay, h.short, h.sh, Nat.le_trans h.dep hk, Nat.le_trans h.wt hw⟩
theorem fewB_int {B : Nat} {i : Int} (hB : 20 ≤ B) (h : i.natAbs < 10 ^ 19) : FewB B 0 64 (.int i) := by
  have hl : i.natAbs.log2 < 64 := by
    by_cases h0 : i.natAbs = 0
    · rw [h0]; decide
    · exact (Nat.log2_lt h0).mpr (Nat.lt_trans h (by decide))
  refine ⟨rfl, ?_, ?_, Nat.le_refl _, ?_⟩
  · simp only [PyData.leavesShort]
    have e := int_text_length_le10 (k := 19) (by decide) h
    refine decide_eq_true ?_
    show (Str.ofString (toString i)).length ≤ B
    rw [PySem.ofString_length]
    omega
  · simp only [PyData.showable]
    exact decide_eq_true (by omega)
  · simp only [PyData.weight]
    split <;> omega
theorem fewB_none {B : Nat} : FewB B 0 64 .none := ⟨rfl, rfl, rfl, Nat.le_refl _, by simp [PyData.weight]⟩
theorem fewB_bool {B : Nat} {b : Bool} : FewB B 0 64 (.bool b) := ⟨rfl, rfl, rfl, Nat.le_refl _, by simp [PyData.weight]⟩
theorem fewB_str {B : Nat} {x : Str} (h1 : PyData.canLay0 (.str x) = true) (h2 : (x.cps.toList.all fun c => decide (c < 16 ^ 8)) = true) (h3 : x.cps.size ≤ 64) : FewB B 0 64 (.str x) := ⟨h1, h2, rfl, Nat.zero_le _, h3⟩
theorem fewB_all {B k w : Nat} : ∀ xs : List PyData, (∀ x ∈ xs, FewB B k w x) → PyData.canLayAll0 xs = true ∧ PyData.leavesShortAll B xs = true ∧ PyData.showableAll xs = true ∧ PyData.depthAll xs ≤ k ∧ PyData.weightAll xs ≤ xs.length * (w + 1)
  | [], _ => ⟨rfl, rfl, rfl, Nat.zero_le _, by simp [PyData.weightAll]⟩
  | x :: xs, h => by
    obtain ⟨a, b, c, d, e⟩ := fewB_all xs fun y hy => h y (List.mem_cons_of_mem _ hy)
    have f := h x List.mem_cons_self
    refine ⟨?_, ?_, ?_, ?_, ?_⟩
    · simp only [PyData.canLayAll0, f.lay, a, Bool.and_self]
    · simp only [PyData.leavesShortAll, f.short, b, Bool.and_self]
    · simp only [PyData.showableAll, f.sh, c, Bool.and_self]
    · simp only [PyData.depthAll]
      exact Nat.max_le.mpr ⟨f.dep, d⟩
    · simp only [PyData.weightAll, List.length_cons, Nat.add_mul, Nat.one_mul]
      have := f.wt
      omega
theorem fewB_tuple {B k w : Nat} {xs : List PyData} (h : ∀ x ∈ xs, FewB B k w x) : FewB B (k + 1) (xs.length * (w + 1)) (.tuple xs) := by
  obtain ⟨a, b, c, d, e⟩ := fewB_all xs h
  exact ⟨by simpa only [PyData.canLay0] using a, by simpa only [PyData.leavesShort] using b, by simpa only [PyData.showable] using c, by simp only [PyData.depth]; omega, by simpa only [PyData.weight] using e⟩
theorem fewB_list {B k w : Nat} {xs : List PyData} (h : ∀ x ∈ xs, FewB B k w x) : FewB B (k + 1) (xs.length * (w + 1)) (.list xs) := by
  obtain ⟨a, b, c, d, e⟩ := fewB_all xs h
  exact ⟨by simpa only [PyData.canLay0] using a, by simpa only [PyData.leavesShort] using b, by simpa only [PyData.showable] using c, by simp only [PyData.depth]; omega, by simpa only [PyData.weight] using e⟩
theorem FewB.shaped {B k w : Nat} {d : PyData} (h : FewB B k w d) (hk : k ≤ 64) : SeqAt.shaped d = true := by
  unfold SeqAt.shaped
  rw [h.lay, decide_eq_true (Nat.le_trans h.dep hk)]
  rfl
theorem repr_fewB {B : Nat} {d : D} {q : PyData} {k w : Nat} {A : AH} (h : toPyA A d = some q) (f : FewB B k w q) (hk : k ≤ 32) (hB : 8 ≤ B) (hw : (B + 2) * w + B ≤ 16777216) : fRepr [d] A = .ok (.str q.shown) A := by
  have hs := PyData.shown_le B hB q f.short
  have h2 : (B + 2) * q.weight ≤ (B + 2) * w := Nat.mul_le_mul_left _ f.wt
  unfold fRepr
  simp only [h]
  exact if_pos ⟨f.sh, by omega, Nat.le_trans f.dep hk⟩
theorem eq_pyS {d e : D} {p q : PyData} {A : AH} (hd : toPyA A d = some p) (he : toPyA A e = some q) (h1 : notSc d = true) {neg : Bool} (hs1 : SeqAt.shaped p = true) (hs2 : SeqAt.shaped q = true) : fEq neg d e A = .ok (.bl (if neg then !PyData.eqv p q else PyData.eqv p q)) A := by
  have c : cEq A d e = some (PyData.eqv p q) := by
    unfold cEq
    split
    · cases h1
    · cases h1
    · cases h1
    · simp only [hd, he, hs1, hs2, and_self, if_true]
  unfold fEq
  rw [c]
theorem for_rt {iv : ItV} {all xs : List D} {x d : D} {t : Tg} {sb : MS} {ρ ρ1 : DM.Env} {A A2 : AH} (h : itemsOf A iv = some all) (hb : bindT t x ρ = some ρ1) (hs : sb ρ1 A = .rt d A2) : forGo iv all t sb (x :: xs) ρ A = .rt d A2 := by
  conv => lhs; unfold forGo
  rw [if_pos h, hb]
  simp only [hs]
theorem ev_aug {i : Nat} {f : D → D → AH → Res D} {me : ME} {ρ : DM.Env} {A : AH} : mAug i f me ρ A = (match ρ[i]? with
  | some (some x) => lift ((me ρ A).bind fun y A1 => f x y A1) ρ fun z A2 => .nx (ρ.set i (some z)) A2
  | _ => .no) := id rfl
end DM
end
section
set_option maxHeartbeats 1000000
namespace DM
open PySem PySem.Spec PyProof.Rows L2
/-! ### running rules: fields, methods, instances, dicts, lists that change, try -/
section
variable {ρ ρ1 : DM.Env} {A A1 A2 A3 : AH} {i j l n m k : Nat} {C f mname : Str} {d e x y : D} {xs ds es : List D} {fs : List (Str × D)} {kvs : List (Key × D)} {mf : List D → AH → Res D} {ma mb mc me mo mi mv : ME} {ms mk : MA} {sa sb : MS} {pm : List Nat} {key : Key}
theorem fld_run (ho : me ρ A = .ok (.ref k) A1) (hk : A1[k]? = some (.ins C fs)) (hf : fs.lookup f = some x) : mFld C f me ρ A = .ok x A1 := by
  unfold mFld
  rw [ho, bind_ok]
  simp only [hk, if_true, hf]
theorem setF_run (hv : mv ρ A = .ok y A1) (ho : mo ρ A1 = .ok (.ref k) A2) (hk : A2[k]? = some (.ins C fs)) (hl : fs.length < 1000) : mSetF C f mv mo ρ A = .nx ρ (A2.set k (.ins C (putFD f y fs))) := by
  unfold mSetF
  rw [hv]
  simp only [lift_ok, ho, hk, hl, and_self, if_true]
theorem addF_run {u v : Int} (ho : mo ρ A = .ok (.ref k) A1) (hk : A1[k]? = some (.ins C fs)) (hf : fs.lookup f = some (.int u)) (hv : mv ρ A1 = .ok (.int v) A2) (hk2 : A2[k]? = some (.ins C fs)) (hl : fs.length < 1000) :
    mAddF C f mo mv ρ A = .nx ρ (A2.set k (.ins C (putFD f (.int (u + v)) fs))) := by
  unfold mAddF
  rw [ho]
  simp only [lift_ok, hk, if_true, hf, hv, hk2, hl, and_self]
theorem meth_run (ho : mo ρ A = .ok (.ref k) A1) (hk : A1[k]? = some (.ins C fs)) (hf : fs.lookup mname = none) (ha : ms ρ A1 = .ok ds A2) (hn : ds.length + 1 = n) : mMeth C mname n mf mo ms ρ A = mf (.ref k :: ds) A2 := by
  unfold mMeth
  rw [ho, bind_ok]
  simp only [hk, hf, and_self, if_true, ha, bind_ok, List.length_cons, hn]
theorem ev_dict0 : mDict0 ρ A = .ok (.ref A.length) (A ++ [.dk []]) := id rfl
theorem dput_run (hv : mv ρ A = .ok y A1) (ho : mo ρ A1 = .ok (.ref k) A2) (hi : mi ρ A2 = .ok e A3) (hk : A3[k]? = some (.dk kvs)) (he : keyOf e = some key) (hl : kvs.length < 16777216) : mDPut mv mo mi ρ A = .nx ρ (A3.set k (.dk (putKD kvs key y))) := by
  unfold mDPut
  rw [hv]
  simp only [lift_ok, ho, hi, hk, he, hl, if_true]
theorem dget_run (h0 : A[k]? = some (.dk kvs)) (hk : keyOf e = some key) (hv : valD kvs key = some x) : fDGet (.ref k) e A = .ok x A := by
  simp only [fDGet, h0, hk, hv]
theorem comp_nil {iv : ItV} {all acc : List D} {t : Tg} {tt : MT} (hit : itemsOf A iv = some all) : compGo iv all t tt me ρ [] acc A = .ok acc A := by
  unfold compGo; rw [if_pos hit]
theorem comp_step {iv : ItV} {all acc xs : List D} {t : Tg} {tt : MT} (hit : itemsOf A iv = some all) (hb : bindT t x ρ = some ρ1) (ht : tt ρ1 A = .ok true A1) (hm : me ρ1 A1 = .ok y A2) :
    compGo iv all t tt me ρ (x :: xs) acc A = compGo iv all t tt me ρ xs (acc ++ [y]) A2 := by
  conv => lhs; unfold compGo
  rw [if_pos hit, hb]
  simp only [ht, hm]
end
theorem isi_ty {x : D} {A : AH} {n t : String} (ht : tyName A x = some t) (hn : n ∈ tyNames) : fIsi [x, .ty n] A = .ok (.bl (isB t n)) A := by
  simp only [fIsi, ht, hn, if_true]
theorem add_ii {a b : Int} {A : AH} : fAdd (.int a) (.int b) A = .ok (.int (a + b)) A := rfl
theorem sub_ii {a b : Int} {A : AH} : fSub (.int a) (.int b) A = .ok (.int (a - b)) A := rfl
theorem lt_ii {a b : Int} {A : AH} : fLt (.int a) (.int b) A = .ok (.bl (decide (a < b))) A := rfl
theorem le_ii {a b : Int} {A : AH} : fLe (.int a) (.int b) A = .ok (.bl (decide (a ≤ b))) A := rfl
theorem gt_ii {a b : Int} {A : AH} : fGt (.int a) (.int b) A = .ok (.bl (decide (b < a))) A := rfl
theorem ge_ii {a b : Int} {A : AH} : fGe (.int a) (.int b) A = .ok (.bl (decide (b ≤ a))) A := rfl
theorem div_ii {a b : Int} {A : AH} (h : CDiv a b) : fDiv (.int a) (.int b) A = .ok (.int (a / b)) A := by simp only [fDiv, fI, cdw_of h, if_true]
theorem mod_ii {a b : Int} {A : AH} (h : 0 < b) : fMod (.int a) (.int b) A = .ok (.int (a % b)) A := by simp only [fMod, fI, h, if_true]
theorem eq_ii {a b : Int} {A : AH} : fEq false (.int a) (.int b) A = .ok (.bl (decide (a = b))) A := rfl
theorem ne_ii {a b : Int} {A : AH} : fEq true (.int a) (.int b) A = .ok (.bl (!decide (a = b))) A := rfl
/-! ### a dict by its keys -/
theorem valD_nil (k : Key) : valD [] k = none := rfl
theorem valD_cons {a : Key} {x : D} {kvs : List (Key × D)} {k : Key} : valD ((a, x) :: kvs) k = if a = k then some x else valD kvs k := by
  unfold valD
  rw [List.find?_cons]
  by_cases h : a = k
  · simp [h]
  · simp [h]
theorem valD_append {xs ys : List (Key × D)} {k : Key} : valD (xs ++ ys) k = (valD xs k).or (valD ys k) := by
  induction xs with
  | nil => simp [valD_nil]
  | cons p xs ih =>
    obtain ⟨a, x⟩ := p
    rw [List.cons_append, valD_cons, valD_cons, ih]
    split <;> simp
theorem any_valD {kvs : List (Key × D)} {k : Key} : (kvs.any fun kv => decide (kv.1 = k)) = (valD kvs k).isSome := (valD_any k kvs).symm
theorem valD_put {kvs : List (Key × D)} {a k : Key} {x : D} : valD (putKD kvs a x) k = if a = k then some x else valD kvs k := by
  unfold putKD
  split
  · rename_i h
    rw [any_valD] at h
    induction kvs with
    | nil => simp [valD_nil] at h
    | cons p kvs ih =>
      obtain ⟨b, y⟩ := p
      rw [valD_cons] at h
      rw [List.map_cons]
      by_cases e : b = a
      · rw [if_pos e, valD_cons, valD_cons]
        subst e
        split
        · rfl
        · rename_i n
          by_cases hz : (valD kvs b).isSome = true
          · rw [ih hz, if_neg n]
          · have : ∀ kv ∈ kvs, kv.1 ≠ b := fun kv hkv z => hz (by
              rw [← any_valD]
              exact List.any_eq_true.mpr ⟨kv, hkv, by simp [z]⟩)
            rw [show (kvs.map fun kv => if kv.1 = b then (kv.1, x) else kv) = kvs from (List.map_congr_left (g := fun kv => kv) fun kv hkv => if_neg (this kv hkv)).trans (List.map_id' kvs)]
      · rw [if_neg e] at h ⊢
        rw [valD_cons, valD_cons, ih h]
        by_cases hbk : b = k
        · have : ¬ a = k := fun z => e (hbk.trans z.symm)
          simp [hbk, this]
        · simp [hbk]
  · rename_i h
    rw [any_valD] at h
    have hn : valD kvs a = none := by simpa using h
    rw [valD_append, valD_cons, valD_nil]
    by_cases e : a = k
    · subst e
      simp [hn]
    · simp [e]
theorem putKD_len {kvs : List (Key × D)} {a : Key} {x : D} : (putKD kvs a x).length ≤ kvs.length + 1 := by
  unfold putKD
  split <;> simp
end DM
end
section

end
section
namespace JR
open PySem PySem.Spec PyProof.Rows L2 DM
noncomputable def f_is_text : List D → AH → Res D := mFun 1 (mRet (mCall fIsi (mCons (mVar 0) (mCons (mK (.ty "str")) (mNil)))))
noncomputable def f_octets_behind : List D → AH → Res D := mFun 4 (mSeq (mAsg (.tp [.nm 2, .nm 3]) (mVar 1)) (mRet (mIf (mTst (mOp (fEq false) (mVar 2) (mK (.str "keep")))) (mSl (mVar 0) (mNone) (mSome
    (mVar 3))) (mOp fAdd (mVar 0) (mVar 3)))))
noncomputable def f_Files__add : List D → AH → Res D := mFun 3 (mIfS (mTst (mOp fGt (mCall fLen (mCons (mVar 2) (mNil))) (mK (.int 0)))) (mDrop (mMet fApp (mOp fIx (mFld "Files" "deeds" (mVar 0)) (mVar
    1)) (mCons (mTup (mCons (mK (.str "add")) (mCons (mCall fTup (mCons (mVar 2) (mNil))) (mNil)))) (mNil)))) (mNext))
noncomputable def b_Files__octets_of1 : MS := (mSet 2 (mCallF 2 f_octets_behind (mCons (mVar 2) (mCons (mVar 3) (mNil)))))
noncomputable def f_Files__octets_of : List D → AH → Res D := mFun 4 (mSeq (mSet 2 (mOp fIx (mFld "Files" "synced" (mVar 0)) (mVar 1))) (mSeq (mFor (mSq (mOp fIx (mFld "Files" "deeds" (mVar 0)) (mVar
    1))) (.nm 3) b_Files__octets_of1) (mRet (mVar 2))))
noncomputable def f_Files__keep : List D → AH → Res D := mFun 3 (mIfS (mTst (mOp fGt (mCall fLen (mCons (mMeth "Files" "octets_of" 2 f_Files__octets_of (mVar 0) (mCons (mVar 1) (mNil))) (mNil))) (mVar
    2))) (mDrop (mMet fApp (mOp fIx (mFld "Files" "deeds" (mVar 0)) (mVar 1)) (mCons (mTup (mCons (mK (.str "keep")) (mCons (mVar 2) (mNil)))) (mNil)))) (mNext))
noncomputable def f_Files__sync : List D → AH → Res D := mFun 2 (mSeq (mSto (mMeth "Files" "octets_of" 2 f_Files__octets_of (mVar 0) (mCons (mVar 1) (mNil))) (mFld "Files" "synced" (mVar 0)) (mVar 1))
    (mSto (mNew (mNil)) (mFld "Files" "deeds" (mVar 0)) (mVar 1)))
noncomputable def f_Files__disk : List D → AH → Res D := mFun 2 (mRet (mCall fTup (mCons (mLc false (mR1 (mCons (mK (.int 3)) (mNil))) (.nm 1) (mYes) (mMeth "Files" "octets_of" 2 f_Files__octets_of
    (mVar 0) (mCons (mVar 1) (mNil))) [1]) (mNil))))
noncomputable def b_map_of1 : MS := (mDPut (mVar 3) (mVar 1) (mVar 2))
noncomputable def f_map_of : List D → AH → Res D := mFun 4 (mSeq (mSet 1 (mDict0)) (mSeq (mFor (mSq (mVar 0)) (.tp [.nm 2, .nm 3]) b_map_of1) (mRet (mCall fTup (mCons (mLc false (mSq (mCall fSortD
    (mCons (mVar 1) (mNil)))) (.nm 2) (mTst (mOp (fIsN true) (mOp fDGet (mVar 1) (mVar 2)) (mK .non))) (mTup (mCons (mVar 2) (mCons (mOp fDGet (mVar 1) (mVar 2)) (mNil)))) [2]) (mNil))))))
noncomputable def f_octet_at : List D → AH → Res D := mFun 2 (mRet (mIf (mTst (mOp fLt (mVar 1) (mCall fLen (mCons (mVar 0) (mNil))))) (mOp fIx (mVar 0) (mVar 1)) (mK .non)))
noncomputable def t_put_number1 : MT := (mTst (mOp fGt (mVar 0) (mK (.int 127))))
noncomputable def b_put_number1 : MS := (mSeq (mDrop (mMet fApp (mVar 1) (mCons (mOp fAdd (mK (.int 128)) (mOp fAnd (mVar 0) (mK (.int 127)))) (mNil)))) (mAug 0 fShr (mK (.int 7))))
noncomputable def f_put_number : List D → AH → Res D := mFun 2 (mSeq (mSet 1 (mNew (mNil))) (mSeq (mWhile t_put_number1 b_put_number1) (mRet (mCall fTup (mCons (mOp fAddR (mVar 1) (mLst (mCons (mVar 0)
    (mNil)))) (mNil))))))
noncomputable def b_get_number1 : MS := (mSeq (mSet 4 (mCallF 2 f_octet_at (mCons (mVar 0) (mCons (mOp fAdd (mVar 1) (mVar 3)) (mNil))))) (mSeq (mIfS (mOr (mTst (mOp (fIsN false) (mVar 4) (mK .non)))
    (mAnd (mTst (mOp (fEq false) (mVar 4) (mK (.int 0)))) (mTst (mOp fGt (mVar 3) (mK (.int 0)))))) (mRaise "InvalidOctets" "at" (mVar 1)) (mNext)) (mSeq (mAug 2 fAug (mOp fShl (mOp fAnd (mVar 4) (mK
    (.int 127))) (mOp fMulA (mK (.int 7)) (mVar 3)))) (mIfS (mTst (mOp fLt (mVar 4) (mK (.int 128)))) (mRet (mTup (mCons (mVar 2) (mCons (mOp fAdd (mOp fAdd (mVar 1) (mVar 3)) (mK (.int 1))) (mNil)))))
    (mNext)))))
noncomputable def f_get_number : List D → AH → Res D := mFun 5 (mSeq (mSet 2 (mK (.int 0))) (mSeq (mFor (mR1 (mCons (mK (.int 9)) (mNil))) (.nm 3) b_get_number1) (mRaise "InvalidOctets" "at" (mVar
    1))))
noncomputable def f_put_integer : List D → AH → Res D := mFun 1 (mRet (mCallF 1 f_put_number (mCons (mIf (mTst (mOp fGe (mVar 0) (mK (.int 0)))) (mOp fMulA (mK (.int 2)) (mVar 0)) (mOp fSub (mOp fMulA
    (mNeg (mK (.int 2))) (mVar 0)) (mK (.int 1)))) (mNil))))
noncomputable def f_get_integer : List D → AH → Res D := mFun 4 (mSeq (mAsg (.tp [.nm 2, .nm 3]) (mCallF 2 f_get_number (mCons (mVar 0) (mCons (mVar 1) (mNil))))) (mRet (mTup (mCons (mIf (mTst (mOp
    (fEq false) (mOp fAnd (mVar 2) (mK (.int 1))) (mK (.int 0)))) (mOp fDiv (mVar 2) (mK (.int 2))) (mOp fSub (mNeg (mOp fDiv (mVar 2) (mK (.int 2)))) (mK (.int 1)))) (mCons (mVar 3) (mNil))))))
noncomputable def f_signs_by_octets : List D → AH → Res D := mFun 2 (mRet (mDc (mStrI (mVar 0)) (.nm 1) (mYes) (mCall fOrd (mCons (mVar 1) (mNil))) (mVar 1) [1]))
noncomputable def f_put_key : List D → AH → Res D := mFun 2 (mRet (mOp fAdd (mCall fTup (mCons (mLc false (mStrI (mVar 0)) (.nm 1) (mYes) (mCall fOrd (mCons (mVar 1) (mNil))) [1]) (mNil))) (mTup (mCons
    (mK (.int 0)) (mNil)))))
noncomputable def t_get_key1 : MT := (mTst (mOp (fDInN false) (mCallF 2 f_octet_at (mCons (mVar 0) (mCons (mOp fAdd (mVar 1) (mCall fLen (mCons (mVar 3) (mNil)))) (mNil)))) (mVar 2)))
noncomputable def b_get_key1 : MS := (mSeq (mAug 3 fAug (mOp fDGet (mVar 2) (mOp fIx (mVar 0) (mOp fAdd (mVar 1) (mCall fLen (mCons (mVar 3) (mNil))))))) (mIfS (mTst (mOp fGt (mCall fLen (mCons (mVar
    3) (mNil))) (mK (.int 16)))) (mRaise "InvalidOctets" "at" (mVar 1)) (mNext)))
noncomputable def f_get_key : List D → AH → Res D := mFun 4 (mSeq (mPar2 2 3 (mCons (mCallF 1 f_signs_by_octets (mCons (mK (.str "0123456789_abcdefghijklmnopqrstuvwxyz")) (mNil))) (mCons (mK (.str ""))
    (mNil)))) (mSeq (mWhile t_get_key1 b_get_key1) (mSeq (mIfS (mOr (mTst (mOp (fEq false) (mVar 3) (mK (.str "")))) (mTst (mOp (fEq true) (mCallF 2 f_octet_at (mCons (mVar 0) (mCons (mOp fAdd (mVar 1)
    (mCall fLen (mCons (mVar 3) (mNil)))) (mNil)))) (mK (.int 0))))) (mRaise "InvalidOctets" "at" (mVar 1)) (mNext)) (mRet (mTup (mCons (mVar 3) (mCons (mOp fAdd (mOp fAdd (mVar 1) (mCall fLen (mCons
    (mVar 3) (mNil)))) (mK (.int 1))) (mNil))))))))
noncomputable def f_put_text : List D → AH → Res D := mFun 2 (mRet (mOp fAdd (mCallF 1 f_put_number (mCons (mCall fLen (mCons (mVar 0) (mNil))) (mNil))) (mCall fTup (mCons (mLc false (mStrI (mVar 0))
    (.nm 1) (mYes) (mCall fOrd (mCons (mVar 1) (mNil))) [1]) (mNil)))))
noncomputable def t_get_text1 : MT := (mTst (mOp fLt (mCall fLen (mCons (mVar 5) (mNil))) (mVar 2)))
noncomputable def b_get_text1 : MS := (mSeq (mSet 6 (mCallF 2 f_octet_at (mCons (mVar 0) (mCons (mVar 3) (mNil))))) (mSeq (mIfS (mTst (mOp (fDInN true) (mVar 6) (mVar 4))) (mRaise "InvalidOctets" "at"
    (mVar 3)) (mNext)) (mSeq (mAug 5 fAug (mOp fDGet (mVar 4) (mVar 6))) (mAug 3 fAug (mK (.int 1))))))
noncomputable def f_get_text : List D → AH → Res D := mFun 7 (mSeq (mAsg (.tp [.nm 2, .nm 3]) (mCallF 2 f_get_number (mCons (mVar 0) (mCons (mVar 1) (mNil))))) (mSeq (mIfS (mTst (mOp fGt (mVar 2) (mK
    (.int 32)))) (mRaise "InvalidOctets" "at" (mVar 1)) (mNext)) (mSeq (mPar2 4 5 (mCons (mCallF 1 f_signs_by_octets (mCons (mK (.str
    " -./0123456789:ABCDEFGHIJKLMNOPQRSTUVWXYZ_abcdefghijklmnopqrstuvwxyz")) (mNil))) (mCons (mK (.str "")) (mNil)))) (mSeq (mWhile t_get_text1 b_get_text1) (mRet (mTup (mCons (mVar 5) (mCons (mVar 3)
    (mNil)))))))))
noncomputable def f_put_value : List D → AH → Res D := mFun 1 (mSeq (mIfS (mTst (mOp (fIsN false) (mVar 0) (mK .non))) (mRet (mTup (mCons (mK (.int 0)) (mNil)))) (mNext)) (mRet (mIf (mTst (mCallF 1
    f_is_text (mCons (mVar 0) (mNil)))) (mOp fAdd (mTup (mCons (mK (.int 2)) (mNil))) (mCallF 1 f_put_text (mCons (mVar 0) (mNil)))) (mOp fAdd (mTup (mCons (mK (.int 1)) (mNil))) (mCallF 1
    f_put_integer (mCons (mVar 0) (mNil)))))))
noncomputable def f_get_value : List D → AH → Res D := mFun 5 (mSeq (mSet 2 (mCallF 2 f_octet_at (mCons (mVar 0) (mCons (mVar 1) (mNil))))) (mSeq (mIfS (mTst (mOp (fEq false) (mVar 2) (mK (.int 0))))
    (mRet (mTup (mCons (mK .non) (mCons (mOp fAdd (mVar 1) (mK (.int 1))) (mNil))))) (mNext)) (mSeq (mIfS (mTst (mOp (fEq false) (mVar 2) (mK (.int 2)))) (mRet (mCallF 2 f_get_text (mCons (mVar 0)
    (mCons (mOp fAdd (mVar 1) (mK (.int 1))) (mNil))))) (mNext)) (mSeq (mIfS (mTst (mOp (fEq true) (mVar 2) (mK (.int 1)))) (mRaise "InvalidOctets" "at" (mVar 1)) (mNext)) (mSeq (mAsg (.tp [.nm 3, .nm
    4]) (mCallF 2 f_get_integer (mCons (mVar 0) (mCons (mOp fAdd (mVar 1) (mK (.int 1))) (mNil))))) (mSeq (mIfS (mNot (mTst (mChn fLe fLe (mNeg (mK (.int 1000000000000000000))) (mVar 3) (mK (.int
    1000000000000000000))))) (mRaise "InvalidOctets" "at" (mOp fAdd (mVar 1) (mK (.int 1)))) (mNext)) (mRet (mTup (mCons (mVar 3) (mCons (mVar 4) (mNil)))))))))))
noncomputable def b_put_writes1 : MS := (mAug 1 fAug (mOp fAdd (mCallF 1 f_put_key (mCons (mVar 2) (mNil))) (mCallF 1 f_put_value (mCons (mVar 3) (mNil)))))
noncomputable def f_put_writes : List D → AH → Res D := mFun 4 (mSeq (mSet 1 (mCallF 1 f_put_number (mCons (mCall fLen (mCons (mVar 0) (mNil))) (mNil)))) (mSeq (mFor (mSq (mVar 0)) (.tp [.nm 2, .nm 3])
    b_put_writes1) (mRet (mVar 1))))
noncomputable def t_get_pairs1 : MT := (mTst (mOp fLt (mCall fLen (mCons (mVar 5) (mNil))) (mVar 3)))
noncomputable def b_get_pairs1 : MS := (mSeq (mAsg (.tp [.nm 6, .nm 7]) (mCallF 2 f_get_key (mCons (mVar 0) (mCons (mVar 4) (mNil))))) (mSeq (mIfS (mAnd (mTst (mOp (fEq true) (mVar 5) (mLst (mNil))))
    (mTst (mOp fLeX (mVar 6) (mOp fIx (mOp fIx (mVar 5) (mNeg (mK (.int 1)))) (mK (.int 0)))))) (mRaise "InvalidOctets" "at" (mVar 4)) (mNext)) (mSeq (mAsg (.tp [.nm 8, .nm 4]) (mCallF 2 f_get_value
    (mCons (mVar 0) (mCons (mVar 7) (mNil))))) (mSeq (mIfS (mAnd (mTst (mVar 2)) (mTst (mOp (fIsN false) (mVar 8) (mK .non)))) (mRaise "InvalidOctets" "at" (mVar 7)) (mNext)) (mDrop (mMet fApp (mVar 5)
    (mCons (mTup (mCons (mVar 6) (mCons (mVar 8) (mNil)))) (mNil))))))))
noncomputable def f_get_pairs : List D → AH → Res D := mFun 9 (mSeq (mAsg (.tp [.nm 3, .nm 4]) (mCallF 2 f_get_number (mCons (mVar 0) (mCons (mVar 1) (mNil))))) (mSeq (mSet 5 (mNew (mNil))) (mSeq
    (mWhile t_get_pairs1 b_get_pairs1) (mRet (mTup (mCons (mCall fTup (mCons (mVar 5) (mNil))) (mCons (mVar 4) (mNil))))))))
noncomputable def f_get_writes : List D → AH → Res D := mFun 2 (mRet (mCallF 3 f_get_pairs (mCons (mVar 0) (mCons (mVar 1) (mCons (mK (.bl false)) (mNil))))))
noncomputable def f_put_entries : List D → AH → Res D := mFun 1 (mRet (mCallF 1 f_put_writes (mCons (mVar 0) (mNil))))
noncomputable def f_get_entries : List D → AH → Res D := mFun 2 (mRet (mCallF 3 f_get_pairs (mCons (mVar 0) (mCons (mVar 1) (mCons (mK (.bl true)) (mNil))))))
noncomputable def b_check_sum1 : MS := (mSet 1 (mOp fMod (mOp fAdd (mOp fMulA (mVar 1) (mK (.int 256))) (mVar 2)) (mK (.int 4294967291))))
noncomputable def f_check_sum : List D → AH → Res D := mFun 3 (mSeq (mSet 1 (mK (.int 1))) (mSeq (mFor (mSq (mVar 0)) (.nm 2) b_check_sum1) (mRet (mVar 1))))
noncomputable def f_pair_of : List D → AH → Res D := mFun 1 (mRet (mTup (mCons (mOp fShr (mVar 0) (mK (.int 8))) (mCons (mOp fAnd (mVar 0) (mK (.int 255))) (mNil)))))
noncomputable def f_sum_octets : List D → AH → Res D := mFun 2 (mSeq (mSet 1 (mCallF 1 f_check_sum (mCons (mVar 0) (mNil)))) (mRet (mOp fAdd (mCallF 1 f_pair_of (mCons (mOp fShr (mVar 1) (mK (.int
    16))) (mNil))) (mCallF 1 f_pair_of (mCons (mOp fAnd (mVar 1) (mK (.int 65535))) (mNil))))))
noncomputable def f_put_frame : List D → AH → Res D := mFun 2 (mSeq (mIfS (mTst (mOp fGt (mCall fLen (mCons (mVar 0) (mNil))) (mK (.int 65535)))) (mRaise "InvalidSize" "word" (mK (.str "body")))
    (mNext)) (mSeq (mSet 1 (mOp fAdd (mOp fAdd (mCallF 1 f_pair_of (mCons (mCall fLen (mCons (mVar 0) (mNil))) (mNil))) (mCallF 1 f_pair_of (mCons (mOp fSub (mK (.int 65535)) (mCall fLen (mCons (mVar
    0) (mNil)))) (mNil)))) (mCall fTup (mCons (mVar 0) (mNil))))) (mRet (mOp fAdd (mVar 1) (mCallF 1 f_sum_octets (mCons (mVar 1) (mNil)))))))
noncomputable def f_frame_fault : List D → AH → Res D := mFun 4 (mSeq (mIfS (mTst (mOp fLt (mCall fLen (mCons (mVar 0) (mNil))) (mOp fAdd (mVar 1) (mK (.int 4))))) (mRet (mK (.str "cut"))) (mNext))
    (mSeq (mSet 2 (mOp fAdd (mOp fMulA (mOp fIx (mVar 0) (mVar 1)) (mK (.int 256))) (mOp fIx (mVar 0) (mOp fAdd (mVar 1) (mK (.int 1)))))) (mSeq (mIfS (mTst (mOp (fEq true) (mOp fAdd (mOp fAdd (mVar 2)
    (mOp fMulA (mOp fIx (mVar 0) (mOp fAdd (mVar 1) (mK (.int 2)))) (mK (.int 256)))) (mOp fIx (mVar 0) (mOp fAdd (mVar 1) (mK (.int 3))))) (mK (.int 65535)))) (mRet (mK (.str "broken"))) (mNext))
    (mSeq (mSet 3 (mOp fAdd (mOp fAdd (mVar 1) (mVar 2)) (mK (.int 8)))) (mSeq (mIfS (mTst (mOp fLt (mCall fLen (mCons (mVar 0) (mNil))) (mVar 3))) (mRet (mK (.str "cut"))) (mNext)) (mRet (mIf (mTst
    (mOp (fEq false) (mCall fTup (mCons (mSl (mVar 0) (mSome (mOp fSub (mVar 3) (mK (.int 4)))) (mSome (mVar 3))) (mNil))) (mCallF 1 f_sum_octets (mCons (mSl (mVar 0) (mSome (mVar 1)) (mSome (mOp fSub
    (mVar 3) (mK (.int 4))))) (mNil))))) (mK .non) (mK (.str "broken")))))))))
noncomputable def f_get_frame : List D → AH → Res D := mFun 4 (mSeq (mSet 2 (mCallF 2 f_frame_fault (mCons (mVar 0) (mCons (mVar 1) (mNil))))) (mSeq (mIfS (mTst (mOp (fIsN true) (mVar 2) (mK .non)))
    (mRaise "Refused" "word" (mVar 2)) (mNext)) (mSeq (mSet 3 (mOp fAdd (mOp fAdd (mOp fAdd (mVar 1) (mOp fMulA (mOp fIx (mVar 0) (mVar 1)) (mK (.int 256)))) (mOp fIx (mVar 0) (mOp fAdd (mVar 1) (mK
    (.int 1))))) (mK (.int 8)))) (mRet (mTup (mCons (mCall fTup (mCons (mSl (mVar 0) (mSome (mOp fAdd (mVar 1) (mK (.int 4)))) (mSome (mOp fSub (mVar 3) (mK (.int 4))))) (mNil))) (mCons (mVar 3)
    (mNil))))))))
noncomputable def t_read_frames1 : MT := (mTst (mOp (fIsN false) (mVar 3) (mK .non)))
noncomputable def b_read_frames1 : MS := (mSeq (mAsg (.tp [.nm 4, .nm 2]) (mCallF 2 f_get_frame (mCons (mVar 0) (mCons (mVar 2) (mNil))))) (mSeq (mDrop (mMet fApp (mVar 1) (mCons (mVar 4) (mNil))))
    (mSet 3 (mCallF 2 f_frame_fault (mCons (mVar 0) (mCons (mVar 2) (mNil)))))))
noncomputable def f_read_frames : List D → AH → Res D := mFun 5 (mSeq (mPar3 1 2 3 (mCons (mNew (mNil)) (mCons (mK (.int 0)) (mCons (mCallF 2 f_frame_fault (mCons (mVar 0) (mCons (mK (.int 0))
    (mNil)))) (mNil))))) (mSeq (mWhile t_read_frames1 b_read_frames1) (mRet (mTup (mCons (mCall fTup (mCons (mVar 1) (mNil))) (mCons (mVar 2) (mCons (mIf (mTst (mOp (fEq false) (mVar 2) (mCall fLen
    (mCons (mVar 0) (mNil))))) (mK (.str "whole")) (mVar 3)) (mNil))))))))
noncomputable def f_put_record : List D → AH → Res D := mFun 2 (mRet (mCallF 1 f_put_frame (mCons (mOp fAdd (mCallF 1 f_put_number (mCons (mVar 0) (mNil))) (mCallF 1 f_put_writes (mCons (mVar 1)
    (mNil)))) (mNil))))
noncomputable def f_put_image : List D → AH → Res D := mFun 2 (mRet (mCallF 1 f_put_frame (mCons (mOp fAdd (mCallF 1 f_put_number (mCons (mVar 0) (mNil))) (mCallF 1 f_put_entries (mCons (mVar 1)
    (mNil)))) (mNil))))
noncomputable def s_get_image : MS := mSeq (mAsg (.tp [.nm 1, .nm 2, .nm 3]) (mCallF 1 f_read_frames (mCons (mVar 0) (mNil)))) (mSeq (mIfS (mOr (mTst (mOp (fEq true) (mVar 3) (mK (.str "whole"))))
    (mTst (mOp (fEq true) (mCall fLen (mCons (mVar 1) (mNil))) (mK (.int 1))))) (mRet (mK .non)) (mNext)) (mSeq (mTry (mSeq (mAsg (.tp [.nm 4, .nm 5]) (mCallF 2 f_get_number (mCons (mOp fIx (mVar 1)
    (mK (.int 0))) (mCons (mK (.int 0)) (mNil))))) (mAsg (.tp [.nm 6, .nm 7]) (mCallF 2 f_get_entries (mCons (mOp fIx (mVar 1) (mK (.int 0))) (mCons (mVar 5) (mNil)))))) [⟨"InvalidOctets",
    ["InvalidOctets"], ["InvalidSize", "Refused"], none, fun C a d => mRet (mK .non)⟩]) (mRet (mIf (mTst (mOp (fEq false) (mVar 7) (mCall fLen (mCons (mOp fIx (mVar 1) (mK (.int 0))) (mNil))))) (mTup
    (mCons (mVar 4) (mCons (mVar 6) (mNil)))) (mK .non)))))
noncomputable def f_get_image : List D → AH → Res D := mFun 8 (s_get_image)
noncomputable def b_base_of1 : MS := (mSeq (mSet 5 (mCallF 1 f_get_image (mCons (mOp fIx (mVar 0) (mVar 4)) (mNil)))) (mIfS (mAnd (mTst (mOp (fIsN true) (mVar 5) (mK .non))) (mOr (mTst (mOp (fIsN
    false) (mVar 1) (mK .non))) (mTst (mOp fGt (mOp fIx (mVar 5) (mK (.int 0))) (mVar 2))))) (mAsg (.tp [.nm 1, .tp [.nm 2, .nm 3]]) (mTup (mCons (mVar 4) (mCons (mVar 5) (mNil))))) (mNext)))
noncomputable def f_base_of : List D → AH → Res D := mFun 6 (mSeq (mAsg (.tp [.nm 1, .nm 2, .nm 3]) (mTup (mCons (mK .non) (mCons (mK (.int 0)) (mCons (mTup (mNil)) (mNil)))))) (mSeq (mFor (mSq (mTup
    (mCons (mK (.int 0)) (mCons (mK (.int 1)) (mNil))))) (.nm 4) b_base_of1) (mRet (mTup (mCons (mVar 1) (mCons (mVar 2) (mCons (mVar 3) (mNil))))))))
noncomputable def f_Journal__write : List D → AH → Res D := mFun 3 (mSeq (mSet 2 (mCallF 2 f_put_record (mCons (mOp fAdd (mFld "Journal" "stamp" (mVar 0)) (mK (.int 1))) (mCons (mVar 1) (mNil)))))
    (mSeq (mDrop (mMeth "Files" "add" 3 f_Files__add (mFld "Journal" "files" (mVar 0)) (mCons (mK (.int 2)) (mCons (mVar 2) (mNil))))) (mSeq (mAddF "Journal" "stamp" (mVar 0) (mK (.int 1))) (mSeq
    (mSetF "Journal" "entries" (mCallF 1 f_map_of (mCons (mOp fAdd (mFld "Journal" "entries" (mVar 0)) (mCall fTup (mCons (mVar 1) (mNil)))) (mNil))) (mVar 0)) (mRet (mFld "Journal" "stamp" (mVar
    0)))))))
noncomputable def f_Journal__sync : List D → AH → Res D := mFun 1 (mDrop (mMeth "Files" "sync" 2 f_Files__sync (mFld "Journal" "files" (mVar 0)) (mCons (mK (.int 2)) (mNil))))
noncomputable def f_Journal__draw : List D → AH → Res D := mFun 3 (mSeq (mSet 1 (mCallF 2 f_put_image (mCons (mFld "Journal" "stamp" (mVar 0)) (mCons (mFld "Journal" "entries" (mVar 0)) (mNil)))))
    (mSeq (mSet 2 (mIf (mTst (mOp (fEq false) (mOp fIx (mCallF 1 f_base_of (mCons (mCall fTup (mCons (mFld "Files" "synced" (mFld "Journal" "files" (mVar 0))) (mNil))) (mNil))) (mK (.int 0))) (mK (.int
    0)))) (mK (.int 1)) (mK (.int 0)))) (mSeq (mDrop (mMeth "Files" "keep" 3 f_Files__keep (mFld "Journal" "files" (mVar 0)) (mCons (mVar 2) (mCons (mK (.int 0)) (mNil))))) (mSeq (mDrop (mMeth "Files"
    "add" 3 f_Files__add (mFld "Journal" "files" (mVar 0)) (mCons (mVar 2) (mCons (mVar 1) (mNil))))) (mSetF "Journal" "drawn" (mTup (mCons (mVar 2) (mCons (mFld "Journal" "stamp" (mVar 0)) (mNil))))
    (mVar 0))))))
noncomputable def f_Journal__settle : List D → AH → Res D := mFun 3 (mIfS (mTst (mOp (fIsN true) (mFld "Journal" "drawn" (mVar 0)) (mK .non))) (mSeq (mAsg (.tp [.nm 1, .nm 2]) (mFld "Journal" "drawn"
    (mVar 0))) (mSeq (mDrop (mMeth "Files" "sync" 2 f_Files__sync (mFld "Journal" "files" (mVar 0)) (mCons (mVar 1) (mNil)))) (mSeq (mIfS (mTst (mOp (fEq false) (mVar 2) (mFld "Journal" "stamp" (mVar
    0)))) (mDrop (mMeth "Files" "keep" 3 f_Files__keep (mFld "Journal" "files" (mVar 0)) (mCons (mK (.int 2)) (mCons (mK (.int 0)) (mNil))))) (mNext)) (mSetF "Journal" "drawn" (mK .non) (mVar 0)))))
    (mNext))
noncomputable def f_Journal__image : List D → AH → Res D := mFun 1 (mSeq (mDrop (mMeth "Journal" "draw" 1 f_Journal__draw (mVar 0) mNil)) (mDrop (mMeth "Journal" "settle" 1 f_Journal__settle (mVar 0)
    mNil)))
noncomputable def f_Journal__disk : List D → AH → Res D := mFun 1 (mRet (mMeth "Files" "disk" 1 f_Files__disk (mFld "Journal" "files" (mVar 0)) mNil))
noncomputable def b__law_heap1 : MS := (mSet 3 (mOp fMod (mCall fInt (mCons (mOp fAdd (mOp fAdd (mOp fMulA (mVar 3) (mK (.int 48271))) (mOp fMod (mVar 4) (mK (.int 2147483549)))) (mK (.int 29)))
    (mNil))) (mK (.int 2147483647))))
noncomputable def f__law_heap : List D → AH → Res D := mFun 5 (mSeq (mSet 2 (mLc false (mSq (mSl (mVar 0) (mNone) (mSome (mK (.int 63))))) (.nm 4) (mYes) (mCall fAbs (mCons (mCall fInt (mCons (mVar 4)
    (mNil))) (mNil))) [4])) (mSeq (mSet 3 (mOp fAdd (mK (.int 52387)) (mOp fMulA (mK (.int 811)) (mVar 1)))) (mSeq (mFor (mSq (mVar 2)) (.nm 4) b__law_heap1) (mRet (mNew (mCons (mRev true (mLc false
    (mSq (mVar 2)) (.nm 4) (mTst (mOp fGe (mVar 4) (mOp fPow (mK (.int 10)) (mK (.int 18))))) (mVar 4) [4])) (mCons (mVar 3) (mNil))))))))
noncomputable def t__law_draw1 : MT := (mAnd (mTst (mOp (fEq true) (mOp fIx (mVar 0) (mK (.int 0))) (mLst (mNil)))) (mTst (mOp (fEq false) (mOp fIx (mOp fIx (mVar 0) (mK (.int 0))) (mNeg (mK (.int
    1)))) (mK (.int 0)))))
noncomputable def b__law_draw1 : MS := (mDrop (mPop (mOp fIx (mVar 0) (mK (.int 0)))))
noncomputable def f__law_draw : List D → AH → Res D := mFun 3 (mSeq (mWhile t__law_draw1 b__law_draw1) (mSeq (mIfS (mTst (mOp (fEq true) (mOp fIx (mVar 0) (mK (.int 0))) (mLst (mNil)))) (mSeq (mSet 2
    (mCall fInt (mCons (mPop (mOp fIx (mVar 0) (mK (.int 0)))) (mNil)))) (mSeq (mDrop (mMet fApp (mOp fIx (mVar 0) (mK (.int 0))) (mCons (mOp fDiv (mVar 2) (mVar 1)) (mNil)))) (mRet (mOp fMod (mVar 2)
    (mVar 1))))) (mNext)) (mSeq (mSto (mOp fMod (mCall fInt (mCons (mOp fAdd (mOp fMulA (mOp fIx (mVar 0) (mK (.int 1))) (mK (.int 48271))) (mK (.int 13))) (mNil))) (mK (.int 2147483647))) (mVar 0) (mK
    (.int 1))) (mRet (mOp fMod (mCall fInt (mCons (mOp fDiv (mOp fIx (mVar 0) (mK (.int 1))) (mK (.int 64))) (mNil))) (mVar 1))))))
noncomputable def f__law_pick : List D → AH → Res D := mFun 2 (mRet (mOp fIx (mVar 1) (mCallF 2 f__law_draw (mCons (mVar 0) (mCons (mCall fLen (mCons (mVar 1) (mNil))) (mNil))))))
end JR
end
section
set_option maxHeartbeats 1000000
namespace JR
open PySem PySem.Spec PyProof.Rows L2 DM
/-- what is told; new things may be left behind -/
def Tells (f : List D → AH → Res D) (ds : List D) (r : D) : Prop := ∀ A, ∃ G, f ds A = .ok r (A ++ G)
theorem Tells.of {f : List D → AH → Res D} {ds : List D} {r : D} (h : ∀ A, f ds A = .ok r A) : Tells f ds r := fun A => ⟨[], by rw [List.append_nil]; exact h A⟩
def octD : Option Nat → D
  | some b => .int (b : Int)
  | none => .non
theorem octet_at_ok {os : List Nat} {p : Nat} {A : AH} : f_octet_at [.tup (dI os), .int (p : Int)] A = .ok (octD os[p]?) A := by
  unfold f_octet_at
  refine fun_rt ?_
  by_cases h : p < os.length
  · simp only [EVa, List.getElem?_cons_zero, List.getElem?_cons_succ, List.set_cons_zero, List.set_cons_succ, bind_ok, lift_ok, List.length_cons, List.length_nil, Nat.reduceAdd, Nat.reduceLeDiff, ↓reduceIte, if_true, if_false, Bool.false_eq_true, ev_raise, and_self, List.map_cons, List.map_nil, List.replicate, List.cons_append, List.nil_append, Nat.reduceSub, len_tup, lt_ii, decide_eq_true (show (p : Int) < (os.length : Int) by omega), ix_dI (List.getElem?_eq_getElem h) rfl]
    rw [List.getElem?_eq_getElem h]; rfl
  · simp only [EVa, List.getElem?_cons_zero, List.getElem?_cons_succ, List.set_cons_zero, List.set_cons_succ, bind_ok, lift_ok, List.length_cons, List.length_nil, Nat.reduceAdd, Nat.reduceLeDiff, ↓reduceIte, if_true, if_false, Bool.false_eq_true, ev_raise, and_self, List.map_cons, List.map_nil, List.replicate, List.cons_append, List.nil_append, Nat.reduceSub, len_tup, lt_ii, decide_eq_false (show ¬ (p : Int) < (os.length : Int) by omega)]
    rw [List.getElem?_eq_none (by omega)]; rfl
/-! ### numbers -/
def nO (n : Nat) : List Nat := if h : n ≤ 127 then [n] else (128 + n % 128) :: nO (n / 128)
termination_by n
decreasing_by omega
theorem nO_small {n : Nat} (h : n ≤ 127) : nO n = [n] := by rw [nO, dif_pos h]
theorem nO_big {n : Nat} (h : 127 < n) : nO n = (128 + n % 128) :: nO (n / 128) := by rw [nO, dif_neg (by omega)]
theorem nO_len : ∀ (k n : Nat), n < 128 ^ (k + 1) → (nO n).length ≤ k + 1
  | 0, n, h => by rw [nO_small (by omega)]; simp
  | k + 1, n, h => by
    by_cases hn : n ≤ 127
    · rw [nO_small hn]; simp
    · rw [nO_big (by omega), List.length_cons]
      have := nO_len k (n / 128) (by rw [Nat.pow_succ] at h; omega)
      omega
theorem nO_pos (n : Nat) : 0 < (nO n).length := by
  by_cases h : n ≤ 127
  · rw [nO_small h]; simp
  · rw [nO_big (by omega)]; simp
theorem nO_oct (n : Nat) : ∀ b ∈ nO n, b < 256 := by
  induction n using Nat.strongRecOn with
  | _ n ih =>
    intro b hb
    by_cases h : n ≤ 127
    · rw [nO_small h, List.mem_singleton] at hb; omega
    · rw [nO_big (by omega), List.mem_cons] at hb
      rcases hb with rfl | hb
      · omega
      · exact ih _ (by omega) b hb
theorem and127 {n : Nat} : Builtin.bitAnd (n : Int) 127 = ((n % 128 : Nat) : Int) := by
  have h := Bits.bitAnd_mask (x := (n : Int)) 7 (by omega)
  have h2 : ((2 : Int) ^ 7 - 1) = 127 := rfl
  rw [h2] at h
  rw [h]
  show (n : Int) % 128 = _
  omega
theorem and1 {n : Nat} : Builtin.bitAnd (n : Int) 1 = ((n % 2 : Nat) : Int) := by
  have h := Bits.bitAnd_mask (x := (n : Int)) 1 (by omega)
  have h2 : ((2 : Int) ^ 1 - 1) = 1 := rfl
  rw [h2] at h
  rw [h]
  show (n : Int) % 2 = _
  omega
theorem and_ii {a b : Int} {A : AH} : fAnd (.int a) (.int b) A = .ok (.int (Builtin.bitAnd a b)) A := rfl
theorem set_same {A : AH} {n : Nat} {o : AO} (h : A[n]? = some o) : A.set n o = A := by
  have h1 := List.getElem?_eq_some_iff.mp h
  rw [← h1.2]
  exact List.set_getElem_self h1.1
theorem app_run {A : AH} {c : Nat} {xs : List D} {x : D} (h : A[c]? = some (.lst xs)) (hl : xs.length < 16777216) : fApp c [x] A = .ok .non (A.set c (.lst (xs ++ [x]))) := by
  simp only [fApp, h, hl, if_true]
theorem put_turn {n c : Nat} {acc : List Nat} {A : AH} (hA : A[c]? = some (.lst (dI acc))) (hl : acc.length < 16777216) :
    b_put_number1 [some (.int (n : Int)), some (.ref c)] A = .nx [some (.int ((n / 128 : Nat) : Int)), some (.ref c)] (A.set c (.lst (dI (acc ++ [128 + n % 128])))) := by
  have e1 : (n : Int) / 2 ^ (Int.toNat 7) = ((n / 128 : Nat) : Int) := by
    show (n : Int) / 128 = _
    omega
  have ea := app_run (x := .int (128 + ((n % 128 : Nat) : Int))) hA (by rw [dI_length]; exact hl)
  unfold b_put_number1
  refine (seq_nx (ρ1 := [some (.int (n : Int)), some (.ref c)]) (A1 := A.set c (.lst (dI (acc ++ [128 + n % 128])))) ?_).trans ?_
  · simp only [EVa, List.getElem?_cons_zero, List.getElem?_cons_succ, List.set_cons_zero, List.set_cons_succ, bind_ok, lift_ok, List.length_cons, List.length_nil, Nat.reduceAdd, Nat.reduceLeDiff, ↓reduceIte, if_true, if_false, Bool.false_eq_true, ev_raise, and_self, List.map_cons, List.map_nil, List.replicate, List.cons_append, List.nil_append, Nat.reduceSub, hA, and_ii, and127, add_ii, ea]
    rw [dI_append]
    rfl
  simp only [EVa, List.getElem?_cons_zero, List.getElem?_cons_succ, List.set_cons_zero, List.set_cons_succ, bind_ok, lift_ok, List.length_cons, List.length_nil, Nat.reduceAdd, Nat.reduceLeDiff, ↓reduceIte, if_true, if_false, Bool.false_eq_true, ev_raise, and_self, List.map_cons, List.map_nil, List.replicate, List.cons_append, List.nil_append, Nat.reduceSub, ev_aug, fShr, fI, show (0 : Int) ≤ 7 by decide, e1]
theorem put_go (n : Nat) : ∀ (acc : List Nat) (A : AH) (c : Nat), A[c]? = some (.lst (dI acc)) → acc.length + (nO n).length < 16777216 →
    ∃ k last hd, nO n = hd ++ [last] ∧ iterW t_put_number1 b_put_number1 k [some (.int (n : Int)), some (.ref c)] A = .nx [some (.int ((last : Nat) : Int)), some (.ref c)] (A.set c (.lst (dI (acc ++ hd)))) := by
  induction n using Nat.strongRecOn with
  | _ n ih =>
    intro acc A c hA hl
    have ht : t_put_number1 [some (.int (n : Int)), some (.ref c)] A = .ok (decide (127 < (n : Int))) A := by
      unfold t_put_number1
      simp only [EVa, List.getElem?_cons_zero, List.getElem?_cons_succ, List.set_cons_zero, List.set_cons_succ, bind_ok, lift_ok, List.length_cons, List.length_nil, Nat.reduceAdd, Nat.reduceLeDiff, ↓reduceIte, if_true, if_false, Bool.false_eq_true, ev_raise, and_self, List.map_cons, List.map_nil, List.replicate, List.cons_append, List.nil_append, Nat.reduceSub, gt_ii]
    by_cases h : n ≤ 127
    · refine ⟨1, n, [], by rw [nO_small h]; rfl, ?_⟩
      unfold iterW
      rw [ht, decide_eq_false (by omega), List.append_nil, set_same hA]
    · rw [nO_big (by omega), List.length_cons] at hl
      obtain ⟨k, last, hd, e1, e2⟩ := ih (n / 128) (by omega) (acc ++ [128 + n % 128]) (A.set c (.lst (dI (acc ++ [128 + n % 128])))) c (set_get hA) (by simp; omega)
      refine ⟨k + 1, last, (128 + n % 128) :: hd, by rw [nO_big (by omega), e1]; rfl, ?_⟩
      conv => lhs; unfold iterW
      rw [ht, decide_eq_true (by omega)]
      simp only [put_turn hA (by omega)]
      rw [e2, List.set_set, List.append_assoc]
      rfl
theorem addR_run {A : AH} {c : Nat} {xs ys : List D} (h : A[c]? = some (.lst xs)) (hl : xs.length + ys.length ≤ 16777216) : fAddR (.ref c) (.lst ys) A = .ok (.lst (xs ++ ys)) A := by
  simp only [fAddR, h, hl, if_true]
theorem tup_lst {xs : List D} {A : AH} : fTup [.lst xs] A = .ok (.tup xs) A := rfl
theorem put_number_ok {n : Nat} (h : (nO n).length ≤ 1000) : Tells f_put_number [.int (n : Int)] (.tup (dI (nO n))) := fun A => by
  obtain ⟨k, last, hd, e1, e2⟩ := put_go n [] (A ++ [.lst (dI [])]) A.length (by simp) (by simp; omega)
  have e3 : (A ++ [AO.lst (dI [])]).set A.length (.lst (dI ([] ++ hd))) = A ++ [.lst (dI hd)] := by
    rw [List.set_append_right _ _ (Nat.le_refl _)]; simp
  rw [e3] at e2
  refine ⟨[.lst (dI hd)], ?_⟩
  have hx : (A ++ [AO.lst (dI hd)])[A.length]? = some (.lst (dI hd)) := by simp
  have hl := congrArg List.length e1
  simp only [List.length_append, List.length_cons, List.length_nil] at hl
  unfold f_put_number
  refine fun_rt ?_
  refine (seq_nx (ρ1 := [some (.int (n : Int)), some (.ref A.length)]) (A1 := A ++ [.lst (dI [])]) ?_).trans ?_
  · simp only [EVa, List.getElem?_cons_zero, List.getElem?_cons_succ, List.set_cons_zero, List.set_cons_succ, bind_ok, lift_ok, List.length_cons, List.length_nil, Nat.reduceAdd, Nat.reduceLeDiff, ↓reduceIte, if_true, if_false, Bool.false_eq_true, ev_raise, and_self, List.map_cons, List.map_nil, List.replicate, List.cons_append, List.nil_append, Nat.reduceSub]
    rfl
  refine (seq_nx (mWhile_eq e2 (by intro z; cases z))).trans ?_
  simp only [EVa, List.getElem?_cons_zero, List.getElem?_cons_succ, List.set_cons_zero, List.set_cons_succ, bind_ok, lift_ok, List.length_cons, List.length_nil, Nat.reduceAdd, Nat.reduceLeDiff, ↓reduceIte, if_true, if_false, Bool.false_eq_true, ev_raise, and_self, List.map_cons, List.map_nil, List.replicate, List.cons_append, List.nil_append, Nat.reduceSub, addR_run hx (show (dI hd).length + [D.int (last : Int)].length ≤ 16777216 by rw [dI_length]; simp; omega), tup_lst]
  rw [e1, dI_append]
  rfl
/-! a number read -/
theorem shl_ii {a b : Int} {A : AH} (h : CPow a b) : fShl (.int a) (.int b) A = .ok (.int (a * 2 ^ b.toNat)) A := by
  simp only [fShl, fI, h, if_true]
theorem mulA_ii {a b : Int} {A : AH} (h : CMul a b) : fMulA (.int a) (.int b) A = .ok (.int (a * b)) A := by
  simp only [fMulA, h, if_true]
theorem aug_ii {a b : Int} {A : AH} : fAug (.int a) (.int b) A = .ok (.int (a + b)) A := rfl
theorem isN_int {i : Int} {A : AH} {neg : Bool} : fIsN neg (.int i) .non A = .ok (.bl neg) A := by cases neg <;> rfl
theorem isN_str {i : Str} {A : AH} {neg : Bool} : fIsN neg (.str i) .non A = .ok (.bl neg) A := by cases neg <;> rfl
theorem isN_non {A : AH} {neg : Bool} : fIsN neg .non .non A = .ok (.bl (!neg)) A := by cases neg <;> rfl
theorem isN_tup {xs : List D} {A : AH} {neg : Bool} : fIsN neg (.tup xs) .non A = .ok (.bl neg) A := by cases neg <;> rfl
theorem pow7 {b t : Nat} : (((b % 128 : Nat) : Int)) * 2 ^ ((7 : Int) * (t : Int)).toNat = ((b % 128 * 128 ^ t : Nat) : Int) := by
  have e : ((7 : Int) * (t : Int)).toNat = 7 * t := by omega
  have e2 : (2 : Int) ^ (7 * t) = ((128 ^ t : Nat) : Int) := by
    rw [show (128 : Nat) = 2 ^ 7 from rfl, ← Nat.pow_mul, Int.natCast_pow]
    rfl
  rw [e, e2, Int.natCast_mul]
section
variable {os : List Nat} {p t b : Nat} {tot : Int} {x3 x4 : Option D} {A : AH}
theorem get_turn (hb : os[p + t]? = some b) (h2 : b < 256) (ht : t ≤ 8) (h0 : ¬ (b = 0 ∧ 0 < t)) :
    b_get_number1 [some (.tup (dI os)), some (.int (p : Int)), some (.int tot), some (.int (t : Int)), x4] A =
      if b < 128 then .rt (.tup [.int (tot + ((b % 128 * 128 ^ t : Nat) : Int)), .int ((p + t + 1 : Nat) : Int)]) A
      else .nx [some (.tup (dI os)), some (.int (p : Int)), some (.int (tot + ((b % 128 * 128 ^ t : Nat) : Int))), some (.int (t : Int)), some (.int (b : Int))] A := by
  have eo : f_octet_at [.tup (dI os), .int ((p : Int) + (t : Int))] A = .ok (.int (b : Int)) A := by
    have := octet_at_ok (os := os) (p := p + t) (A := A)
    rw [hb, Int.natCast_add] at this
    exact this
  have hc : CPow ((b % 128 : Nat) : Int) (7 * (t : Int)) := ⟨by omega, by omega, by omega⟩
  unfold b_get_number1
  refine (seq_nx (ρ1 := [some (.tup (dI os)), some (.int (p : Int)), some (.int tot), some (.int (t : Int)), some (.int (b : Int))]) (A1 := A) ?_).trans ?_
  · simp only [EVa, List.getElem?_cons_zero, List.getElem?_cons_succ, List.set_cons_zero, List.set_cons_succ, bind_ok, lift_ok, List.length_cons, List.length_nil, Nat.reduceAdd, Nat.reduceLeDiff, ↓reduceIte, if_true, if_false, Bool.false_eq_true, ev_raise, and_self, List.map_cons, List.map_nil, List.replicate, List.cons_append, List.nil_append, Nat.reduceSub, add_ii, eo]
  refine (seq_nx (ρ1 := [some (.tup (dI os)), some (.int (p : Int)), some (.int tot), some (.int (t : Int)), some (.int (b : Int))]) (A1 := A) ?_).trans ?_
  · simp only [EVa, List.getElem?_cons_zero, List.getElem?_cons_succ, List.set_cons_zero, List.set_cons_succ, bind_ok, lift_ok, List.length_cons, List.length_nil, Nat.reduceAdd, Nat.reduceLeDiff, ↓reduceIte, if_true, if_false, Bool.false_eq_true, ev_raise, and_self, List.map_cons, List.map_nil, List.replicate, List.cons_append, List.nil_append, Nat.reduceSub, isN_int, eq_ii, gt_ii]
    by_cases hz : b = 0
    · subst hz
      have : t = 0 := by omega
      subst this
      rfl
    · rw [decide_eq_false (by omega)]
      rfl
  refine (seq_nx (ρ1 := [some (.tup (dI os)), some (.int (p : Int)), some (.int (tot + ((b % 128 * 128 ^ t : Nat) : Int))), some (.int (t : Int)), some (.int (b : Int))]) (A1 := A) ?_).trans ?_
  · simp only [EVa, List.getElem?_cons_zero, List.getElem?_cons_succ, List.set_cons_zero, List.set_cons_succ, bind_ok, lift_ok, List.length_cons, List.length_nil, Nat.reduceAdd, Nat.reduceLeDiff, ↓reduceIte, if_true, if_false, Bool.false_eq_true, ev_raise, and_self, List.map_cons, List.map_nil, List.replicate, List.cons_append, List.nil_append, Nat.reduceSub, ev_aug, and_ii, and127, mulA_ii (show CMul 7 (t : Int) from .inl ⟨by decide, by decide⟩), shl_ii hc, aug_ii, pow7]
  by_cases hs : b < 128
  · simp only [EVa, List.getElem?_cons_zero, List.getElem?_cons_succ, List.set_cons_zero, List.set_cons_succ, bind_ok, lift_ok, List.length_cons, List.length_nil, Nat.reduceAdd, Nat.reduceLeDiff, ↓reduceIte, if_true, if_false, Bool.false_eq_true, ev_raise, and_self, List.map_cons, List.map_nil, List.replicate, List.cons_append, List.nil_append, Nat.reduceSub, lt_ii, decide_eq_true (show (b : Int) < 128 by omega), add_ii]
    rw [if_pos hs, show (p : Int) + (t : Int) + 1 = ((p + t + 1 : Nat) : Int) by omega]
  · simp only [EVa, List.getElem?_cons_zero, List.getElem?_cons_succ, List.set_cons_zero, List.set_cons_succ, bind_ok, lift_ok, List.length_cons, List.length_nil, Nat.reduceAdd, Nat.reduceLeDiff, ↓reduceIte, if_true, if_false, Bool.false_eq_true, ev_raise, and_self, List.map_cons, List.map_nil, List.replicate, List.cons_append, List.nil_append, Nat.reduceSub, lt_ii, decide_eq_false (show ¬ (b : Int) < 128 by omega)]
    rw [if_neg hs]
end
theorem get_go {os rest : List Nat} {p : Nat} {iv : ItV} {all : List D} {A : AH} (hit : itemsOf A iv = some all) : ∀ (j t m : Nat) (tot : Int) (x3 x4 : Option D), t + j = 9 → os.drop (p + t) = nO m ++ rest → (nO m).length ≤ j → (0 < t → 0 < m) →
    forGo iv all (.nm 3) b_get_number1 ((List.range' t j).map fun i : Nat => D.int (i : Int)) [some (.tup (dI os)), some (.int (p : Int)), some (.int tot), x3, x4] A =
      .rt (.tup [.int (tot + ((m * 128 ^ t : Nat) : Int)), .int ((p + t + (nO m).length : Nat) : Int)]) A
  | 0, t, m, tot, x3, x4, hj, hr, hl, hm => by have := nO_pos m; omega
  | j + 1, t, m, tot, x3, x4, hj, hr, hl, hm => by
    rw [List.range'_succ, List.map_cons]
    have hat : ∀ i : Nat, os[p + t + i]? = (nO m ++ rest)[i]? := fun i => by rw [← hr, List.getElem?_drop]
    by_cases h : m ≤ 127
    · have hb : os[p + t]? = some m := by have := hat 0; rw [nO_small h] at this; exact this
      refine (for_rt (ρ1 := [some (.tup (dI os)), some (.int (p : Int)), some (.int tot), some (.int (t : Int)), x4]) hit rfl ((get_turn hb (by omega) (by omega) (by omega)).trans (if_pos (by omega)))).trans ?_
      rw [nO_small h, Nat.mod_eq_of_lt (by omega)]
      rfl
    · have hb : os[p + t]? = some (128 + m % 128) := by have := hat 0; rw [nO_big (by omega)] at this; exact this
      refine (for_nx (ρ1 := [some (.tup (dI os)), some (.int (p : Int)), some (.int tot), some (.int (t : Int)), x4]) hit rfl ((get_turn hb (by omega) (by omega) (by omega)).trans (if_neg (by omega)))).trans ?_
      have hr2 : os.drop (p + (t + 1)) = nO (m / 128) ++ rest := by
        rw [← Nat.add_assoc, ← List.drop_drop, hr, nO_big (by omega)]; rfl
      rw [nO_big (by omega), List.length_cons] at hl
      rw [get_go hit j (t + 1) (m / 128) _ _ _ (by omega) hr2 (by omega) (by omega), nO_big (n := m) (by omega), List.length_cons]
      have e : (128 + m % 128) % 128 * 128 ^ t + m / 128 * 128 ^ (t + 1) = m * 128 ^ t := by
        rw [show (128 + m % 128) % 128 = m % 128 by omega, Nat.pow_succ, Nat.mul_comm (128 ^ t) 128, ← Nat.mul_assoc, ← Nat.add_mul]
        congr 1
        omega
      rw [Int.add_assoc, ← Int.natCast_add, e, show p + (t + 1) + (nO (m / 128)).length = p + t + ((nO (m / 128)).length + 1) by omega]
theorem get_number_ok {os rest : List Nat} {p n : Nat} {A : AH} (hr : os.drop p = nO n ++ rest) (hl : (nO n).length ≤ 9) :
    f_get_number [.tup (dI os), .int (p : Int)] A = .ok (.tup [.int (n : Int), .int ((p + (nO n).length : Nat) : Int)]) A := by
  unfold f_get_number
  refine fun_rt ?_
  refine (seq_nx (ρ1 := [some (.tup (dI os)), some (.int (p : Int)), some (.int 0), none, none]) (A1 := A) ?_).trans ?_
  · simp only [EVa, List.getElem?_cons_zero, List.getElem?_cons_succ, List.set_cons_zero, List.set_cons_succ, bind_ok, lift_ok, List.length_cons, List.length_nil, Nat.reduceAdd, Nat.reduceLeDiff, ↓reduceIte, if_true, if_false, Bool.false_eq_true, ev_raise, and_self, List.map_cons, List.map_nil, List.replicate, List.cons_append, List.nil_append, Nat.reduceSub]
  refine seq_rt ?_
  have hit : itemsOf A (.rng 0 9) = some ((List.range' 0 9).map fun i : Nat => D.int (i : Int)) := rfl
  have := get_go (p := p) hit 9 0 n 0 none none rfl hr hl (by omega)
  rw [ev_for, r1_at (j := 9) (A1 := A) (by simp only [EVa, List.getElem?_cons_zero, List.getElem?_cons_succ, List.set_cons_zero, List.set_cons_succ, bind_ok, lift_ok, List.length_cons, List.length_nil, Nat.reduceAdd, Nat.reduceLeDiff, ↓reduceIte, if_true, if_false, Bool.false_eq_true, ev_raise, and_self, List.map_cons, List.map_nil, List.replicate, List.cons_append, List.nil_append, Nat.reduceSub]) (by decide), lift_ok]
  simp only [hit]
  rw [this]
  simp
end JR
end
section
set_option maxHeartbeats 1000000
namespace JR
open PySem PySem.Spec PyProof.Rows L2 DM
/-! ### integers -/
def zz (i : Int) : Nat := if 0 ≤ i then (2 * i).toNat else (-2 * i - 1).toNat
theorem zz_lt {i : Int} {k : Nat} (h1 : -(k : Int) ≤ i) (h2 : i ≤ k) : zz i < 2 * k + 1 := by
  unfold zz; split <;> omega
theorem put_integer_ok {i : Int} (h : (nO (zz i)).length ≤ 1000) : Tells f_put_integer [.int i] (.tup (dI (nO (zz i)))) := fun A => by
  obtain ⟨G, hG⟩ := put_number_ok h A
  refine ⟨G, ?_⟩
  unfold f_put_integer
  refine fun_rt ?_
  by_cases hi : 0 ≤ i
  · have e : (2 : Int) * i = ((zz i : Nat) : Int) := by unfold zz; rw [if_pos hi]; omega
    simp only [EVa, List.getElem?_cons_zero, List.getElem?_cons_succ, List.set_cons_zero, List.set_cons_succ, bind_ok, lift_ok, List.length_cons, List.length_nil, Nat.reduceAdd, Nat.reduceLeDiff, ↓reduceIte, if_true, if_false, Bool.false_eq_true, ev_raise, and_self, List.map_cons, List.map_nil, List.replicate, List.cons_append, List.nil_append, Nat.reduceSub, ge_ii, decide_eq_true hi, mulA_ii (show CMul 2 i from .inl ⟨by decide, by decide⟩), e, hG]
  · have e : (-2 : Int) * i - 1 = ((zz i : Nat) : Int) := by unfold zz; rw [if_neg hi]; omega
    simp only [EVa, List.getElem?_cons_zero, List.getElem?_cons_succ, List.set_cons_zero, List.set_cons_succ, bind_ok, lift_ok, List.length_cons, List.length_nil, Nat.reduceAdd, Nat.reduceLeDiff, ↓reduceIte, if_true, if_false, Bool.false_eq_true, ev_raise, and_self, List.map_cons, List.map_nil, List.replicate, List.cons_append, List.nil_append, Nat.reduceSub, ge_ii, decide_eq_false hi, mulA_ii (show CMul (-2) i from .inl ⟨by decide, by decide⟩), sub_ii, e, hG]
theorem bind_tp {x y : D} {i j : Nat} {ρ : DM.Env} : bindT (.tp [.nm i, .nm j]) (.tup [x, y]) ρ = some ((ρ.set i (some x)).set j (some y)) := rfl
theorem bind_tp3 {x y z : D} {i j l : Nat} {ρ : DM.Env} : bindT (.tp [.nm i, .nm j, .nm l]) (.tup [x, y, z]) ρ = some (((ρ.set i (some x)).set j (some y)).set l (some z)) := rfl
theorem get_integer_ok {os rest : List Nat} {p : Nat} {i : Int} {A : AH} (hr : os.drop p = nO (zz i) ++ rest) (hl : (nO (zz i)).length ≤ 9) :
    f_get_integer [.tup (dI os), .int (p : Int)] A = .ok (.tup [.int i, .int ((p + (nO (zz i)).length : Nat) : Int)]) A := by
  have hg := get_number_ok (A := A) hr hl
  unfold f_get_integer
  refine fun_rt ?_
  refine (seq_nx (ρ1 := [some (.tup (dI os)), some (.int (p : Int)), some (.int ((zz i : Nat) : Int)), some (.int ((p + (nO (zz i)).length : Nat) : Int))]) (A1 := A) ?_).trans ?_
  · simp only [EVa, List.getElem?_cons_zero, List.getElem?_cons_succ, List.set_cons_zero, List.set_cons_succ, bind_ok, lift_ok, List.length_cons, List.length_nil, Nat.reduceAdd, Nat.reduceLeDiff, ↓reduceIte, if_true, if_false, Bool.false_eq_true, ev_raise, and_self, List.map_cons, List.map_nil, List.replicate, List.cons_append, List.nil_append, Nat.reduceSub, hg, bind_tp]
  by_cases hi : 0 ≤ i
  · have e1 : ((zz i % 2 : Nat) : Int) = 0 := by unfold zz; rw [if_pos hi]; omega
    have e2 : ((zz i : Nat) : Int) / 2 = i := by unfold zz; rw [if_pos hi]; omega
    simp only [EVa, List.getElem?_cons_zero, List.getElem?_cons_succ, List.set_cons_zero, List.set_cons_succ, bind_ok, lift_ok, List.length_cons, List.length_nil, Nat.reduceAdd, Nat.reduceLeDiff, ↓reduceIte, if_true, if_false, Bool.false_eq_true, ev_raise, and_self, List.map_cons, List.map_nil, List.replicate, List.cons_append, List.nil_append, Nat.reduceSub, and_ii, and1, e1, eq_ii, decide_true, div_ii (show CDiv ((zz i : Nat) : Int) 2 from ⟨by decide, by decide⟩), e2]
  · have e1 : ((zz i % 2 : Nat) : Int) = 1 := by unfold zz; rw [if_neg hi]; omega
    have e2 : -(((zz i : Nat) : Int) / 2) - 1 = i := by unfold zz; rw [if_neg hi]; omega
    simp only [EVa, List.getElem?_cons_zero, List.getElem?_cons_succ, List.set_cons_zero, List.set_cons_succ, bind_ok, lift_ok, List.length_cons, List.length_nil, Nat.reduceAdd, Nat.reduceLeDiff, ↓reduceIte, if_true, if_false, Bool.false_eq_true, ev_raise, and_self, List.map_cons, List.map_nil, List.replicate, List.cons_append, List.nil_append, Nat.reduceSub, and_ii, and1, e1, eq_ii, show decide ((1 : Int) = 0) = false from rfl, div_ii (show CDiv ((zz i : Nat) : Int) 2 from ⟨by decide, by decide⟩), sub_ii, e2]
/-! ### texts -/
def sT (cs : List Nat) : Str := ⟨cs.toArray⟩
theorem sT_cps (x : Str) : sT x.cps.toList = x := rfl
theorem sT_len (cs : List Nat) : (sT cs).length = cs.length := by simp [sT, Str.length]
theorem sT_snoc (cs : List Nat) (c : Nat) : sT cs ++ (⟨#[c]⟩ : Str) = sT (cs ++ [c]) := by
  show (Str.mk (cs.toArray ++ #[c])) = _
  simp [sT]
theorem len_str {x : Str} {A : AH} (h : x.length ≤ 16777216) : fLen [.str x] A = .ok (.int (x.length : Nat)) A := by
  simp only [fLen, h, if_true]
theorem len_sT {cs : List Nat} {A : AH} (h : cs.length ≤ 16777216) : fLen [.str (sT cs)] A = .ok (.int (cs.length : Nat)) A := by
  rw [len_str (by rw [sT_len]; exact h), sT_len]
theorem aug_ss {x y : Str} {A : AH} (h : x.length + y.length ≤ 16777216) : fAug (.str x) (.str y) A = .ok (.str (x ++ y)) A := by
  simp only [fAug, h, if_true]
theorem aug_tt {xs ys : List D} {A : AH} (h : xs.length + ys.length ≤ 16777216) : fAug (.tup xs) (.tup ys) A = .ok (.tup (xs ++ ys)) A := by
  simp only [fAug, h, if_true]
theorem add_tt {xs ys : List D} {A : AH} (h : xs.length + ys.length ≤ 16777216) : fAdd (.tup xs) (.tup ys) A = .ok (.tup (xs ++ ys)) A := by
  simp only [fAdd, h, if_true]
theorem eq_ss {x y : Str} {A : AH} : fEq false (.str x) (.str y) A = .ok (.bl (decide (x = y))) A := rfl
theorem ne_ss {x y : Str} {A : AH} : fEq true (.str x) (.str y) A = .ok (.bl (!decide (x = y))) A := rfl
theorem ord_one {c : Nat} {A : AH} : fOrd [.str ⟨#[c]⟩] A = .ok (.int (c : Nat)) A := rfl
theorem ev_strI {me : ME} {ρ : DM.Env} {A : AH} : mStrI me ρ A = (me ρ A).bind fun d A1 => (match d with
  | .str x => .ok (.sq (.lst (charsD x))) A1
  | _ => .no) := id rfl
/-- [ord(sign) for sign in text] -/
theorem ords_ok {x : Str} {i j : Nat} {me : ME} {ρ : DM.Env} {A : AH} (hm : me ρ A = .ok (.str x) A) (hl : x.cps.toList.length ≤ 16777216) (hw : j < ρ.length) :
    mLc false (mStrI me) (.nm j) mYes (mCall fOrd (mCons (mVar j) mNil)) [j] ρ A = .ok (.lst (dI x.cps.toList)) A := by
  have hw2 : j < (wipeD ρ [j]).length := by simpa [wipeD] using hw
  have hit : itemsOf A (.sq (.lst (charsD x))) = some (charsD x) := rfl
  have go := comp_pure (t := .nm j) (tt := mYes) (me := mCall fOrd (mCons (mVar j) mNil)) (ρ := wipeD ρ [j]) (p := fun _ => true) (f := fun d => match d with | .str y => .int ((y.cps.getD 0 0 : Nat) : Int) | _ => .non) hit (charsD x) [] (fun d hd => by
    obtain ⟨c, _, rfl⟩ := List.mem_map.mp hd
    refine ⟨(wipeD ρ [j]).set j (some (.str ⟨#[c]⟩)), rfl, rfl, fun _ => ?_⟩
    rw [ev_call, ev_cons, ev_var, List.getElem?_set_self hw2]
    rfl)
  rw [ev_lc, ev_strI, hm]
  simp only [bind_ok, hit]
  rw [if_pos (by unfold charsD; rw [List.length_map]; exact hl), go, filter_true]
  simp only [bind_ok, List.nil_append, Bool.false_eq_true, if_false]
  congr 2
  unfold charsD dI
  rw [List.map_map]
  rfl
/-! ### the dict of signs -/
def sgF (kvs : List (Key × D)) (cs : List Nat) : List (Key × D) := cs.foldl (fun kvs (c : Nat) => putKD kvs (.inl (c : Int)) (.str ⟨#[c]⟩)) kvs
theorem sgF_val (z : Nat) : ∀ (cs : List Nat) (kvs : List (Key × D)), valD (sgF kvs cs) (.inl (z : Int)) = if z ∈ cs then some (.str ⟨#[z]⟩) else valD kvs (.inl (z : Int))
  | [], kvs => by simp [sgF]
  | c :: cs, kvs => by
    show valD (sgF (putKD kvs (.inl (c : Int)) (.str ⟨#[c]⟩)) cs) _ = _
    rw [sgF_val z cs, valD_put]
    by_cases h : z ∈ cs
    · rw [if_pos h, if_pos (List.mem_cons_of_mem _ h)]
    · rw [if_neg h]
      by_cases hz : c = z
      · subst hz
        rw [if_pos rfl, if_pos List.mem_cons_self]
      · rw [if_neg (fun e => hz (by cases e; rfl)), if_neg (fun e => by exact (List.mem_cons.mp e).elim (fun e => hz e.symm) h)]
theorem dc_go {iv : ItV} {all : List D} {x0 x1 : Option D} {n : Nat} (hit : ∀ A, itemsOf A iv = some all) : ∀ (cs : List Nat) (kvs : List (Key × D)) (A : AH), A[n]? = some (.dk kvs) → kvs.length + cs.length < 16777216 →
    dcGo iv all (.nm 1) mYes (mCall fOrd (mCons (mVar 1) mNil)) (mVar 1) [x0, x1] n (cs.map fun c => D.str ⟨#[c]⟩) A = .ok () (A.set n (.dk (sgF kvs cs)))
  | [], kvs, A, hA, hl => by
    rw [List.map_nil]
    unfold dcGo
    rw [if_pos (hit A)]
    show _ = Res.ok () (A.set n (.dk kvs))
    rw [set_same hA]
  | c :: cs, kvs, A, hA, hl => by
    rw [List.length_cons] at hl
    rw [List.map_cons]
    have h2 := putKD_len (kvs := kvs) (a := .inl (c : Int)) (x := .str ⟨#[c]⟩)
    conv => lhs; unfold dcGo
    rw [if_pos (hit A), ev_nm]
    simp only [ev_yes, ev_call, ev_cons, ev_var, ev_nil, List.set_cons_succ, List.set_cons_zero, List.getElem?_cons_succ, List.getElem?_cons_zero, bind_ok, ord_one, DM.keyOf, hA]
    rw [if_pos (by omega), dc_go hit cs _ _ (set_get hA) (by omega), List.set_set]
    rfl
theorem signs_ok {x : Str} {A : AH} (hl : x.cps.toList.length < 16777216) : f_signs_by_octets [.str x] A = .ok (.ref A.length) (A ++ [.dk (sgF [] x.cps.toList)]) := by
  unfold f_signs_by_octets
  refine fun_rt ?_
  have hA : (A ++ [AO.dk []])[A.length]? = some (.dk []) := by simp
  have go := dc_go (iv := .sq (.lst (charsD x))) (all := charsD x) (x0 := some (.str x)) (x1 := none) (fun _ => rfl) x.cps.toList [] (A ++ [.dk []]) hA (by simpa using hl)
  have e3 : (A ++ [AO.dk []]).set A.length (.dk (sgF [] x.cps.toList)) = A ++ [.dk (sgF [] x.cps.toList)] := by
    rw [List.set_append_right _ _ (Nat.le_refl _)]; simp
  rw [e3] at go
  rw [ev_ret]
  unfold mDc
  rw [ev_strI, ev_var]
  simp only [List.map_cons, List.map_nil, List.length_cons, List.length_nil, Nat.reduceAdd, Nat.reduceSub, List.replicate, List.cons_append, List.nil_append, List.getElem?_cons_zero, bind_ok, itemsOf, seqOf, wipeD, List.set_cons_succ, List.set_cons_zero]
  have go2 : dcGo (.sq (.lst (charsD x))) (charsD x) (.nm 1) mYes (mCall fOrd (mCons (mVar 1) mNil)) (mVar 1) [some (.str x), none] A.length (charsD x) (A ++ [.dk []]) = _ := go
  rw [go2]
  rfl
theorem in_dict {A : AH} {d : Nat} {kvs : List (Key × D)} {e : D} {k : Key} {neg : Bool} (hA : A[d]? = some (.dk kvs)) (hk : keyOf e = some k) : fDInN neg e (.ref d) A = .ok (.bl ((valD kvs k).isSome != neg)) A := by
  cases e <;> first | (cases hk; done) | (unfold fDInN; simp only [hA, hk])
/-! ### keys -/
def KS : List Nat := (Str.ofString "0123456789_abcdefghijklmnopqrstuvwxyz").cps.toList
def TS : List Nat := (Str.ofString " -./0123456789:ABCDEFGHIJKLMNOPQRSTUVWXYZ_abcdefghijklmnopqrstuvwxyz").cps.toList
theorem KS_in : ∀ c ∈ KS, 0 < c ∧ c < 128 := by decide +kernel
theorem TS_in : ∀ c ∈ TS, 0 < c ∧ c < 128 := by decide +kernel
theorem KS_len : KS.length = 37 := by decide +kernel
theorem TS_len : TS.length = 68 := by decide +kernel
structure GoodK (k : Str) : Prop where
  ne : k.cps.toList ≠ []
  len : k.cps.toList.length ≤ 16
  sg : ∀ c ∈ k.cps.toList, c ∈ KS
structure GoodT (t : Str) : Prop where
  len : t.cps.toList.length ≤ 32
  sg : ∀ c ∈ t.cps.toList, c ∈ TS
def kO (k : Str) : List Nat := k.cps.toList ++ [0]
theorem put_key_ok {k : Str} (h : k.cps.toList.length ≤ 1000) {A : AH} : f_put_key [.str k] A = .ok (.tup (dI (kO k))) A := by
  have e := ords_ok (x := k) (i := 0) (j := 1) (me := mVar 0) (ρ := [some (.str k), none]) (A := A) rfl (by omega) (by simp)
  unfold f_put_key
  refine fun_rt ?_
  simp only [EVa, List.getElem?_cons_zero, List.getElem?_cons_succ, List.set_cons_zero, List.set_cons_succ, bind_ok, lift_ok, List.length_cons, List.length_nil, Nat.reduceAdd, Nat.reduceLeDiff, ↓reduceIte, if_true, if_false, Bool.false_eq_true, ev_raise, and_self, List.map_cons, List.map_nil, List.replicate, List.cons_append, List.nil_append, Nat.reduceSub, e, tup_lst]
  rw [add_tt (by rw [dI_length]; show _ + 1 ≤ _; omega)]
  unfold kO
  rw [dI_append]
  rfl
section
variable {os rest : List Nat} {p d : Nat} {A : AH}
theorem oct_cast {os : List Nat} {p i : Nat} {A : AH} : f_octet_at [.tup (dI os), .int ((p : Int) + (i : Int))] A = .ok (octD os[p + i]?) A := by
  rw [← Int.natCast_add]; exact octet_at_ok
theorem key_test {pre : List Nat} {c : Nat} (hA : A[d]? = some (.dk (sgF [] KS))) (hb : os[p + pre.length]? = some c) (hl : pre.length ≤ 1000) :
    t_get_key1 [some (.tup (dI os)), some (.int (p : Int)), some (.ref d), some (.str (sT pre))] A = .ok (decide (c ∈ KS)) A := by
  have e := oct_cast (os := os) (p := p) (i := pre.length) (A := A)
  rw [hb] at e
  have e2 : fDInN false (octD (some c)) (.ref d) A = .ok (.bl (decide (c ∈ KS))) A := by
    rw [in_dict hA (k := .inl (c : Int)) rfl, sgF_val]
    by_cases h : c ∈ KS
    · rw [if_pos h, decide_eq_true h]; rfl
    · rw [if_neg h, decide_eq_false h]; rfl
  unfold t_get_key1
  simp only [EVa, List.getElem?_cons_zero, List.getElem?_cons_succ, List.set_cons_zero, List.set_cons_succ, bind_ok, lift_ok, List.length_cons, List.length_nil, Nat.reduceAdd, Nat.reduceLeDiff, ↓reduceIte, if_true, if_false, Bool.false_eq_true, ev_raise, and_self, List.map_cons, List.map_nil, List.replicate, List.cons_append, List.nil_append, Nat.reduceSub, len_sT (show pre.length ≤ 16777216 by omega), add_ii, e, e2]
theorem key_turn {pre : List Nat} {c : Nat} (hA : A[d]? = some (.dk (sgF [] KS))) (hb : os[p + pre.length]? = some c) (hc : c ∈ KS) (hl : pre.length < 16) :
    b_get_key1 [some (.tup (dI os)), some (.int (p : Int)), some (.ref d), some (.str (sT pre))] A = .nx [some (.tup (dI os)), some (.int (p : Int)), some (.ref d), some (.str (sT (pre ++ [c])))] A := by
  have e1 : fIx (.tup (dI os)) (.int ((p : Int) + (pre.length : Int))) A = .ok (.int (c : Int)) A := ix_dI hb (by omega)
  have e2 : fDGet (.ref d) (.int (c : Int)) A = .ok (.str ⟨#[c]⟩) A := dget_run hA rfl (by rw [sgF_val, if_pos hc])
  have e3 : fAug (.str (sT pre)) (.str ⟨#[c]⟩) A = .ok (.str (sT (pre ++ [c]))) A := by
    rw [aug_ss (by rw [sT_len]; show _ + 1 ≤ _; omega), sT_snoc]
  unfold b_get_key1
  refine (seq_nx (ρ1 := [some (.tup (dI os)), some (.int (p : Int)), some (.ref d), some (.str (sT (pre ++ [c])))]) (A1 := A) ?_).trans ?_
  · simp only [EVa, List.getElem?_cons_zero, List.getElem?_cons_succ, List.set_cons_zero, List.set_cons_succ, bind_ok, lift_ok, List.length_cons, List.length_nil, Nat.reduceAdd, Nat.reduceLeDiff, ↓reduceIte, if_true, if_false, Bool.false_eq_true, ev_raise, and_self, List.map_cons, List.map_nil, List.replicate, List.cons_append, List.nil_append, Nat.reduceSub, ev_aug, len_sT (show pre.length ≤ 16777216 by omega), add_ii, e1, e2, e3]
  have hl2 : (pre ++ [c]).length ≤ 16 := by simp; omega
  simp only [ev_ifs, ev_tst, ev_op, ev_call, ev_cons, ev_var, ev_nil, ev_K, List.getElem?_cons_zero, List.getElem?_cons_succ, bind_ok, lift_ok, len_sT (show (pre ++ [c]).length ≤ 16777216 by omega), gt_ii, decide_eq_false (show ¬ (16 : Int) < ((pre ++ [c]).length : Nat) by omega), ev_next, Bool.false_eq_true, if_false]
theorem key_go (hA : A[d]? = some (.dk (sgF [] KS))) : ∀ (cs pre : List Nat), os.drop (p + pre.length) = cs ++ 0 :: rest → (∀ c ∈ cs, c ∈ KS) → pre.length + cs.length ≤ 16 →
    ∃ k, iterW t_get_key1 b_get_key1 k [some (.tup (dI os)), some (.int (p : Int)), some (.ref d), some (.str (sT pre))] A = .nx [some (.tup (dI os)), some (.int (p : Int)), some (.ref d), some (.str (sT (pre ++ cs)))] A
  | [], pre, hr, hc, hl => by
    have hb : os[p + pre.length]? = some 0 := by
      have : (os.drop (p + pre.length))[0]? = some 0 := by rw [hr]; rfl
      rwa [List.getElem?_drop] at this
    refine ⟨1, ?_⟩
    unfold iterW
    rw [key_test hA hb (by omega), decide_eq_false (fun h => by have := (KS_in 0 h).1; omega), List.append_nil]
  | c :: cs, pre, hr, hc, hl => by
    rw [List.length_cons] at hl
    have hb : os[p + pre.length]? = some c := by
      have : (os.drop (p + pre.length))[0]? = some c := by rw [hr]; rfl
      rwa [List.getElem?_drop] at this
    have hr2 : os.drop (p + (pre ++ [c]).length) = cs ++ 0 :: rest := by
      rw [List.length_append, List.length_singleton, ← Nat.add_assoc, ← List.drop_drop, hr]; rfl
    obtain ⟨k, e⟩ := key_go hA cs (pre ++ [c]) hr2 (fun z hz => hc z (List.mem_cons_of_mem _ hz)) (by simp; omega)
    refine ⟨k + 1, ?_⟩
    conv => lhs; unfold iterW
    rw [key_test hA hb (by omega), decide_eq_true (hc c List.mem_cons_self)]
    simp only [key_turn hA hb (hc c List.mem_cons_self) (by omega)]
    rw [e, List.append_assoc]
    rfl
end
theorem get_key_ok {os rest : List Nat} {p : Nat} {k : Str} (hk : GoodK k) (hr : os.drop p = kO k ++ rest) (A : AH) :
    ∃ G, f_get_key [.tup (dI os), .int (p : Int)] A = .ok (.tup [.str k, .int ((p + (kO k).length : Nat) : Int)]) (A ++ G) := by
  have hs := signs_ok (x := "0123456789_abcdefghijklmnopqrstuvwxyz") (A := A) (by show KS.length < _; rw [KS_len]; decide)
  have hA : (A ++ [AO.dk (sgF [] KS)])[A.length]? = some (.dk (sgF [] KS)) := by simp
  have hr2 : os.drop (p + ([] : List Nat).length) = k.cps.toList ++ 0 :: rest := by
    rw [List.length_nil, Nat.add_zero, hr]; unfold kO; simp
  obtain ⟨n, e⟩ := key_go hA k.cps.toList [] hr2 hk.sg (by have := hk.len; simpa using this)
  rw [List.nil_append, sT_cps] at e
  have hl := hk.len
  have hkl : (k.length : Nat) = k.cps.toList.length := by simp [Str.length]
  have h0 : os[p + k.length]? = some 0 := by
    have : (os.drop p)[k.cps.toList.length]? = some 0 := by rw [hr]; unfold kO; simp
    rw [List.getElem?_drop] at this
    rw [hkl]; exact this
  have eo := oct_cast (os := os) (p := p) (i := k.length) (A := A ++ [.dk (sgF [] KS)])
  rw [h0] at eo
  have en : decide (k = ("" : Str)) = false := decide_eq_false fun e => hk.ne (by rw [e]; rfl)
  refine ⟨[.dk (sgF [] KS)], ?_⟩
  unfold f_get_key
  refine fun_rt ?_
  refine (seq_nx (ρ1 := [some (.tup (dI os)), some (.int (p : Int)), some (.ref A.length), some (.str "")]) (A1 := A ++ [.dk (sgF [] KS)]) ?_).trans ?_
  · simp only [EVa, List.getElem?_cons_zero, List.getElem?_cons_succ, List.set_cons_zero, List.set_cons_succ, bind_ok, lift_ok, List.length_cons, List.length_nil, Nat.reduceAdd, Nat.reduceLeDiff, ↓reduceIte, if_true, if_false, Bool.false_eq_true, ev_raise, and_self, List.map_cons, List.map_nil, List.replicate, List.cons_append, List.nil_append, Nat.reduceSub, hs]
    rfl
  refine (seq_nx (mWhile_eq e (by intro z; cases z))).trans ?_
  refine (seq_nx (ρ1 := [some (.tup (dI os)), some (.int (p : Int)), some (.ref A.length), some (.str k)]) (A1 := A ++ [.dk (sgF [] KS)]) ?_).trans ?_
  · simp only [EVa, List.getElem?_cons_zero, List.getElem?_cons_succ, List.set_cons_zero, List.set_cons_succ, bind_ok, lift_ok, List.length_cons, List.length_nil, Nat.reduceAdd, Nat.reduceLeDiff, ↓reduceIte, if_true, if_false, Bool.false_eq_true, ev_raise, and_self, List.map_cons, List.map_nil, List.replicate, List.cons_append, List.nil_append, Nat.reduceSub, eq_ss, en, len_str (show k.length ≤ 16777216 by omega), add_ii, eo, octD, show fEq true (.int ((0 : Nat) : Int)) (.int 0) (A ++ [AO.dk (sgF [] KS)]) = .ok (.bl false) (A ++ [AO.dk (sgF [] KS)]) from rfl]
  simp only [EVa, List.getElem?_cons_zero, List.getElem?_cons_succ, List.set_cons_zero, List.set_cons_succ, bind_ok, lift_ok, List.length_cons, List.length_nil, Nat.reduceAdd, Nat.reduceLeDiff, ↓reduceIte, if_true, if_false, Bool.false_eq_true, ev_raise, and_self, List.map_cons, List.map_nil, List.replicate, List.cons_append, List.nil_append, Nat.reduceSub, len_str (show k.length ≤ 16777216 by omega), add_ii]
  rw [show (p : Int) + (k.length : Nat) + 1 = ((p + (kO k).length : Nat) : Int) by unfold kO; rw [List.length_append, List.length_singleton, ← hkl]; omega]
end JR
end
section
set_option maxHeartbeats 1000000
namespace JR
open PySem PySem.Spec PyProof.Rows L2 DM
def tO (t : Str) : List Nat := nO t.cps.toList.length ++ t.cps.toList
theorem put_text_ok {t : Str} (ht : GoodT t) : Tells f_put_text [.str t] (.tup (dI (tO t))) := fun A => by
  have hl := ht.len
  have hn := nO_len 8 t.cps.toList.length (by omega)
  have hkl : (t.length : Nat) = t.cps.toList.length := by simp [Str.length]
  obtain ⟨G, hG⟩ := put_number_ok (n := t.cps.toList.length) (by omega) A
  have e := ords_ok (x := t) (i := 0) (j := 1) (me := mVar 0) (ρ := [some (.str t), none]) (A := A ++ G) rfl (by omega) (by simp)
  refine ⟨G, ?_⟩
  unfold f_put_text
  refine fun_rt ?_
  simp only [EVa, List.getElem?_cons_zero, List.getElem?_cons_succ, List.set_cons_zero, List.set_cons_succ, bind_ok, lift_ok, List.length_cons, List.length_nil, Nat.reduceAdd, Nat.reduceLeDiff, ↓reduceIte, if_true, if_false, Bool.false_eq_true, ev_raise, and_self, List.map_cons, List.map_nil, List.replicate, List.cons_append, List.nil_append, Nat.reduceSub, len_str (show t.length ≤ 16777216 by omega), hkl, hG, e, tup_lst]
  rw [add_tt (by rw [dI_length, dI_length]; omega)]
  unfold tO
  rw [dI_append]
  rfl
section
variable {os rest : List Nat} {p d : Nat} {A : AH}
theorem text_turn {pre : List Nat} {c e many : Nat} {x6 : Option D} (hA : A[d]? = some (.dk (sgF [] TS))) (hb : os[e]? = some c) (hc : c ∈ TS) (hl : pre.length ≤ 1000) :
    b_get_text1 [some (.tup (dI os)), some (.int (p : Int)), some (.int (many : Int)), some (.int (e : Int)), some (.ref d), some (.str (sT pre)), x6] A = .nx [some (.tup (dI os)), some (.int (p : Int)), some (.int (many : Int)), some (.int ((e + 1 : Nat) : Int)), some (.ref d), some (.str (sT (pre ++ [c]))), some (.int (c : Int))] A := by
  have e0 := octet_at_ok (os := os) (p := e) (A := A)
  rw [hb] at e0
  have e1 : fDInN true (.int (c : Int)) (.ref d) A = .ok (.bl false) A := by
    rw [in_dict hA (k := .inl (c : Int)) rfl, sgF_val, if_pos hc]; rfl
  have e2 : fDGet (.ref d) (.int (c : Int)) A = .ok (.str ⟨#[c]⟩) A := dget_run hA rfl (by rw [sgF_val, if_pos hc])
  have e3 : fAug (.str (sT pre)) (.str ⟨#[c]⟩) A = .ok (.str (sT (pre ++ [c]))) A := by
    rw [aug_ss (by rw [sT_len]; show _ + 1 ≤ _; omega), sT_snoc]
  unfold b_get_text1
  refine (seq_nx (ρ1 := [some (.tup (dI os)), some (.int (p : Int)), some (.int (many : Int)), some (.int (e : Int)), some (.ref d), some (.str (sT pre)), some (.int (c : Int))]) (A1 := A) ?_).trans ?_
  · simp only [EVa, List.getElem?_cons_zero, List.getElem?_cons_succ, List.set_cons_zero, List.set_cons_succ, bind_ok, lift_ok, List.length_cons, List.length_nil, Nat.reduceAdd, Nat.reduceLeDiff, ↓reduceIte, if_true, if_false, Bool.false_eq_true, ev_raise, and_self, List.map_cons, List.map_nil, List.replicate, List.cons_append, List.nil_append, Nat.reduceSub, e0, octD]
  refine (seq_nx (ρ1 := [some (.tup (dI os)), some (.int (p : Int)), some (.int (many : Int)), some (.int (e : Int)), some (.ref d), some (.str (sT pre)), some (.int (c : Int))]) (A1 := A) ?_).trans ?_
  · simp only [EVa, List.getElem?_cons_zero, List.getElem?_cons_succ, List.set_cons_zero, List.set_cons_succ, bind_ok, lift_ok, List.length_cons, List.length_nil, Nat.reduceAdd, Nat.reduceLeDiff, ↓reduceIte, if_true, if_false, Bool.false_eq_true, ev_raise, and_self, List.map_cons, List.map_nil, List.replicate, List.cons_append, List.nil_append, Nat.reduceSub, e1]
  refine (seq_nx (ρ1 := [some (.tup (dI os)), some (.int (p : Int)), some (.int (many : Int)), some (.int (e : Int)), some (.ref d), some (.str (sT (pre ++ [c]))), some (.int (c : Int))]) (A1 := A) ?_).trans ?_
  · simp only [EVa, List.getElem?_cons_zero, List.getElem?_cons_succ, List.set_cons_zero, List.set_cons_succ, bind_ok, lift_ok, List.length_cons, List.length_nil, Nat.reduceAdd, Nat.reduceLeDiff, ↓reduceIte, if_true, if_false, Bool.false_eq_true, ev_raise, and_self, List.map_cons, List.map_nil, List.replicate, List.cons_append, List.nil_append, Nat.reduceSub, ev_aug, e2, e3]
  simp only [ev_aug, ev_K, List.getElem?_cons_zero, List.getElem?_cons_succ, bind_ok, aug_ii, lift_ok, List.set_cons_zero, List.set_cons_succ]
  rfl
theorem text_go (hA : A[d]? = some (.dk (sgF [] TS))) : ∀ (cs pre : List Nat) (e many : Nat) (x6 : Option D), os.drop e = cs ++ rest → (∀ c ∈ cs, c ∈ TS) → pre.length + cs.length = many → many ≤ 32 →
    ∃ k x6', iterW t_get_text1 b_get_text1 k [some (.tup (dI os)), some (.int (p : Int)), some (.int (many : Int)), some (.int (e : Int)), some (.ref d), some (.str (sT pre)), x6] A =
      .nx [some (.tup (dI os)), some (.int (p : Int)), some (.int (many : Int)), some (.int ((e + cs.length : Nat) : Int)), some (.ref d), some (.str (sT (pre ++ cs))), x6'] A
  | [], pre, e, many, x6, hr, hc, hm, hl => by
    refine ⟨1, x6, ?_⟩
    unfold iterW t_get_text1
    simp only [ev_tst, ev_op, ev_call, ev_cons, ev_nil, ev_var, List.getElem?_cons_zero, List.getElem?_cons_succ, bind_ok, len_sT (show pre.length ≤ 16777216 by simp at hm; omega), lt_ii]
    rw [decide_eq_false (by simp at hm; omega), List.append_nil]
    rfl
  | c :: cs, pre, e, many, x6, hr, hc, hm, hl => by
    rw [List.length_cons] at hm
    have hb : os[e]? = some c := by
      have : (os.drop e)[0]? = some c := by rw [hr]; rfl
      rwa [List.getElem?_drop] at this
    have hr2 : os.drop (e + 1) = cs ++ rest := by rw [← List.drop_drop, hr]; rfl
    obtain ⟨k, x6', go⟩ := text_go hA cs (pre ++ [c]) (e + 1) many (some (.int (c : Int))) hr2 (fun z hz => hc z (List.mem_cons_of_mem _ hz)) (by simp; omega) hl
    refine ⟨k + 1, x6', ?_⟩
    conv => lhs; unfold iterW t_get_text1
    simp only [ev_tst, ev_op, ev_call, ev_cons, ev_nil, ev_var, List.getElem?_cons_zero, List.getElem?_cons_succ, bind_ok, len_sT (show pre.length ≤ 16777216 by omega), lt_ii]
    rw [decide_eq_true (by omega)]
    simp only [text_turn hA hb (hc c List.mem_cons_self) (show pre.length ≤ 1000 by omega)]
    have e4 : t_get_text1 = mTst (mOp fLt (mCall fLen (mCons (mVar 5) mNil)) (mVar 2)) := rfl
    rw [← e4, go, List.append_assoc, List.length_cons, show e + 1 + cs.length = e + (cs.length + 1) by omega]
    rfl
end
theorem get_text_ok {os rest : List Nat} {p : Nat} {t : Str} (ht : GoodT t) (hr : os.drop p = tO t ++ rest) (A : AH) :
    ∃ G, f_get_text [.tup (dI os), .int (p : Int)] A = .ok (.tup [.str t, .int ((p + (tO t).length : Nat) : Int)]) (A ++ G) := by
  have hl := ht.len
  have hn := nO_len 8 t.cps.toList.length (by omega)
  have hs := signs_ok (x := " -./0123456789:ABCDEFGHIJKLMNOPQRSTUVWXYZ_abcdefghijklmnopqrstuvwxyz") (A := A) (by show TS.length < _; rw [TS_len]; decide)
  have hA : (A ++ [AO.dk (sgF [] TS)])[A.length]? = some (.dk (sgF [] TS)) := by simp
  have hg := get_number_ok (rest := t.cps.toList ++ rest) (p := p) (n := t.cps.toList.length) (A := A) (by rw [hr]; unfold tO; rw [List.append_assoc]) (by omega)
  have hr2 : os.drop (p + (nO t.cps.toList.length).length) = t.cps.toList ++ rest := by
    rw [← List.drop_drop, hr]; unfold tO; rw [List.append_assoc, List.drop_left]
  obtain ⟨k, x6, go⟩ := text_go (p := p) hA t.cps.toList [] _ t.cps.toList.length none hr2 ht.sg (by simp) hl
  rw [List.nil_append, sT_cps] at go
  refine ⟨[.dk (sgF [] TS)], ?_⟩
  unfold f_get_text
  refine fun_rt ?_
  refine (seq_nx (ρ1 := [some (.tup (dI os)), some (.int (p : Int)), some (.int ((t.cps.toList.length : Nat) : Int)), some (.int ((p + (nO t.cps.toList.length).length : Nat) : Int)), none, none, none]) (A1 := A) ?_).trans ?_
  · simp only [EVa, List.getElem?_cons_zero, List.getElem?_cons_succ, List.set_cons_zero, List.set_cons_succ, bind_ok, lift_ok, List.length_cons, List.length_nil, Nat.reduceAdd, Nat.reduceLeDiff, ↓reduceIte, if_true, if_false, Bool.false_eq_true, ev_raise, and_self, List.map_cons, List.map_nil, List.replicate, List.cons_append, List.nil_append, Nat.reduceSub, hg, bind_tp]
  refine (seq_nx (ρ1 := [some (.tup (dI os)), some (.int (p : Int)), some (.int ((t.cps.toList.length : Nat) : Int)), some (.int ((p + (nO t.cps.toList.length).length : Nat) : Int)), none, none, none]) (A1 := A) ?_).trans ?_
  · simp only [EVa, List.getElem?_cons_zero, List.getElem?_cons_succ, List.set_cons_zero, List.set_cons_succ, bind_ok, lift_ok, List.length_cons, List.length_nil, Nat.reduceAdd, Nat.reduceLeDiff, ↓reduceIte, if_true, if_false, Bool.false_eq_true, ev_raise, and_self, List.map_cons, List.map_nil, List.replicate, List.cons_append, List.nil_append, Nat.reduceSub, gt_ii, decide_eq_false (show ¬ (32 : Int) < ((t.cps.toList.length : Nat) : Int) by omega)]
  refine (seq_nx (ρ1 := [some (.tup (dI os)), some (.int (p : Int)), some (.int ((t.cps.toList.length : Nat) : Int)), some (.int ((p + (nO t.cps.toList.length).length : Nat) : Int)), some (.ref A.length), some (.str ""), none]) (A1 := A ++ [.dk (sgF [] TS)]) ?_).trans ?_
  · simp only [EVa, List.getElem?_cons_zero, List.getElem?_cons_succ, List.set_cons_zero, List.set_cons_succ, bind_ok, lift_ok, List.length_cons, List.length_nil, Nat.reduceAdd, Nat.reduceLeDiff, ↓reduceIte, if_true, if_false, Bool.false_eq_true, ev_raise, and_self, List.map_cons, List.map_nil, List.replicate, List.cons_append, List.nil_append, Nat.reduceSub, hs]
    rfl
  refine (seq_nx (mWhile_eq go (by intro z; cases z))).trans ?_
  simp only [EVa, List.getElem?_cons_zero, List.getElem?_cons_succ, List.set_cons_zero, List.set_cons_succ, bind_ok, lift_ok, List.length_cons, List.length_nil, Nat.reduceAdd, Nat.reduceLeDiff, ↓reduceIte, if_true, if_false, Bool.false_eq_true, ev_raise, and_self, List.map_cons, List.map_nil, List.replicate, List.cons_append, List.nil_append, Nat.reduceSub]
  unfold tO
  rw [List.length_append, Nat.add_assoc]
/-! ### values -/
def GoodV : D → Prop
  | .non => True
  | .int i => -1000000000000000000 ≤ i ∧ i ≤ 1000000000000000000
  | .str t => GoodT t
  | _ => False
def vO : D → List Nat
  | .non => [0]
  | .int i => 1 :: nO (zz i)
  | .str t => 2 :: tO t
  | _ => []
theorem zz_len {i : Int} (h : -1000000000000000000 ≤ i ∧ i ≤ 1000000000000000000) : (nO (zz i)).length ≤ 9 := by
  have := zz_lt (i := i) (k := 1000000000000000000) h.1 h.2
  exact nO_len 8 _ (by omega)
theorem is_text_ok {d : D} {A : AH} {n : String} (h : tyName A d = some n) : f_is_text [d] A = .ok (.bl (isB n "str")) A := by
  unfold f_is_text
  refine fun_rt ?_
  simp only [EVa, List.getElem?_cons_zero, List.getElem?_cons_succ, List.set_cons_zero, List.set_cons_succ, bind_ok, lift_ok, List.length_cons, List.length_nil, Nat.reduceAdd, Nat.reduceLeDiff, ↓reduceIte, if_true, if_false, Bool.false_eq_true, ev_raise, and_self, List.map_cons, List.map_nil, List.replicate, List.cons_append, List.nil_append, Nat.reduceSub, isi_ty h (show "str" ∈ tyNames by decide)]
theorem put_value_ok {v : D} (hv : GoodV v) : Tells f_put_value [v] (.tup (dI (vO v))) := fun A => by
  cases v with
  | non =>
    refine ⟨[], ?_⟩
    rw [List.append_nil]
    unfold f_put_value
    refine fun_rt (seq_rt ?_)
    simp only [EVa, List.getElem?_cons_zero, List.getElem?_cons_succ, List.set_cons_zero, List.set_cons_succ, bind_ok, lift_ok, List.length_cons, List.length_nil, Nat.reduceAdd, Nat.reduceLeDiff, ↓reduceIte, if_true, if_false, Bool.false_eq_true, ev_raise, and_self, List.map_cons, List.map_nil, List.replicate, List.cons_append, List.nil_append, Nat.reduceSub, isN_non, Bool.not_false]
    rfl
  | int i =>
    obtain ⟨G, hG⟩ := put_integer_ok (i := i) (by have := zz_len hv; omega) A
    refine ⟨G, ?_⟩
    have ht := is_text_ok (d := .int i) (A := A) (n := "int") rfl
    unfold f_put_value
    refine fun_rt ?_
    refine (seq_nx (ρ1 := [some (.int i)]) (A1 := A) ?_).trans ?_
    · simp only [EVa, List.getElem?_cons_zero, List.getElem?_cons_succ, List.set_cons_zero, List.set_cons_succ, bind_ok, lift_ok, List.length_cons, List.length_nil, Nat.reduceAdd, Nat.reduceLeDiff, ↓reduceIte, if_true, if_false, Bool.false_eq_true, ev_raise, and_self, List.map_cons, List.map_nil, List.replicate, List.cons_append, List.nil_append, Nat.reduceSub, isN_int]
    simp only [EVa, List.getElem?_cons_zero, List.getElem?_cons_succ, List.set_cons_zero, List.set_cons_succ, bind_ok, lift_ok, List.length_cons, List.length_nil, Nat.reduceAdd, Nat.reduceLeDiff, ↓reduceIte, if_true, if_false, Bool.false_eq_true, ev_raise, and_self, List.map_cons, List.map_nil, List.replicate, List.cons_append, List.nil_append, Nat.reduceSub, ht, show isB "int" "str" = false from by decide, hG]
    rw [add_tt (by rw [dI_length]; have := zz_len hv; show 1 + _ ≤ _; omega)]
    rfl
  | str t =>
    obtain ⟨G, hG⟩ := put_text_ok hv A
    refine ⟨G, ?_⟩
    have ht := is_text_ok (d := .str t) (A := A) (n := "str") rfl
    have hn := nO_len 8 t.cps.toList.length (by have := GoodT.len hv; omega)
    unfold f_put_value
    refine fun_rt ?_
    refine (seq_nx (ρ1 := [some (.str t)]) (A1 := A) ?_).trans ?_
    · simp only [EVa, List.getElem?_cons_zero, List.getElem?_cons_succ, List.set_cons_zero, List.set_cons_succ, bind_ok, lift_ok, List.length_cons, List.length_nil, Nat.reduceAdd, Nat.reduceLeDiff, ↓reduceIte, if_true, if_false, Bool.false_eq_true, ev_raise, and_self, List.map_cons, List.map_nil, List.replicate, List.cons_append, List.nil_append, Nat.reduceSub, isN_str]
    simp only [EVa, List.getElem?_cons_zero, List.getElem?_cons_succ, List.set_cons_zero, List.set_cons_succ, bind_ok, lift_ok, List.length_cons, List.length_nil, Nat.reduceAdd, Nat.reduceLeDiff, ↓reduceIte, if_true, if_false, Bool.false_eq_true, ev_raise, and_self, List.map_cons, List.map_nil, List.replicate, List.cons_append, List.nil_append, Nat.reduceSub, ht, show isB "str" "str" = true from by decide, hG]
    rw [add_tt (by rw [dI_length]; have := GoodT.len hv; unfold tO; rw [List.length_append]; show 1 + _ ≤ _; omega)]
    rfl
  | _ => exact hv.elim
theorem get_value_ok {os rest : List Nat} {p : Nat} {v : D} (hv : GoodV v) (hr : os.drop p = vO v ++ rest) (A : AH) :
    ∃ G, f_get_value [.tup (dI os), .int (p : Int)] A = .ok (.tup [v, .int ((p + (vO v).length : Nat) : Int)]) (A ++ G) := by
  have hb : ∀ b : Nat, (vO v ++ rest)[0]? = some b → f_octet_at [.tup (dI os), .int (p : Int)] A = .ok (.int (b : Int)) A := fun b h => by
    rw [octet_at_ok, show os[p]? = (os.drop p)[0]? by rw [List.getElem?_drop]; rfl, hr, h]; rfl
  cases v with
  | non =>
    refine ⟨[], ?_⟩
    rw [List.append_nil]
    have h0 := hb 0 rfl
    unfold f_get_value
    refine fun_rt ?_
    refine (seq_nx (ρ1 := [some (.tup (dI os)), some (.int (p : Int)), some (.int ((0 : Nat) : Int)), none, none]) (A1 := A) ?_).trans ?_
    · simp only [EVa, List.getElem?_cons_zero, List.getElem?_cons_succ, List.set_cons_zero, List.set_cons_succ, bind_ok, lift_ok, List.length_cons, List.length_nil, Nat.reduceAdd, Nat.reduceLeDiff, ↓reduceIte, if_true, if_false, Bool.false_eq_true, ev_raise, and_self, List.map_cons, List.map_nil, List.replicate, List.cons_append, List.nil_append, Nat.reduceSub, h0]
    refine seq_rt ?_
    simp only [EVa, List.getElem?_cons_zero, List.getElem?_cons_succ, List.set_cons_zero, List.set_cons_succ, bind_ok, lift_ok, List.length_cons, List.length_nil, Nat.reduceAdd, Nat.reduceLeDiff, ↓reduceIte, if_true, if_false, Bool.false_eq_true, ev_raise, and_self, List.map_cons, List.map_nil, List.replicate, List.cons_append, List.nil_append, Nat.reduceSub, eq_ii, show decide (((0 : Nat) : Int) = 0) = true from rfl, add_ii]
    rfl
  | int i =>
    refine ⟨[], ?_⟩
    rw [List.append_nil]
    have h0 := hb 1 rfl
    have hg : f_get_integer [.tup (dI os), .int ((p : Int) + 1)] A = .ok (.tup [.int i, .int ((p : Int) + 1 + (((nO (zz i)).length : Nat) : Int))]) A := by
      have := get_integer_ok (os := os) (rest := rest) (p := p + 1) (i := i) (A := A) (by rw [← List.drop_drop, hr]; rfl) (zz_len hv)
      simpa only [Int.natCast_add, Int.natCast_one] using this
    unfold f_get_value
    refine fun_rt ?_
    refine (seq_nx (ρ1 := [some (.tup (dI os)), some (.int (p : Int)), some (.int ((1 : Nat) : Int)), none, none]) (A1 := A) ?_).trans ?_
    · simp only [EVa, List.getElem?_cons_zero, List.getElem?_cons_succ, List.set_cons_zero, List.set_cons_succ, bind_ok, lift_ok, List.length_cons, List.length_nil, Nat.reduceAdd, Nat.reduceLeDiff, ↓reduceIte, if_true, if_false, Bool.false_eq_true, ev_raise, and_self, List.map_cons, List.map_nil, List.replicate, List.cons_append, List.nil_append, Nat.reduceSub, h0]
    refine (seq_nx (ρ1 := [some (.tup (dI os)), some (.int (p : Int)), some (.int ((1 : Nat) : Int)), none, none]) (A1 := A) ?_).trans ?_
    · simp only [EVa, List.getElem?_cons_zero, List.getElem?_cons_succ, List.set_cons_zero, List.set_cons_succ, bind_ok, lift_ok, List.length_cons, List.length_nil, Nat.reduceAdd, Nat.reduceLeDiff, ↓reduceIte, if_true, if_false, Bool.false_eq_true, ev_raise, and_self, List.map_cons, List.map_nil, List.replicate, List.cons_append, List.nil_append, Nat.reduceSub, eq_ii, show decide (((1 : Nat) : Int) = 0) = false from rfl]
    refine (seq_nx (ρ1 := [some (.tup (dI os)), some (.int (p : Int)), some (.int ((1 : Nat) : Int)), none, none]) (A1 := A) ?_).trans ?_
    · simp only [EVa, List.getElem?_cons_zero, List.getElem?_cons_succ, List.set_cons_zero, List.set_cons_succ, bind_ok, lift_ok, List.length_cons, List.length_nil, Nat.reduceAdd, Nat.reduceLeDiff, ↓reduceIte, if_true, if_false, Bool.false_eq_true, ev_raise, and_self, List.map_cons, List.map_nil, List.replicate, List.cons_append, List.nil_append, Nat.reduceSub, eq_ii, show decide (((1 : Nat) : Int) = 2) = false from rfl]
    refine (seq_nx (ρ1 := [some (.tup (dI os)), some (.int (p : Int)), some (.int ((1 : Nat) : Int)), none, none]) (A1 := A) ?_).trans ?_
    · simp only [EVa, List.getElem?_cons_zero, List.getElem?_cons_succ, List.set_cons_zero, List.set_cons_succ, bind_ok, lift_ok, List.length_cons, List.length_nil, Nat.reduceAdd, Nat.reduceLeDiff, ↓reduceIte, if_true, if_false, Bool.false_eq_true, ev_raise, and_self, List.map_cons, List.map_nil, List.replicate, List.cons_append, List.nil_append, Nat.reduceSub, ne_ii, show decide (((1 : Nat) : Int) = 1) = true from rfl, Bool.not_true]
    refine (seq_nx (ρ1 := [some (.tup (dI os)), some (.int (p : Int)), some (.int ((1 : Nat) : Int)), some (.int i), some (.int ((p : Int) + 1 + (((nO (zz i)).length : Nat) : Int)))]) (A1 := A) ?_).trans ?_
    · simp only [EVa, List.getElem?_cons_zero, List.getElem?_cons_succ, List.set_cons_zero, List.set_cons_succ, bind_ok, lift_ok, List.length_cons, List.length_nil, Nat.reduceAdd, Nat.reduceLeDiff, ↓reduceIte, if_true, if_false, Bool.false_eq_true, ev_raise, and_self, List.map_cons, List.map_nil, List.replicate, List.cons_append, List.nil_append, Nat.reduceSub, add_ii, hg, bind_tp]
    refine (seq_nx (ρ1 := [some (.tup (dI os)), some (.int (p : Int)), some (.int ((1 : Nat) : Int)), some (.int i), some (.int ((p : Int) + 1 + (((nO (zz i)).length : Nat) : Int)))]) (A1 := A) ?_).trans ?_
    · simp only [EVa, List.getElem?_cons_zero, List.getElem?_cons_succ, List.set_cons_zero, List.set_cons_succ, bind_ok, lift_ok, List.length_cons, List.length_nil, Nat.reduceAdd, Nat.reduceLeDiff, ↓reduceIte, if_true, if_false, Bool.false_eq_true, ev_raise, and_self, List.map_cons, List.map_nil, List.replicate, List.cons_append, List.nil_append, Nat.reduceSub, le_ii, decide_eq_true hv.1, decide_eq_true hv.2, Bool.not_true]
    simp only [EVa, List.getElem?_cons_zero, List.getElem?_cons_succ, List.set_cons_zero, List.set_cons_succ, bind_ok, lift_ok, List.length_cons, List.length_nil, Nat.reduceAdd, Nat.reduceLeDiff, ↓reduceIte, if_true, if_false, Bool.false_eq_true, ev_raise, and_self, List.map_cons, List.map_nil, List.replicate, List.cons_append, List.nil_append, Nat.reduceSub]
    rw [show (p : Int) + 1 + (((nO (zz i)).length : Nat) : Int) = ((p + (vO (.int i)).length : Nat) : Int) by show _ = ((p + ((nO (zz i)).length + 1) : Nat) : Int); omega]
  | str t =>
    have h0 := hb 2 rfl
    obtain ⟨G, hg⟩ := get_text_ok (os := os) (rest := rest) (p := p + 1) hv (by rw [← List.drop_drop, hr]; rfl) A
    refine ⟨G, ?_⟩
    unfold f_get_value
    refine fun_rt ?_
    refine (seq_nx (ρ1 := [some (.tup (dI os)), some (.int (p : Int)), some (.int ((2 : Nat) : Int)), none, none]) (A1 := A) ?_).trans ?_
    · simp only [EVa, List.getElem?_cons_zero, List.getElem?_cons_succ, List.set_cons_zero, List.set_cons_succ, bind_ok, lift_ok, List.length_cons, List.length_nil, Nat.reduceAdd, Nat.reduceLeDiff, ↓reduceIte, if_true, if_false, Bool.false_eq_true, ev_raise, and_self, List.map_cons, List.map_nil, List.replicate, List.cons_append, List.nil_append, Nat.reduceSub, h0]
    refine (seq_nx (ρ1 := [some (.tup (dI os)), some (.int (p : Int)), some (.int ((2 : Nat) : Int)), none, none]) (A1 := A) ?_).trans ?_
    · simp only [EVa, List.getElem?_cons_zero, List.getElem?_cons_succ, List.set_cons_zero, List.set_cons_succ, bind_ok, lift_ok, List.length_cons, List.length_nil, Nat.reduceAdd, Nat.reduceLeDiff, ↓reduceIte, if_true, if_false, Bool.false_eq_true, ev_raise, and_self, List.map_cons, List.map_nil, List.replicate, List.cons_append, List.nil_append, Nat.reduceSub, eq_ii, show decide (((2 : Nat) : Int) = 0) = false from rfl]
    refine seq_rt ?_
    rw [Int.natCast_add, show ((1 : Nat) : Int) = 1 from rfl] at hg
    simp only [EVa, List.getElem?_cons_zero, List.getElem?_cons_succ, List.set_cons_zero, List.set_cons_succ, bind_ok, lift_ok, List.length_cons, List.length_nil, Nat.reduceAdd, Nat.reduceLeDiff, ↓reduceIte, if_true, if_false, Bool.false_eq_true, ev_raise, and_self, List.map_cons, List.map_nil, List.replicate, List.cons_append, List.nil_append, Nat.reduceSub, eq_ii, show decide (((2 : Nat) : Int) = 2) = true from rfl, add_ii, hg]
    rw [show p + 1 + (tO t).length = p + (vO (.str t)).length by show _ = p + ((tO t).length + 1); omega]
  | _ => exact hv.elim
end JR
end
section
set_option maxHeartbeats 1000000
namespace JR
open PySem PySem.Spec PyProof.Rows L2 DM
abbrev Ws := List (Str × D)
def prD (kv : Str × D) : D := .tup [.str kv.1, kv.2]
def prs (ws : Ws) : List D := ws.map prD
def fl (ws : Ws) : List Nat := (ws.map fun kv => kO kv.1 ++ vO kv.2).flatten
def wO (ws : Ws) : List Nat := nO ws.length ++ fl ws
def Up (a b : Str) : Prop := sLe b a = false
structure GoodW (ws : Ws) : Prop where
  kv : ∀ kv ∈ ws, GoodK kv.1 ∧ GoodV kv.2
  len : ws.length ≤ 1000
  up : (ws.map (·.1)).Pairwise Up
theorem kO_len {k : Str} (h : GoodK k) : (kO k).length ≤ 17 := by
  unfold kO; rw [List.length_append, List.length_singleton]; have := h.len; omega
theorem vO_len {v : D} (h : GoodV v) : (vO v).length ≤ 42 := by
  cases v with
  | non => simp [vO]
  | int i => have := zz_len h; show (nO (zz i)).length + 1 ≤ 42; omega
  | str t =>
    have hl := GoodT.len h
    have hn := nO_len 8 t.cps.toList.length (by omega)
    show (tO t).length + 1 ≤ 42
    unfold tO
    rw [List.length_append]
    omega
  | _ => exact h.elim
theorem fl_len : ∀ {ws : Ws}, (∀ kv ∈ ws, GoodK kv.1 ∧ GoodV kv.2) → (fl ws).length ≤ 59 * ws.length
  | [], _ => by simp [fl]
  | kv :: ws, h => by
    have := fl_len (ws := ws) fun x hx => h x (List.mem_cons_of_mem _ hx)
    have h1 := kO_len (h kv List.mem_cons_self).1
    have h2 := vO_len (h kv List.mem_cons_self).2
    show ((kO kv.1 ++ vO kv.2) ++ fl ws).length ≤ _
    rw [List.length_append, List.length_append, List.length_cons]
    omega
theorem kO_oct {k : Str} (h : GoodK k) : ∀ b ∈ kO k, b < 256 := by
  intro b hb
  unfold kO at hb
  rcases List.mem_append.mp hb with hb | hb
  · have := (KS_in b (h.sg b hb)).2; omega
  · rw [List.mem_singleton] at hb; omega
theorem vO_oct {v : D} (h : GoodV v) : ∀ b ∈ vO v, b < 256 := by
  intro b hb
  cases v with
  | non => simp [vO] at hb; omega
  | int i =>
    rcases List.mem_cons.mp hb with hb | hb
    · omega
    · exact nO_oct _ b hb
  | str t =>
    rcases List.mem_cons.mp hb with hb | hb
    · omega
    · rcases List.mem_append.mp hb with hb | hb
      · exact nO_oct _ b hb
      · have := (TS_in b (GoodT.sg h b hb)).2; omega
  | _ => exact h.elim
theorem wO_oct {ws : Ws} (h : GoodW ws) : ∀ b ∈ wO ws, b < 256 := by
  intro b hb
  rcases List.mem_append.mp hb with hb | hb
  · exact nO_oct _ b hb
  · obtain ⟨l, hl, hb⟩ := List.mem_flatten.mp hb
    obtain ⟨kv, hk, rfl⟩ := List.mem_map.mp hl
    rcases List.mem_append.mp hb with hb | hb
    · exact kO_oct (h.kv kv hk).1 b hb
    · exact vO_oct (h.kv kv hk).2 b hb
theorem wO_len {ws : Ws} (h : GoodW ws) : (wO ws).length ≤ 59009 := by
  have h1 := fl_len h.kv
  have h2 := nO_len 8 ws.length (by have := h.len; omega)
  have := h.len
  unfold wO
  rw [List.length_append]
  omega
/-! ### put -/
theorem put_go2 {all : List D} {all' : D} : ∀ (ws : Ws) (acc : List Nat) (A : AH) (x2 x3 : Option D), (∀ kv ∈ ws, GoodK kv.1 ∧ GoodV kv.2) → acc.length + 59 * ws.length ≤ 1000000 →
    ∃ G x2' x3', forGo (.sq (.tup all)) all (.tp [.nm 2, .nm 3]) b_put_writes1 (prs ws) [some all', some (.tup (dI acc)), x2, x3] A = .nx [some all', some (.tup (dI (acc ++ fl ws))), x2', x3'] (A ++ G)
  | [], acc, A, x2, x3, _, _ => ⟨[], x2, x3, by
    have hit : itemsOf A (.sq (.tup all)) = some all := rfl
    show forGo _ _ _ _ [] _ _ = _
    rw [for_nil hit]
    simp [fl]⟩
  | kv :: ws, acc, A, x2, x3, h, hl => by
    rw [List.length_cons] at hl
    have hk := (h kv List.mem_cons_self).1
    have hv := (h kv List.mem_cons_self).2
    have h1 := kO_len hk
    have h2 := vO_len hv
    obtain ⟨G1, e1⟩ := put_value_ok hv A
    have e0 := put_key_ok (k := kv.1) (by have := hk.len; omega) (A := A)
    obtain ⟨G2, x2', x3', go⟩ := put_go2 (all := all) (all' := all') ws (acc ++ (kO kv.1 ++ vO kv.2)) (A ++ G1) (some (.str kv.1)) (some kv.2) (fun x hx => h x (List.mem_cons_of_mem _ hx)) (by rw [List.length_append, List.length_append]; omega)
    refine ⟨G1 ++ G2, x2', x3', ?_⟩
    have hit : itemsOf A (.sq (.tup all)) = some all := rfl
    refine (for_nx (ρ1 := [some all', some (.tup (dI acc)), some (.str kv.1), some kv.2]) (ρ2 := [some all', some (.tup (dI (acc ++ (kO kv.1 ++ vO kv.2)))), some (.str kv.1), some kv.2]) (A2 := A ++ G1) hit rfl ?_).trans ?_
    · unfold b_put_writes1
      simp only [EVa, List.getElem?_cons_zero, List.getElem?_cons_succ, List.set_cons_zero, List.set_cons_succ, bind_ok, lift_ok, List.length_cons, List.length_nil, Nat.reduceAdd, Nat.reduceLeDiff, ↓reduceIte, if_true, if_false, Bool.false_eq_true, ev_raise, and_self, List.map_cons, List.map_nil, List.replicate, List.cons_append, List.nil_append, Nat.reduceSub, ev_aug, e0, e1]
      rw [add_tt (by rw [dI_length, dI_length]; omega), bind_ok, ← dI_append, aug_tt (by rw [dI_length, dI_length, List.length_append]; omega), ← dI_append, lift_ok]
    · show forGo _ _ _ _ (prs ws) _ _ = _
      rw [go, List.append_assoc A, show acc ++ (kO kv.1 ++ vO kv.2) ++ fl ws = acc ++ fl (kv :: ws) by rw [List.append_assoc]; rfl]
theorem put_writes_ok {ws : Ws} (h : GoodW ws) : Tells f_put_writes [.tup (prs ws)] (.tup (dI (wO ws))) := fun A => by
  have hl := h.len
  have hn := nO_len 8 ws.length (by omega)
  obtain ⟨G1, e1⟩ := put_number_ok (n := ws.length) (by omega) A
  obtain ⟨G2, x2, x3, go⟩ := put_go2 (all := prs ws) (all' := .tup (prs ws)) ws (nO ws.length) (A ++ G1) none none h.kv (by omega)
  refine ⟨G1 ++ G2, ?_⟩
  have hlen : fLen [.tup (prs ws)] A = .ok (.int ((ws.length : Nat) : Int)) A := by
    show Res.ok (D.int ((prs ws).length : Nat)) A = _
    rw [show (prs ws).length = ws.length from List.length_map ..]
  unfold f_put_writes
  refine fun_rt ?_
  refine (seq_nx (ρ1 := [some (.tup (prs ws)), some (.tup (dI (nO ws.length))), none, none]) (A1 := A ++ G1) ?_).trans ?_
  · simp only [EVa, List.getElem?_cons_zero, List.getElem?_cons_succ, List.set_cons_zero, List.set_cons_succ, bind_ok, lift_ok, List.length_cons, List.length_nil, Nat.reduceAdd, Nat.reduceLeDiff, ↓reduceIte, if_true, if_false, Bool.false_eq_true, ev_raise, and_self, List.map_cons, List.map_nil, List.replicate, List.cons_append, List.nil_append, Nat.reduceSub, hlen, e1]
  refine (seq_nx (ρ1 := [some (.tup (prs ws)), some (.tup (dI (nO ws.length ++ fl ws))), x2, x3]) (A1 := A ++ G1 ++ G2) ?_).trans ?_
  · rw [ev_for, ev_sq, ev_var]
    simp only [List.getElem?_cons_zero, bind_ok, seqOf, lift_ok, itemsOf]
    exact go
  simp only [EVa, List.getElem?_cons_zero, List.getElem?_cons_succ, List.set_cons_zero, List.set_cons_succ, bind_ok, lift_ok, List.length_cons, List.length_nil, Nat.reduceAdd, Nat.reduceLeDiff, ↓reduceIte, if_true, if_false, Bool.false_eq_true, ev_raise, and_self, List.map_cons, List.map_nil, List.replicate, List.cons_append, List.nil_append, Nat.reduceSub]
  rw [List.append_assoc]
  rfl
theorem put_entries_ok {ws : Ws} (h : GoodW ws) : Tells f_put_entries [.tup (prs ws)] (.tup (dI (wO ws))) := fun A => by
  obtain ⟨G, e⟩ := put_writes_ok h A
  refine ⟨G, ?_⟩
  unfold f_put_entries
  refine fun_rt ?_
  simp only [EVa, List.getElem?_cons_zero, List.getElem?_cons_succ, List.set_cons_zero, List.set_cons_succ, bind_ok, lift_ok, List.length_cons, List.length_nil, Nat.reduceAdd, Nat.reduceLeDiff, ↓reduceIte, if_true, if_false, Bool.false_eq_true, ev_raise, and_self, List.map_cons, List.map_nil, List.replicate, List.cons_append, List.nil_append, Nat.reduceSub, e]
/-! ### data -/
mutual
theorem toPyG_of (g : Nat → Option PyData) : ∀ (d : D) (p : PyData), toPy d = some p → toPyG g d = some p
  | .non, _, h => h
  | .bl _, _, h => h
  | .int _, _, h => h
  | .str _, _, h => h
  | .tup xs, p, h => by
    simp only [toPy, Option.map_eq_some_iff] at h
    obtain ⟨q, h1, h2⟩ := h
    simp only [toPyG, toPysG_of g xs q h1, Option.map_some, h2]
  | .qtup xs, p, h => by
    simp only [toPy, Option.map_eq_some_iff] at h
    obtain ⟨q, h1, h2⟩ := h
    simp only [toPyG, toPysG_of g xs q h1, Option.map_some, h2]
  | .lst xs, p, h => by
    simp only [toPy, Option.map_eq_some_iff] at h
    obtain ⟨q, h1, h2⟩ := h
    simp only [toPyG, toPysG_of g xs q h1, Option.map_some, h2]
  | .ty _, _, h => by cases h
  | .abs _, _, h => by cases h
  | .cl _, _, h => by cases h
  | .ref _, _, h => by cases h
  | .exv _ _ _ _, _, h => by cases h
  | .fnv _ _ _ _ _, _, h => by cases h
theorem toPysG_of (g : Nat → Option PyData) : ∀ (ds : List D) (ps : List PyData), toPys ds = some ps → toPysG g ds = some ps
  | [], _, h => h
  | d :: ds, ps, h => by
    unfold toPys at h
    split at h
    · rename_i q qs h1 h2
      cases h
      unfold toPysG
      rw [toPyG_of g d q h1, toPysG_of g ds qs h2]
    · cases h
end
/-- data that can be shown and compared -/
def Shd (k w : Nat) (d : D) (q : PyData) : Prop := toPy d = some q ∧ FewB 20 k w q
theorem eq_refn {A : AH} {n : Nat} {xs : List D} {qs : List PyData} {k : Nat} (h : A[n]? = some (.lst xs)) (h2 : toPys xs = some qs) (h3 : PyData.canLayAll0 qs = true) (h4 : PyData.depthAll qs ≤ k) (hk : k ≤ 63) {neg : Bool} :
    fEq neg (.ref n) (.lst []) A = .ok (.bl (if neg then !xs.isEmpty else xs.isEmpty)) A := by
  have hz : SeqAt.shaped (.list []) = true := by decide +kernel
  have hs : SeqAt.shaped (.list qs) = true := by
    unfold SeqAt.shaped
    simp only [PyData.canLay0, PyData.depth, h3, Bool.true_and]
    exact decide_eq_true (by omega)
  have e0 : toPyA A (.ref n) = some (.list qs) := by
    unfold toPyA
    simp only [toPy, toPyG, refPy, h, toPysG_of _ xs qs h2, Option.map_some]
  rw [eq_pyS e0 (toPyA_of (q := .list []) rfl) rfl hs hz]
  have e1 : PyData.eqv (.list qs) (.list []) = xs.isEmpty := by
    simp only [PyData.eqv]
    rw [eqvAll_nil]
    cases xs with
    | nil => cases h2; rfl
    | cons x xs =>
      unfold toPys at h2
      split at h2
      · cases h2; rfl
      · cases h2
  rw [e1]
/-- a value's data -/
def vPy : D → PyData
  | .int i => .int i
  | .str t => .str t
  | _ => .none
theorem str_few {x : Str} (h1 : ∀ c ∈ x.cps.toList, c < 128) (h2 : x.cps.toList.length ≤ 64) : FewB 20 0 64 (.str x) := by
  refine fewB_str ?_ ?_ (by simpa using h2)
  · simp only [PyData.canLay0]
    unfold PyData.strOk
    rw [← Array.all_toList, List.all_eq_true]
    intro c hc
    exact decide_eq_true (Nat.lt_trans (h1 c hc) (by decide))
  · rw [List.all_eq_true]
    intro c hc
    exact decide_eq_true (Nat.lt_trans (h1 c hc) (by decide))
theorem v_shd {v : D} (h : GoodV v) : Shd 0 64 v (vPy v) := by
  cases v with
  | non => exact ⟨rfl, fewB_none⟩
  | int i => exact ⟨rfl, fewB_int (by decide) (by have h1 := h.1; have h2 := h.2; omega)⟩
  | str t => exact ⟨rfl, str_few (fun c hc => (TS_in c (GoodT.sg h c hc)).2) (by have := GoodT.len h; omega)⟩
  | _ => exact h.elim
def prPy (kv : Str × D) : PyData := .tuple [.str kv.1, vPy kv.2]
theorem pr_shd {kv : Str × D} (h : GoodK kv.1 ∧ GoodV kv.2) : Shd 1 130 (prD kv) (prPy kv) := by
  have hv := v_shd h.2
  refine ⟨?_, ?_⟩
  · unfold prD prPy
    simp only [toPy, toPys, hv.1, Option.map_some]
  · exact fewB_tuple fun x hx => by
      rcases List.mem_cons.mp hx with rfl | hx
      · exact str_few (fun c hc => (KS_in c (h.1.sg c hc)).2) (by have := h.1.len; omega)
      · rw [List.mem_singleton] at hx; subst hx; exact hv.2
theorem shd_all {k w : Nat} {f : α → D} {g : α → PyData} : ∀ {xs : List α}, (∀ x ∈ xs, Shd k w (f x) (g x)) → toPys (xs.map f) = some (xs.map g) ∧ ∀ y ∈ xs.map g, FewB 20 k w y
  | [], _ => ⟨rfl, fun y hy => nomatch hy⟩
  | x :: xs, h => by
    obtain ⟨h1, h2⟩ := shd_all (xs := xs) fun y hy => h y (List.mem_cons_of_mem _ hy)
    have h3 := h x List.mem_cons_self
    refine ⟨?_, fun y hy => ?_⟩
    · rw [List.map_cons, toPys, h3.1, h1]; rfl
    · rcases List.mem_cons.mp hy with rfl | hy
      · exact h3.2
      · exact h2 y hy
end JR
end
section
set_option maxHeartbeats 1000000
namespace JR
open PySem PySem.Spec PyProof.Rows L2 DM
theorem at_last {α : Type} (xs : List α) (b : α) : atI (xs ++ [b]) (-1) = some b := by
  exact atI_last xs b
theorem atI_nat {α : Type} {xs : List α} {j : Nat} {x : α} (h : xs[j]? = some x) : atI xs (j : Int) = some x := by
  have hj := (List.getElem?_eq_some_iff.mp h).1
  unfold atI ixN
  rw [if_pos (by omega), if_pos (by omega)]
  simpa using h
theorem mid_at {A B : AH} {x : AO} : (A ++ x :: B)[A.length]? = some x := by simp
theorem mid_set {A B : AH} {x y : AO} : (A ++ x :: B).set A.length y = A ++ y :: B := by
  rw [List.set_append_right _ _ (Nat.le_refl _)]; simp
theorem prs_few {ws : Ws} (h : ∀ kv ∈ ws, GoodK kv.1 ∧ GoodV kv.2) : toPys (prs ws) = some (ws.map prPy) ∧ PyData.canLayAll0 (ws.map prPy) = true ∧ PyData.depthAll (ws.map prPy) ≤ 1 := by
  obtain ⟨h1, h2⟩ := shd_all (f := prD) (g := prPy) fun kv hk => pr_shd (h kv hk)
  obtain ⟨a, _, _, d, _⟩ := fewB_all _ h2
  exact ⟨h1, a, d⟩
theorem ix0_tup {x : D} {xs : List D} {A : AH} : fIx (.tup (x :: xs)) (.int 0) A = .ok x A := ix_tup (atI_nat (j := 0) rfl)
theorem ix1_tup {x y : D} {xs : List D} {A : AH} : fIx (.tup (x :: y :: xs)) (.int 1) A = .ok y A := ix_tup (atI_nat (j := 1) rfl)
theorem leX_ss {x y : Str} {A : AH} : fLeX (.str x) (.str y) A = .ok (.bl (sLe x y)) A := rfl
theorem len_ref {A : AH} {n : Nat} {xs : List D} (h : A[n]? = some (.lst xs)) : fLen [.ref n] A = .ok (.int (xs.length : Nat)) A := by
  simp only [fLen, seqOf, h]
theorem tup_ref {A : AH} {n : Nat} {xs : List D} (h : A[n]? = some (.lst xs)) : fTup [.ref n] A = .ok (.tup xs) A := by
  simp only [fTup, seqOf, h]
section
variable {os rest : List Nat} {p many : Nat} {w : Bool} {A0 : AH}
theorem pairs_turn {kv : Str × D} {done : Ws} {e : Nat} {B : AH} {x6 x7 x8 : Option D} (hd : ∀ kv ∈ done, GoodK kv.1 ∧ GoodV kv.2) (hk : GoodK kv.1 ∧ GoodV kv.2) (hr : os.drop e = (kO kv.1 ++ vO kv.2) ++ rest) (hup : ((done ++ [kv]).map (·.1)).Pairwise Up) (hw : w = true → isNon kv.2 = false) (hl : done.length ≤ 1000) :
    ∃ B', b_get_pairs1 [some (.tup (dI os)), some (.int (p : Int)), some (.bl w), some (.int (many : Int)), some (.int (e : Int)), some (.ref A0.length), x6, x7, x8] (A0 ++ .lst (prs done) :: B) =
      .nx [some (.tup (dI os)), some (.int (p : Int)), some (.bl w), some (.int (many : Int)), some (.int ((e + (kO kv.1 ++ vO kv.2).length : Nat) : Int)), some (.ref A0.length), some (.str kv.1), some (.int ((e + (kO kv.1).length : Nat) : Int)), some kv.2] (A0 ++ .lst (prs (done ++ [kv])) :: B') := by
  obtain ⟨G1, e1⟩ := get_key_ok (rest := vO kv.2 ++ rest) hk.1 (by rw [hr, List.append_assoc]) (A0 ++ .lst (prs done) :: B)
  have hr2 : os.drop (e + (kO kv.1).length) = vO kv.2 ++ rest := by rw [← List.drop_drop, hr, List.append_assoc, List.drop_left]
  obtain ⟨G2, e2⟩ := get_value_ok hk.2 hr2 (A0 ++ .lst (prs done) :: B ++ G1)
  rw [List.append_assoc, List.cons_append] at e1 e2
  rw [List.append_assoc, List.cons_append] at e2
  refine ⟨B ++ G1 ++ G2, ?_⟩
  have hA1 : (A0 ++ AO.lst (prs done) :: (B ++ G1))[A0.length]? = some (.lst (prs done)) := mid_at
  have hA2 : (A0 ++ AO.lst (prs done) :: (B ++ G1 ++ G2))[A0.length]? = some (.lst (prs done)) := mid_at
  obtain ⟨q1, q2, q3⟩ := prs_few hd
  have hne := eq_refn (neg := true) hA1 q1 q2 q3 (by decide)
  unfold b_get_pairs1
  refine (seq_nx (ρ1 := [some (.tup (dI os)), some (.int (p : Int)), some (.bl w), some (.int (many : Int)), some (.int (e : Int)), some (.ref A0.length), some (.str kv.1), some (.int ((e + (kO kv.1).length : Nat) : Int)), x8]) (A1 := A0 ++ .lst (prs done) :: (B ++ G1)) ?_).trans ?_
  · simp only [EVa, List.getElem?_cons_zero, List.getElem?_cons_succ, List.set_cons_zero, List.set_cons_succ, bind_ok, lift_ok, List.length_cons, List.length_nil, Nat.reduceAdd, Nat.reduceLeDiff, ↓reduceIte, if_true, if_false, Bool.false_eq_true, ev_raise, and_self, List.map_cons, List.map_nil, List.replicate, List.cons_append, List.nil_append, Nat.reduceSub, e1, bind_tp]
  refine (seq_nx (ρ1 := [some (.tup (dI os)), some (.int (p : Int)), some (.bl w), some (.int (many : Int)), some (.int (e : Int)), some (.ref A0.length), some (.str kv.1), some (.int ((e + (kO kv.1).length : Nat) : Int)), x8]) (A1 := A0 ++ .lst (prs done) :: (B ++ G1)) ?_).trans ?_
  · rcases List.eq_nil_or_concat done with rfl | ⟨ds, b, rfl⟩
    · simp only [EVa, List.getElem?_cons_zero, List.getElem?_cons_succ, List.set_cons_zero, List.set_cons_succ, bind_ok, lift_ok, List.length_cons, List.length_nil, Nat.reduceAdd, Nat.reduceLeDiff, ↓reduceIte, if_true, if_false, Bool.false_eq_true, ev_raise, and_self, List.map_cons, List.map_nil, List.replicate, List.cons_append, List.nil_append, Nat.reduceSub, hne, show (prs []).isEmpty = true from rfl, Bool.not_true]
    · rw [List.concat_eq_append] at hne hA1 hup ⊢
      have hx : fIx (.ref A0.length) (.int (-1)) (A0 ++ AO.lst (prs (ds ++ [b])) :: (B ++ G1)) = .ok (prD b) (A0 ++ AO.lst (prs (ds ++ [b])) :: (B ++ G1)) := ix_ref hA1 (by
        rw [show prs (ds ++ [b]) = prs ds ++ [prD b] by simp [prs]]
        exact at_last _ _)
      have hy : fIx (prD b) (.int 0) (A0 ++ AO.lst (prs (ds ++ [b])) :: (B ++ G1)) = .ok (.str b.1) (A0 ++ AO.lst (prs (ds ++ [b])) :: (B ++ G1)) := rfl
      have hu : sLe kv.1 b.1 = false := by
        rw [List.map_append, List.pairwise_append] at hup
        exact hup.2.2 b.1 (by simp) kv.1 (by simp)
      have he : (prs (ds ++ [b])).isEmpty = false := by simp [prs]
      simp only [EVa, List.getElem?_cons_zero, List.getElem?_cons_succ, List.set_cons_zero, List.set_cons_succ, bind_ok, lift_ok, List.length_cons, List.length_nil, Nat.reduceAdd, Nat.reduceLeDiff, ↓reduceIte, if_true, if_false, Bool.false_eq_true, ev_raise, and_self, List.map_cons, List.map_nil, List.replicate, List.cons_append, List.nil_append, Nat.reduceSub, hne, he, Bool.not_false, hx, hy, leX_ss, hu]
  refine (seq_nx (ρ1 := [some (.tup (dI os)), some (.int (p : Int)), some (.bl w), some (.int (many : Int)), some (.int ((e + (kO kv.1 ++ vO kv.2).length : Nat) : Int)), some (.ref A0.length), some (.str kv.1), some (.int ((e + (kO kv.1).length : Nat) : Int)), some kv.2]) (A1 := A0 ++ .lst (prs done) :: (B ++ G1 ++ G2)) ?_).trans ?_
  · simp only [EVa, List.getElem?_cons_zero, List.getElem?_cons_succ, List.set_cons_zero, List.set_cons_succ, bind_ok, lift_ok, List.length_cons, List.length_nil, Nat.reduceAdd, Nat.reduceLeDiff, ↓reduceIte, if_true, if_false, Bool.false_eq_true, ev_raise, and_self, List.map_cons, List.map_nil, List.replicate, List.cons_append, List.nil_append, Nat.reduceSub, e2, bind_tp]
    rw [List.length_append, ← Nat.add_assoc]
  refine (seq_nx (ρ1 := [some (.tup (dI os)), some (.int (p : Int)), some (.bl w), some (.int (many : Int)), some (.int ((e + (kO kv.1 ++ vO kv.2).length : Nat) : Int)), some (.ref A0.length), some (.str kv.1), some (.int ((e + (kO kv.1).length : Nat) : Int)), some kv.2]) (A1 := A0 ++ .lst (prs done) :: (B ++ G1 ++ G2)) ?_).trans ?_
  · have hn : fIsN false kv.2 .non (A0 ++ AO.lst (prs done) :: (B ++ G1 ++ G2)) = .ok (.bl (isNon kv.2)) (A0 ++ AO.lst (prs done) :: (B ++ G1 ++ G2)) := rfl
    cases w with
    | false => simp only [EVa, List.getElem?_cons_zero, List.getElem?_cons_succ, List.set_cons_zero, List.set_cons_succ, bind_ok, lift_ok, List.length_cons, List.length_nil, Nat.reduceAdd, Nat.reduceLeDiff, ↓reduceIte, if_true, if_false, Bool.false_eq_true, ev_raise, and_self, List.map_cons, List.map_nil, List.replicate, List.cons_append, List.nil_append, Nat.reduceSub]
    | true => simp only [EVa, List.getElem?_cons_zero, List.getElem?_cons_succ, List.set_cons_zero, List.set_cons_succ, bind_ok, lift_ok, List.length_cons, List.length_nil, Nat.reduceAdd, Nat.reduceLeDiff, ↓reduceIte, if_true, if_false, Bool.false_eq_true, ev_raise, and_self, List.map_cons, List.map_nil, List.replicate, List.cons_append, List.nil_append, Nat.reduceSub, hn, hw rfl]
  have ha := app_run (x := prD kv) hA2 (by unfold prs; rw [List.length_map]; omega)
  rw [mid_set] at ha
  have ha' : fApp A0.length [.tup [.str kv.1, kv.2]] (A0 ++ AO.lst (prs done) :: (B ++ G1 ++ G2)) = .ok .non (A0 ++ AO.lst (prs done ++ [prD kv]) :: (B ++ G1 ++ G2)) := ha
  simp only [EVa, List.getElem?_cons_zero, List.getElem?_cons_succ, List.set_cons_zero, List.set_cons_succ, bind_ok, lift_ok, List.length_cons, List.length_nil, Nat.reduceAdd, Nat.reduceLeDiff, ↓reduceIte, if_true, if_false, Bool.false_eq_true, ev_raise, and_self, List.map_cons, List.map_nil, List.replicate, List.cons_append, List.nil_append, Nat.reduceSub, hA2, ha']
  rw [show prs (done ++ [kv]) = prs done ++ [prD kv] by simp [prs]]
theorem pairs_go : ∀ (ws done : Ws) (e : Nat) (B : AH) (x6 x7 x8 : Option D), (∀ kv ∈ done, GoodK kv.1 ∧ GoodV kv.2) → (∀ kv ∈ ws, GoodK kv.1 ∧ GoodV kv.2) → os.drop e = fl ws ++ rest → ((done ++ ws).map (·.1)).Pairwise Up → (w = true → ∀ kv ∈ ws, isNon kv.2 = false) → done.length + ws.length = many → many ≤ 1000 →
    ∃ k B' x6' x7' x8', iterW t_get_pairs1 b_get_pairs1 k [some (.tup (dI os)), some (.int (p : Int)), some (.bl w), some (.int (many : Int)), some (.int (e : Int)), some (.ref A0.length), x6, x7, x8] (A0 ++ .lst (prs done) :: B) =
      .nx [some (.tup (dI os)), some (.int (p : Int)), some (.bl w), some (.int (many : Int)), some (.int ((e + (fl ws).length : Nat) : Int)), some (.ref A0.length), x6', x7', x8'] (A0 ++ .lst (prs (done ++ ws)) :: B')
  | [], done, e, B, x6, x7, x8, hd, hws, hr, hup, hw, hm, hl => by
    have ht : t_get_pairs1 [some (.tup (dI os)), some (.int (p : Int)), some (.bl w), some (.int (many : Int)), some (.int (e : Int)), some (.ref A0.length), x6, x7, x8] (A0 ++ .lst (prs done) :: B) = .ok (decide (((prs done).length : Int) < (many : Int))) (A0 ++ .lst (prs done) :: B) := by
      unfold t_get_pairs1
      simp only [EVa, List.getElem?_cons_zero, List.getElem?_cons_succ, List.set_cons_zero, List.set_cons_succ, bind_ok, lift_ok, List.length_cons, List.length_nil, Nat.reduceAdd, Nat.reduceLeDiff, ↓reduceIte, if_true, if_false, Bool.false_eq_true, ev_raise, and_self, List.map_cons, List.map_nil, List.replicate, List.cons_append, List.nil_append, Nat.reduceSub, len_ref (A := A0 ++ .lst (prs done) :: B) mid_at, lt_ii]
    refine ⟨1, B, x6, x7, x8, ?_⟩
    unfold iterW
    rw [ht, decide_eq_false (by unfold prs; rw [List.length_map]; simp at hm; omega), List.append_nil]
    simp [fl]
  | kv :: ws, done, e, B, x6, x7, x8, hd, hws, hr, hup, hw, hm, hl => by
    rw [List.length_cons] at hm
    have ht : t_get_pairs1 [some (.tup (dI os)), some (.int (p : Int)), some (.bl w), some (.int (many : Int)), some (.int (e : Int)), some (.ref A0.length), x6, x7, x8] (A0 ++ .lst (prs done) :: B) = .ok (decide (((prs done).length : Int) < (many : Int))) (A0 ++ .lst (prs done) :: B) := by
      unfold t_get_pairs1
      simp only [EVa, List.getElem?_cons_zero, List.getElem?_cons_succ, List.set_cons_zero, List.set_cons_succ, bind_ok, lift_ok, List.length_cons, List.length_nil, Nat.reduceAdd, Nat.reduceLeDiff, ↓reduceIte, if_true, if_false, Bool.false_eq_true, ev_raise, and_self, List.map_cons, List.map_nil, List.replicate, List.cons_append, List.nil_append, Nat.reduceSub, len_ref (A := A0 ++ .lst (prs done) :: B) mid_at, lt_ii]
    have hr1 : os.drop e = (kO kv.1 ++ vO kv.2) ++ (fl ws ++ rest) := by rw [hr, ← List.append_assoc]; rfl
    have hup2 : ((done ++ [kv] ++ ws).map (·.1)).Pairwise Up := by rw [List.append_assoc]; exact hup
    have hup1 : ((done ++ [kv]).map (·.1)).Pairwise Up := by
      rw [List.map_append, List.pairwise_append] at hup2; exact hup2.1
    obtain ⟨B1, turn⟩ := pairs_turn (p := p) (many := many) (w := w) (A0 := A0) (B := B) (x6 := x6) (x7 := x7) (x8 := x8) hd (hws kv List.mem_cons_self) hr1 hup1 (fun h => hw h kv List.mem_cons_self) (by omega)
    have hr2 : os.drop (e + (kO kv.1 ++ vO kv.2).length) = fl ws ++ rest := by rw [← List.drop_drop, hr1, List.drop_left]
    obtain ⟨k, B', y6, y7, y8, go⟩ := pairs_go ws (done ++ [kv]) (e + (kO kv.1 ++ vO kv.2).length) B1 (some (.str kv.1)) (some (.int ((e + (kO kv.1).length : Nat) : Int))) (some kv.2) (fun z hz => by
      rcases List.mem_append.mp hz with hz | hz
      · exact hd z hz
      · rw [List.mem_singleton] at hz; subst hz; exact hws _ List.mem_cons_self) (fun z hz => hws z (List.mem_cons_of_mem _ hz)) hr2 hup2 (fun h z hz => hw h z (List.mem_cons_of_mem _ hz)) (by simp; omega) hl
    refine ⟨k + 1, B', y6, y7, y8, ?_⟩
    conv => lhs; unfold iterW
    rw [ht, decide_eq_true (by unfold prs; rw [List.length_map]; omega)]
    simp only [turn]
    rw [go, List.append_assoc, show e + (kO kv.1 ++ vO kv.2).length + (fl ws).length = e + (fl (kv :: ws)).length by
      rw [show (fl (kv :: ws)) = (kO kv.1 ++ vO kv.2) ++ fl ws from rfl, List.length_append (as := kO kv.1 ++ vO kv.2)]; omega]
    rfl
end
theorem get_pairs_ok {os rest : List Nat} {p : Nat} {ws : Ws} {w : Bool} (h : GoodW ws) (hr : os.drop p = wO ws ++ rest) (hw : w = true → ∀ kv ∈ ws, isNon kv.2 = false) (A : AH) :
    ∃ G, f_get_pairs [.tup (dI os), .int (p : Int), .bl w] A = .ok (.tup [.tup (prs ws), .int ((p + (wO ws).length : Nat) : Int)]) (A ++ G) := by
  have hl := h.len
  have hn := nO_len 8 ws.length (by omega)
  have hg := get_number_ok (rest := fl ws ++ rest) (p := p) (n := ws.length) (A := A) (by rw [hr]; unfold wO; rw [List.append_assoc]) (by omega)
  have hr2 : os.drop (p + (nO ws.length).length) = fl ws ++ rest := by
    rw [← List.drop_drop, hr]; unfold wO; rw [List.append_assoc, List.drop_left]
  obtain ⟨k, B', y6, y7, y8, go⟩ := pairs_go (p := p) (many := ws.length) (w := w) (A0 := A) ws [] _ [] none none none (fun z hz => nomatch hz) h.kv hr2 (by simpa using h.up) hw (by simp) hl
  rw [List.nil_append] at go
  refine ⟨.lst (prs ws) :: B', ?_⟩
  unfold f_get_pairs
  refine fun_rt ?_
  refine (seq_nx (ρ1 := [some (.tup (dI os)), some (.int (p : Int)), some (.bl w), some (.int ((ws.length : Nat) : Int)), some (.int ((p + (nO ws.length).length : Nat) : Int)), none, none, none, none]) (A1 := A) ?_).trans ?_
  · simp only [EVa, List.getElem?_cons_zero, List.getElem?_cons_succ, List.set_cons_zero, List.set_cons_succ, bind_ok, lift_ok, List.length_cons, List.length_nil, Nat.reduceAdd, Nat.reduceLeDiff, ↓reduceIte, if_true, if_false, Bool.false_eq_true, ev_raise, and_self, List.map_cons, List.map_nil, List.replicate, List.cons_append, List.nil_append, Nat.reduceSub, hg, bind_tp]
  refine (seq_nx (ρ1 := [some (.tup (dI os)), some (.int (p : Int)), some (.bl w), some (.int ((ws.length : Nat) : Int)), some (.int ((p + (nO ws.length).length : Nat) : Int)), some (.ref A.length), none, none, none]) (A1 := A ++ [.lst (prs [])]) ?_).trans ?_
  · simp only [EVa, List.getElem?_cons_zero, List.getElem?_cons_succ, List.set_cons_zero, List.set_cons_succ, bind_ok, lift_ok, List.length_cons, List.length_nil, Nat.reduceAdd, Nat.reduceLeDiff, ↓reduceIte, if_true, if_false, Bool.false_eq_true, ev_raise, and_self, List.map_cons, List.map_nil, List.replicate, List.cons_append, List.nil_append, Nat.reduceSub]
    rfl
  refine (seq_nx (mWhile_eq go (by intro z; cases z))).trans ?_
  simp only [EVa, List.getElem?_cons_zero, List.getElem?_cons_succ, List.set_cons_zero, List.set_cons_succ, bind_ok, lift_ok, List.length_cons, List.length_nil, Nat.reduceAdd, Nat.reduceLeDiff, ↓reduceIte, if_true, if_false, Bool.false_eq_true, ev_raise, and_self, List.map_cons, List.map_nil, List.replicate, List.cons_append, List.nil_append, Nat.reduceSub, tup_ref (A := A ++ AO.lst (prs ws) :: B') mid_at]
  unfold wO
  rw [List.length_append, Nat.add_assoc]
theorem get_entries_ok {os rest : List Nat} {p : Nat} {ws : Ws} (h : GoodW ws) (hn : ∀ kv ∈ ws, isNon kv.2 = false) (hr : os.drop p = wO ws ++ rest) (A : AH) :
    ∃ G, f_get_entries [.tup (dI os), .int (p : Int)] A = .ok (.tup [.tup (prs ws), .int ((p + (wO ws).length : Nat) : Int)]) (A ++ G) := by
  obtain ⟨G, e⟩ := get_pairs_ok (w := true) h hr (fun _ => hn) A
  refine ⟨G, ?_⟩
  unfold f_get_entries
  refine fun_rt ?_
  simp only [EVa, List.getElem?_cons_zero, List.getElem?_cons_succ, List.set_cons_zero, List.set_cons_succ, bind_ok, lift_ok, List.length_cons, List.length_nil, Nat.reduceAdd, Nat.reduceLeDiff, ↓reduceIte, if_true, if_false, Bool.false_eq_true, ev_raise, and_self, List.map_cons, List.map_nil, List.replicate, List.cons_append, List.nil_append, Nat.reduceSub, e]
/-! ### records and images -/
def rO (s : Nat) (ws : Ws) : List Nat := nO s ++ wO ws
theorem rO_len {s : Nat} {ws : Ws} (hs : (nO s).length ≤ 9) (h : GoodW ws) : (rO s ws).length ≤ 65535 := by
  have := wO_len h
  unfold rO; rw [List.length_append]; omega
theorem rO_oct {s : Nat} {ws : Ws} (h : GoodW ws) : ∀ b ∈ rO s ws, b < 256 := by
  intro b hb
  rcases List.mem_append.mp hb with hb | hb
  · exact nO_oct _ b hb
  · exact wO_oct h b hb
theorem put_record_ok {s : Nat} {ws : Ws} (hs : (nO s).length ≤ 9) (h : GoodW ws) : Tells f_put_record [.int (s : Int), .tup (prs ws)] (.tup (dI (pf (rO s ws)))) := fun A => by
  obtain ⟨G1, e1⟩ := put_number_ok (n := s) (by omega) A
  obtain ⟨G2, e2⟩ := put_writes_ok h (A ++ G1)
  have e3 : f_put_frame [.tup (dI (rO s ws))] (A ++ G1 ++ G2) = _ := put_ok (A := A ++ G1 ++ G2) (rO_len hs h)
  have hl := wO_len h
  refine ⟨G1 ++ G2, ?_⟩
  unfold f_put_record
  refine fun_rt ?_
  simp only [EVa, List.getElem?_cons_zero, List.getElem?_cons_succ, List.set_cons_zero, List.set_cons_succ, bind_ok, lift_ok, List.length_cons, List.length_nil, Nat.reduceAdd, Nat.reduceLeDiff, ↓reduceIte, if_true, if_false, Bool.false_eq_true, ev_raise, and_self, List.map_cons, List.map_nil, List.replicate, List.cons_append, List.nil_append, Nat.reduceSub, e1, e2, add_tt (show (dI (nO s)).length + (dI (wO ws)).length ≤ 16777216 by rw [dI_length, dI_length]; omega)]
  rw [← dI_append]
  rw [show nO s ++ wO ws = rO s ws from rfl, e3, lift_ok, List.append_assoc]
theorem put_image_ok {s : Nat} {ws : Ws} (hs : (nO s).length ≤ 9) (h : GoodW ws) : Tells f_put_image [.int (s : Int), .tup (prs ws)] (.tup (dI (pf (rO s ws)))) := fun A => by
  obtain ⟨G1, e1⟩ := put_number_ok (n := s) (by omega) A
  obtain ⟨G2, e2⟩ := put_entries_ok h (A ++ G1)
  have e3 : f_put_frame [.tup (dI (rO s ws))] (A ++ G1 ++ G2) = _ := put_ok (A := A ++ G1 ++ G2) (rO_len hs h)
  have hl := wO_len h
  refine ⟨G1 ++ G2, ?_⟩
  unfold f_put_image
  refine fun_rt ?_
  simp only [EVa, List.getElem?_cons_zero, List.getElem?_cons_succ, List.set_cons_zero, List.set_cons_succ, bind_ok, lift_ok, List.length_cons, List.length_nil, Nat.reduceAdd, Nat.reduceLeDiff, ↓reduceIte, if_true, if_false, Bool.false_eq_true, ev_raise, and_self, List.map_cons, List.map_nil, List.replicate, List.cons_append, List.nil_append, Nat.reduceSub, e1, e2, add_tt (show (dI (nO s)).length + (dI (wO ws)).length ≤ 16777216 by rw [dI_length, dI_length]; omega)]
  rw [← dI_append]
  rw [show nO s ++ wO ws = rO s ws from rfl, e3, lift_ok, List.append_assoc]
end JR
end
section
set_option maxHeartbeats 1000000
namespace JR
open PySem PySem.Spec PyProof.Rows L2 DM
/-! ### images -/
theorem read_empty {A : AH} : f_read_frames [.tup (dI [])] A = .ok (.tup [.tup [], .int 0, .str "whole"]) (A ++ [.lst []]) :=
  read_ok (os := []) (rest := []) (w := .str "cut") (bs := []) (A := A) (fun x hx => nomatch hx) rfl rfl (fun b hb => nomatch hb) rfl (by decide)
theorem read_rows {os : List Nat} {bs : List (List Nat)} {A : AH} (hb : ∀ b ∈ bs, b.length ≤ 65535 ∧ ∀ x ∈ b, x < 256) (hr : os = (bs.map pf).flatten) (hl : bs.length < 16777216) :
    f_read_frames [.tup (dI os)] A = .ok (.tup [.tup (tups bs), .int ((os.length : Nat) : Int), .str "whole"]) (A ++ [.lst (tups bs)]) := by
  have ht : tot bs = os.length := by
    subst hr
    unfold tot
    induction bs with
    | nil => rfl
    | cons b bs ih =>
      rw [List.map_cons, List.map_cons, List.sum_cons, List.flatten_cons, List.length_append, pf_length, ih (fun x hx => hb x (List.mem_cons_of_mem _ hx)) (by simp at hl; omega)]
  have h := read_ok (os := os) (rest := []) (w := .str "cut") (bs := bs) (A := A) (fun x hx => by
    subst hr
    obtain ⟨l, h1, h2⟩ := List.mem_flatten.mp hx
    obtain ⟨b, h3, rfl⟩ := List.mem_map.mp h1
    exact pf_oct (hb b h3).1 (hb b h3).2 x h2) rfl rfl (fun b h => (hb b h).1) (by rw [hr, List.append_nil]) hl
  rw [decide_eq_true ht] at h
  unfold rdD at h
  rw [ht] at h
  exact h
theorem get_image_none : Tells f_get_image [.tup (dI [])] .non := fun A => ⟨[.lst []], by
  unfold f_get_image s_get_image
  refine fun_rt ?_
  refine (seq_nx (ρ1 := [some (.tup (dI [])), some (.tup []), some (.int 0), some (.str "whole"), none, none, none, none]) (A1 := A ++ [.lst []]) ?_).trans ?_
  · simp only [EVa, List.getElem?_cons_zero, List.getElem?_cons_succ, List.set_cons_zero, List.set_cons_succ, bind_ok, lift_ok, List.length_cons, List.length_nil, Nat.reduceAdd, Nat.reduceLeDiff, ↓reduceIte, if_true, if_false, Bool.false_eq_true, ev_raise, and_self, List.map_cons, List.map_nil, List.replicate, List.cons_append, List.nil_append, Nat.reduceSub, read_empty, bind_tp3]
  refine seq_rt ?_
  simp only [EVa, List.getElem?_cons_zero, List.getElem?_cons_succ, List.set_cons_zero, List.set_cons_succ, bind_ok, lift_ok, List.length_cons, List.length_nil, Nat.reduceAdd, Nat.reduceLeDiff, ↓reduceIte, if_true, if_false, Bool.false_eq_true, ev_raise, and_self, List.map_cons, List.map_nil, List.replicate, List.cons_append, List.nil_append, Nat.reduceSub, ne_ss, decide_true, Bool.not_true, show fLen [.tup []] (A ++ [AO.lst []]) = .ok (.int 0) (A ++ [AO.lst []]) from rfl, ne_ii, show decide ((0 : Int) = 1) = false from rfl, Bool.not_false]⟩
theorem get_image_ok {s : Nat} {ws : Ws} (hs : (nO s).length ≤ 9) (h : GoodW ws) (hn : ∀ kv ∈ ws, isNon kv.2 = false) : Tells f_get_image [.tup (dI (pf (rO s ws)))] (.tup [.int (s : Int), .tup (prs ws)]) := fun A => by
  have e0 := read_rows (os := pf (rO s ws)) (bs := [rO s ws]) (A := A) (fun b hb => by rw [List.mem_singleton] at hb; subst hb; exact ⟨rO_len hs h, rO_oct h⟩) (by simp) (by simp)
  have e1 := get_number_ok (os := rO s ws) (rest := wO ws) (p := 0) (n := s) (A := A ++ [.lst (tups [rO s ws])]) rfl hs
  rw [Nat.zero_add] at e1
  obtain ⟨G, e2⟩ := get_entries_ok (rest := []) (os := rO s ws) (p := (nO s).length) h hn (by unfold rO; rw [List.drop_left, List.append_nil]) (A ++ [.lst (tups [rO s ws])])
  refine ⟨[.lst (tups [rO s ws])] ++ G, ?_⟩
  rw [← List.append_assoc]
  have hx : ∀ B : AH, fIx (.tup (tups [rO s ws])) (.int 0) B = .ok (.tup (dI (rO s ws))) B := fun B => ix0_tup
  unfold f_get_image s_get_image
  refine fun_rt ?_
  refine (seq_nx (ρ1 := [some (.tup (dI (pf (rO s ws)))), some (.tup (tups [rO s ws])), some (.int (((pf (rO s ws)).length : Nat) : Int)), some (.str "whole"), none, none, none, none]) (A1 := A ++ [.lst (tups [rO s ws])]) ?_).trans ?_
  · simp only [EVa, List.getElem?_cons_zero, List.getElem?_cons_succ, List.set_cons_zero, List.set_cons_succ, bind_ok, lift_ok, List.length_cons, List.length_nil, Nat.reduceAdd, Nat.reduceLeDiff, ↓reduceIte, if_true, if_false, Bool.false_eq_true, ev_raise, and_self, List.map_cons, List.map_nil, List.replicate, List.cons_append, List.nil_append, Nat.reduceSub, e0, bind_tp3]
  refine (seq_nx (ρ1 := [some (.tup (dI (pf (rO s ws)))), some (.tup (tups [rO s ws])), some (.int (((pf (rO s ws)).length : Nat) : Int)), some (.str "whole"), none, none, none, none]) (A1 := A ++ [.lst (tups [rO s ws])]) ?_).trans ?_
  · simp only [EVa, List.getElem?_cons_zero, List.getElem?_cons_succ, List.set_cons_zero, List.set_cons_succ, bind_ok, lift_ok, List.length_cons, List.length_nil, Nat.reduceAdd, Nat.reduceLeDiff, ↓reduceIte, if_true, if_false, Bool.false_eq_true, ev_raise, and_self, List.map_cons, List.map_nil, List.replicate, List.cons_append, List.nil_append, Nat.reduceSub, ne_ss, decide_true, Bool.not_true, show fLen [.tup (tups [rO s ws])] (A ++ [AO.lst (tups [rO s ws])]) = .ok (.int 1) (A ++ [AO.lst (tups [rO s ws])]) from rfl, ne_ii]
  refine (seq_nx (ρ1 := [some (.tup (dI (pf (rO s ws)))), some (.tup (tups [rO s ws])), some (.int (((pf (rO s ws)).length : Nat) : Int)), some (.str "whole"), some (.int (s : Int)), some (.int (((nO s).length : Nat) : Int)), some (.tup (prs ws)), some (.int (((nO s).length + (wO ws).length : Nat) : Int))]) (A1 := A ++ [.lst (tups [rO s ws])] ++ G) (try_nx ?_)).trans ?_
  · refine (seq_nx (ρ1 := [some (.tup (dI (pf (rO s ws)))), some (.tup (tups [rO s ws])), some (.int (((pf (rO s ws)).length : Nat) : Int)), some (.str "whole"), some (.int (s : Int)), some (.int (((nO s).length : Nat) : Int)), none, none]) (A1 := A ++ [.lst (tups [rO s ws])]) ?_).trans ?_
    · have e1' : f_get_number [.tup (dI (rO s ws)), .int 0] (A ++ [.lst (tups [rO s ws])]) = _ := e1
      simp only [EVa, List.getElem?_cons_zero, List.getElem?_cons_succ, List.set_cons_zero, List.set_cons_succ, bind_ok, lift_ok, List.length_cons, List.length_nil, Nat.reduceAdd, Nat.reduceLeDiff, ↓reduceIte, if_true, if_false, Bool.false_eq_true, ev_raise, and_self, List.map_cons, List.map_nil, List.replicate, List.cons_append, List.nil_append, Nat.reduceSub, hx, e1', bind_tp]
    simp only [EVa, List.getElem?_cons_zero, List.getElem?_cons_succ, List.set_cons_zero, List.set_cons_succ, bind_ok, lift_ok, List.length_cons, List.length_nil, Nat.reduceAdd, Nat.reduceLeDiff, ↓reduceIte, if_true, if_false, Bool.false_eq_true, ev_raise, and_self, List.map_cons, List.map_nil, List.replicate, List.cons_append, List.nil_append, Nat.reduceSub, hx, e2, bind_tp]
  simp only [EVa, List.getElem?_cons_zero, List.getElem?_cons_succ, List.set_cons_zero, List.set_cons_succ, bind_ok, lift_ok, List.length_cons, List.length_nil, Nat.reduceAdd, Nat.reduceLeDiff, ↓reduceIte, if_true, if_false, Bool.false_eq_true, ev_raise, and_self, List.map_cons, List.map_nil, List.replicate, List.cons_append, List.nil_append, Nat.reduceSub, hx, len_tup, eq_ii, decide_eq_true (show (((nO s).length + (wO ws).length : Nat) : Int) = (((rO s ws).length : Nat) : Int) by unfold rO; rw [List.length_append])]
/-! ### records -/
abbrev Rec := Nat × Ws
def recD (r : Rec) : D := .tup [.int (r.1 : Int), .tup (prs r.2)]
def recsO (rs : List Rec) : List Nat := (rs.map fun r => pf (rO r.1 r.2)).flatten
structure GoodR (r : Rec) : Prop where
  st : r.1 < 1000000000
  ws : GoodW r.2
theorem GoodR.nO {r : Rec} (h : GoodR r) : (nO r.1).length ≤ 9 := nO_len 8 _ (by have := h.st; omega)
/-- one behind the other -/
def Run : Nat → List Rec → Prop
  | _, [] => True
  | s, r :: rs => r.1 = s + 1 ∧ Run (s + 1) rs
theorem Run.app : ∀ {rs qs : List Rec} {s : Nat}, Run s (rs ++ qs) ↔ Run s rs ∧ Run (s + rs.length) qs
  | [], qs, s => by simp [Run]
  | r :: rs, qs, s => by
    show (r.1 = s + 1 ∧ Run (s + 1) (rs ++ qs)) ↔ (r.1 = s + 1 ∧ Run (s + 1) rs) ∧ _
    rw [Run.app, and_assoc, List.length_cons, show s + 1 + rs.length = s + (rs.length + 1) by omega]
section
variable {x0 x1 x2 x3 : Option D} {A0 : AH}
end
end JR
end
section
set_option maxHeartbeats 1000000
namespace JR
open PySem PySem.Spec PyProof.Rows L2 DM
/-! ### what a row of writes leaves -/
def lastv : Ws → Str → Option D
  | [], _ => none
  | (a, v) :: ws, k => (lastv ws k).or (if a = k then some v else none)
def kF (kvs : List (Key × D)) (ws : Ws) : List (Key × D) := ws.foldl (fun kvs kv => putKD kvs (.inr kv.1) kv.2) kvs
theorem kF_cons (kvs : List (Key × D)) (kv : Str × D) (ws : Ws) : kF kvs (kv :: ws) = kF (putKD kvs (.inr kv.1) kv.2) ws := rfl
theorem kF_val (k : Str) : ∀ (ws : Ws) (kvs : List (Key × D)), valD (kF kvs ws) (.inr k) = (lastv ws k).or (valD kvs (.inr k))
  | [], kvs => by simp [kF, lastv]
  | (a, v) :: ws, kvs => by
    rw [kF_cons, kF_val k ws, valD_put]
    show _ = ((lastv ws k).or (if a = k then some v else none)).or (valD kvs (.inr k))
    rw [Option.or_assoc]
    congr 1
    by_cases h : a = k
    · subst h; rw [if_pos rfl, if_pos rfl]; rfl
    · rw [if_neg (fun e => h (by cases e; rfl)), if_neg h]; rfl
theorem put_keys1 {kvs : List (Key × D)} {k : Key} {v : D} (h : k ∈ kvs.map (·.1)) : (putKD kvs k v).map (·.1) = kvs.map (·.1) := by
  have ha : (kvs.any fun kv => decide (kv.1 = k)) = true := by
    obtain ⟨kv, h1, h2⟩ := List.mem_map.mp h
    exact List.any_eq_true.mpr ⟨kv, h1, decide_eq_true h2⟩
  unfold putKD
  rw [if_pos ha, List.map_map]
  apply List.map_congr_left
  intro kv _
  show (if kv.1 = k then (kv.1, v) else kv).1 = kv.1
  split <;> rfl
theorem put_keys2 {kvs : List (Key × D)} {k : Key} {v : D} (h : ¬ k ∈ kvs.map (·.1)) : (putKD kvs k v).map (·.1) = kvs.map (·.1) ++ [k] := by
  have ha : ¬ (kvs.any fun kv => decide (kv.1 = k)) = true := fun ha => by
    obtain ⟨kv, h1, h2⟩ := List.any_eq_true.mp ha
    exact h (List.mem_map.mpr ⟨kv, h1, of_decide_eq_true h2⟩)
  unfold putKD
  rw [if_neg ha, List.map_append]
  rfl
/-- the keys, in the order of their first writes -/
def addK (ks : List Str) (k : Str) : List Str := if k ∈ ks then ks else ks ++ [k]
def kk (ks : List Str) (ws : Ws) : List Str := ws.foldl (fun ks kv => addK ks kv.1) ks
theorem kF_keys : ∀ (ws : Ws) (kvs : List (Key × D)) (ks : List Str), kvs.map (·.1) = ks.map Sum.inr → (kF kvs ws).map (·.1) = (kk ks ws).map Sum.inr
  | [], _, _, h => h
  | kv :: ws, kvs, ks, h => by
    rw [kF_cons]
    refine kF_keys ws _ (addK ks kv.1) ?_
    unfold addK
    by_cases hk : kv.1 ∈ ks
    · rw [if_pos hk, put_keys1 (by rw [h]; exact List.mem_map.mpr ⟨_, hk, rfl⟩), h]
    · rw [if_neg hk, put_keys2 (fun e => by
        rw [h] at e
        obtain ⟨z, h1, h2⟩ := List.mem_map.mp e
        cases h2
        exact hk h1), h, List.map_append]
      rfl
theorem addK_nodup {ks : List Str} {k : Str} (h : ks.Nodup) : (addK ks k).Nodup := by
  unfold addK
  split
  · exact h
  · rename_i hk
    exact List.nodup_append.mpr ⟨h, by simp, fun a ha b hb e => hk (by rw [List.mem_singleton] at hb; subst hb; rw [← e]; exact ha)⟩
theorem kk_nodup : ∀ (ws : Ws) (ks : List Str), ks.Nodup → (kk ks ws).Nodup
  | [], _, h => h
  | kv :: ws, ks, h => kk_nodup ws _ (addK_nodup h)
theorem mem_addK {ks : List Str} {k z : Str} : z ∈ addK ks k ↔ z ∈ ks ∨ z = k := by
  unfold addK
  split
  · rename_i hk
    exact ⟨.inl, fun h => h.elim id fun e => by subst e; exact hk⟩
  · simp
theorem mem_kk {z : Str} : ∀ (ws : Ws) (ks : List Str), z ∈ kk ks ws ↔ z ∈ ks ∨ z ∈ ws.map (·.1)
  | [], ks => by simp [kk]
  | kv :: ws, ks => by
    show z ∈ kk (addK ks kv.1) ws ↔ _
    rw [mem_kk ws, mem_addK, List.map_cons, List.mem_cons, or_assoc]
theorem lastv_some {k : Str} : ∀ {ws : Ws}, (lastv ws k).isSome = true ↔ k ∈ ws.map (·.1)
  | [] => by simp [lastv]
  | (a, v) :: ws => by
    show ((lastv ws k).or (if a = k then some v else none)).isSome = true ↔ _
    rw [Option.isSome_or, Bool.or_eq_true, lastv_some, List.map_cons, List.mem_cons]
    by_cases h : a = k
    · subst h; simp
    · rw [if_neg h]
      simp
      exact fun e => absurd e.symm h
theorem lastv_app {k : Str} : ∀ {a b : Ws}, lastv (a ++ b) k = (lastv b k).or (lastv a k)
  | [], b => by simp [lastv]
  | (x, v) :: a, b => by
    show (lastv (a ++ b) k).or _ = (lastv b k).or ((lastv a k).or _)
    rw [lastv_app, Option.or_assoc]
theorem lastv_mem {k : Str} {v : D} : ∀ {ws : Ws}, lastv ws k = some v → (k, v) ∈ ws
  | [], h => nomatch h
  | (a, x) :: ws, h => by
    unfold lastv at h
    cases hz : lastv ws k with
    | some y => rw [hz] at h; cases h; exact List.mem_cons_of_mem _ (lastv_mem hz)
    | none =>
      rw [hz] at h
      by_cases e : a = k
      · subst e; rw [if_pos rfl] at h; cases h; exact List.mem_cons_self
      · rw [if_neg e] at h; cases h
def stay (ws : Ws) (k : Str) : Option D := match lastv ws k with
  | some v => if isNon v then none else some v
  | none => none
def stayK (ws : Ws) : List Str := (srtS (kk [] ws)).filter fun k => (stay ws k).isSome
/-- the map behind a row of writes -/
def mapW (ws : Ws) : Ws := (stayK ws).map fun k => (k, (stay ws k).getD .non)
theorem mem_stayK {ws : Ws} {k : Str} : k ∈ stayK ws ↔ (stay ws k).isSome = true := by
  unfold stayK
  rw [List.mem_filter, (srtS_perm _).mem_iff, mem_kk]
  refine ⟨fun h => h.2, fun h => ⟨.inr (lastv_some.mp ?_), h⟩⟩
  unfold stay at h
  split at h
  · rename_i v hv; rw [hv]; rfl
  · cases h
theorem stayK_nodup (ws : Ws) : (stayK ws).Nodup := ((srtS_perm _).nodup_iff.mpr (kk_nodup ws [] List.nodup_nil)).filter _
theorem stayK_sorted (ws : Ws) : (stayK ws).Pairwise fun a b => sLe a b = true := (srtS_sorted _).filter _
theorem mapW_congr {a b : Ws} (h : ∀ k, stay a k = stay b k) : mapW a = mapW b := by
  have e : stayK a = stayK b := by
    have p : (stayK a).Perm (stayK b) := (List.perm_ext_iff_of_nodup (stayK_nodup a) (stayK_nodup b)).mpr fun k => by rw [mem_stayK, mem_stayK, h]
    rw [srtS_uniq p (stayK_sorted a), ← srtS_uniq (.refl _) (stayK_sorted b)]
  unfold mapW
  rw [e]
  apply List.map_congr_left
  intro k _
  rw [h]
theorem lastv_map {f : Str → D} {k : Str} : ∀ {ks : List Str}, lastv (ks.map fun k => (k, f k)) k = if k ∈ ks then some (f k) else none
  | [] => rfl
  | a :: ks => by
    show (lastv (ks.map fun k => (k, f k)) k).or (if a = k then some (f a) else none) = _
    rw [lastv_map]
    by_cases h : k ∈ ks
    · rw [if_pos h, if_pos (List.mem_cons_of_mem _ h)]; rfl
    · by_cases e : a = k
      · subst e; rw [if_neg h, if_pos rfl, if_pos List.mem_cons_self]; rfl
      · rw [if_neg h, if_neg e, if_neg (fun z => (List.mem_cons.mp z).elim (fun z => e z.symm) h)]; rfl
theorem stay_mapW {a : Ws} {k : Str} : lastv (mapW a) k = stay a k := by
  unfold mapW
  rw [lastv_map]
  by_cases h : k ∈ stayK a
  · rw [if_pos h]
    obtain ⟨v, hv⟩ := Option.isSome_iff_exists.mp (mem_stayK.mp h)
    rw [hv]; rfl
  · rw [if_neg h]
    cases hz : stay a k with
    | none => rfl
    | some v => exact absurd (mem_stayK.mpr (by rw [hz]; rfl)) h
theorem stay_non {a : Ws} {k : Str} {v : D} (h : stay a k = some v) : isNon v = false ∧ lastv a k = some v := by
  unfold stay at h
  split at h
  · rename_i w hw
    split at h
    · cases h
    · cases h
      rename_i hn
      exact ⟨by simpa using hn, hw⟩
  · cases h
theorem mapW_app (a b : Ws) : mapW (mapW a ++ b) = mapW (a ++ b) := mapW_congr fun k => by
  unfold stay
  rw [lastv_app, lastv_app, stay_mapW]
  cases lastv b k with
  | some v => rfl
  | none =>
    simp only [Option.none_or]
    cases hz : stay a k with
    | none =>
      unfold stay at hz
      split at hz
      · rename_i w hw
        split at hz
        · rename_i hn; simp [hn]
        · cases hz
      · rfl
    | some v =>
      obtain ⟨h1, h2⟩ := stay_non hz
      rw [h2]
theorem mapW_mem {ws : Ws} {kv : Str × D} (h : kv ∈ mapW ws) : kv ∈ ws ∧ isNon kv.2 = false := by
  obtain ⟨k, h1, rfl⟩ := List.mem_map.mp h
  obtain ⟨v, hv⟩ := Option.isSome_iff_exists.mp (mem_stayK.mp h1)
  obtain ⟨h2, h3⟩ := stay_non hv
  rw [hv]
  exact ⟨lastv_mem h3, h2⟩
theorem up_of {l : List Str} (h1 : l.Nodup) (h2 : l.Pairwise fun a b => sLe a b = true) : l.Pairwise Up := by
  refine (List.pairwise_and_iff.mpr ⟨h1, h2⟩).imp fun {a b} h => ?_
  show sLe b a = false
  cases hz : sLe b a with
  | false => rfl
  | true => exact absurd (sLe_anti h.2 hz) h.1
theorem mapW_keys (ws : Ws) : (mapW ws).map (·.1) = stayK ws := by
  unfold mapW
  rw [List.map_map]
  exact List.map_id _
theorem mapW_up (ws : Ws) : ((mapW ws).map (·.1)).Pairwise Up := by
  rw [mapW_keys]
  exact up_of (stayK_nodup ws) (stayK_sorted ws)
theorem stayK_len {ws : Ws} {ks : List Str} (h : ∀ kv ∈ ws, kv.1 ∈ ks) : (stayK ws).length ≤ ks.length ∧ (kk [] ws).length ≤ ks.length := by
  have h1 : (kk [] ws).length ≤ ks.length := by
    refine List.Nodup.length_le_of_subset (kk_nodup ws [] List.nodup_nil) fun k hk => ?_
    rw [mem_kk] at hk
    rcases hk with hk | hk
    · cases hk
    · obtain ⟨kv, h2, rfl⟩ := List.mem_map.mp hk
      exact h kv h2
  refine ⟨?_, h1⟩
  unfold stayK
  exact Nat.le_trans (List.length_filter_le ..) (by rw [(srtS_perm _).length_eq]; exact h1)
end JR
end
section
set_option maxHeartbeats 1000000
namespace JR
open PySem PySem.Spec PyProof.Rows L2 DM
theorem strKeys_of : ∀ {kvs : List (Key × D)} {ks : List Str}, kvs.map (·.1) = ks.map Sum.inr → strKeys kvs = some ks
  | [], [], _ => rfl
  | [], k :: ks, h => nomatch h
  | (.inr a, v) :: r, [], h => nomatch h
  | (.inl a, v) :: r, [], h => nomatch h
  | (.inr a, v) :: r, k :: ks, h => by
    rw [List.map_cons, List.map_cons] at h
    injection h with h1 h2
    cases h1
    show (strKeys r).map _ = _
    rw [strKeys_of h2]; rfl
  | (.inl a, v) :: r, k :: ks, h => by
    rw [List.map_cons, List.map_cons] at h
    injection h with h1 h2
    cases h1
theorem valD_mem {kvs : List (Key × D)} {k : Key} (h : k ∈ kvs.map (·.1)) : ∃ v, valD kvs k = some v := by
  obtain ⟨kv, h1, h2⟩ := List.mem_map.mp h
  have : (valD kvs k).isSome = true := by
    rw [← any_valD]
    exact List.any_eq_true.mpr ⟨kv, h1, decide_eq_true h2⟩
  exact Option.isSome_iff_exists.mp this
theorem sortD_run {A : AH} {n : Nat} {kvs : List (Key × D)} {ks : List Str} (hA : A[n]? = some (.dk kvs)) (hk : kvs.map (·.1) = ks.map Sum.inr) (hl : ks.length < 64) : fSortD [.ref n] A = .ok (.lst ((srtS ks).map D.str)) A := by
  simp only [fSortD, hA, strKeys_of hk, hl, if_true]
theorem isN_any {d : D} {A : AH} : fIsN true d .non A = .ok (.bl (!isNon d)) A := rfl
theorem mapc_ok {i j n : Nat} {ρ : DM.Env} {A : AH} {kvs : List (Key × D)} {ks : List Str} (hρ : ρ[i]? = some (some (.ref n))) (hj : j < ρ.length) (hij : i ≠ j) (hA : A[n]? = some (.dk kvs)) (hk : kvs.map (·.1) = ks.map Sum.inr) (hl : ks.length < 64) :
    mLc false (mSq (mCall fSortD (mCons (mVar i) mNil))) (.nm j) (mTst (mOp (fIsN true) (mOp fDGet (mVar i) (mVar j)) (mK .non))) (mTup (mCons (mVar j) (mCons (mOp fDGet (mVar i) (mVar j)) mNil))) [j] ρ A =
      .ok (.lst (((srtS ks).filter fun k => !isNon ((valD kvs (.inr k)).getD .non)).map fun k => D.tup [.str k, (valD kvs (.inr k)).getD .non])) A := by
  have hw : wipeD ρ [j] = ρ.set j none := rfl
  have go := comp_pure (iv := .sq (.lst ((srtS ks).map D.str))) (t := .nm j) (tt := mTst (mOp (fIsN true) (mOp fDGet (mVar i) (mVar j)) (mK .non))) (me := mTup (mCons (mVar j) (mCons (mOp fDGet (mVar i) (mVar j)) mNil))) (ρ := wipeD ρ [j]) (A := A)
    (p := fun d => match d with | .str k => !isNon ((valD kvs (.inr k)).getD .non) | _ => false) (f := fun d => match d with | .str k => D.tup [.str k, (valD kvs (.inr k)).getD .non] | _ => .non) (all := (srtS ks).map D.str) rfl ((srtS ks).map D.str) [] (fun d hd => by
    obtain ⟨k, hk1, rfl⟩ := List.mem_map.mp hd
    have hk2 : k ∈ ks := (srtS_perm ks).mem_iff.mp hk1
    obtain ⟨v, hv⟩ := valD_mem (kvs := kvs) (k := .inr k) (by rw [hk]; exact List.mem_map.mpr ⟨k, hk2, rfl⟩)
    have hi : ((wipeD ρ [j]).set j (some (.str k)))[i]? = some (some (.ref n)) := by
      rw [hw, List.set_set, List.getElem?_set_ne (fun e => hij e.symm), hρ]
    have hj2 : ((wipeD ρ [j]).set j (some (.str k)))[j]? = some (some (.str k)) := by
      rw [hw, List.set_set, List.getElem?_set_self hj]
    have hg : fDGet (.ref n) (.str k) A = .ok v A := dget_run hA rfl hv
    refine ⟨_, rfl, ?_, fun _ => ?_⟩
    · simp only [ev_tst, ev_op, ev_var, hi, hj2, bind_ok, hg, ev_K, isN_any, hv, Option.getD_some]
    · simp only [ev_tup, ev_cons, ev_op, ev_var, hi, hj2, bind_ok, hg, ev_nil, hv, Option.getD_some]
      rfl)
  rw [ev_lc, ev_sq, ev_call, ev_cons, ev_var, hρ]
  simp only [bind_ok, ev_nil, sortD_run hA hk hl, seqOf, itemsOf]
  rw [if_pos (by rw [List.length_map, (srtS_perm ks).length_eq]; omega), go]
  simp only [bind_ok, List.nil_append, Bool.false_eq_true, if_false]
  rw [List.filter_map, List.map_map]
  rfl
theorem map_eq {ws : Ws} : (((srtS (kk [] ws)).filter fun k => !isNon ((valD (kF [] ws) (.inr k)).getD .non)).map fun k => D.tup [.str k, (valD (kF [] ws) (.inr k)).getD .non]) = prs (mapW ws) := by
  have hv : ∀ k, valD (kF [] ws) (.inr k) = lastv ws k := fun k => by rw [kF_val]; simp [valD]
  have hf : ((srtS (kk [] ws)).filter fun k => !isNon ((valD (kF [] ws) (.inr k)).getD .non)) = stayK ws := by
    unfold stayK
    apply List.filter_congr
    intro k hk
    rw [(srtS_perm _).mem_iff, mem_kk] at hk
    have hk : (lastv ws k).isSome = true := lastv_some.mpr (hk.elim (fun e => nomatch e) id)
    obtain ⟨v, e⟩ := Option.isSome_iff_exists.mp hk
    unfold stay
    rw [hv, e]
    show (!isNon v) = (if isNon v = true then none else some v : Option D).isSome
    cases isNon v <;> rfl
  rw [hf]
  unfold prs mapW
  rw [List.map_map]
  apply List.map_congr_left
  intro k hk
  obtain ⟨v, e⟩ := Option.isSome_iff_exists.mp (mem_stayK.mp hk)
  rw [hv, (stay_non e).2]
  show _ = D.tup [.str k, (stay ws k).getD .non]
  rw [e]
theorem snoc_at {A : AH} {x : AO} : (A ++ [x])[A.length]? = some x := by simp
theorem snoc_set {A : AH} {x y : AO} : (A ++ [x]).set A.length y = A ++ [y] := mid_set
theorem mput_go {iv : ItV} {all : List D} {x0 : Option D} {A0 : AH} (hit : ∀ kvs, itemsOf (A0 ++ [.dk kvs]) iv = some all) : ∀ (ws : Ws) (kvs : List (Key × D)) (x2 x3 : Option D), kvs.length + ws.length < 16777216 →
    ∃ x2' x3', forGo iv all (.tp [.nm 2, .nm 3]) b_map_of1 (prs ws) [x0, some (.ref A0.length), x2, x3] (A0 ++ [.dk kvs]) = .nx [x0, some (.ref A0.length), x2', x3'] (A0 ++ [.dk (kF kvs ws)])
  | [], kvs, x2, x3, hl => ⟨x2, x3, for_nil (hit _)⟩
  | kv :: ws, kvs, x2, x3, hl => by
    rw [List.length_cons] at hl
    have h2 := putKD_len (kvs := kvs) (a := .inr kv.1) (x := kv.2)
    obtain ⟨y2, y3, go⟩ := mput_go (x0 := x0) hit ws (putKD kvs (.inr kv.1) kv.2) (some (.str kv.1)) (some kv.2) (by omega)
    refine ⟨y2, y3, ?_⟩
    rw [kF_cons, ← go]
    refine for_nx (xs := prs ws) (ρ1 := [x0, some (.ref A0.length), some (.str kv.1), some kv.2]) (hit kvs) rfl ?_
    unfold b_map_of1
    rw [dput_run (y := kv.2) (k := A0.length) (e := .str kv.1) (kvs := kvs) (key := .inr kv.1) rfl rfl rfl snoc_at rfl (by omega), snoc_set]
theorem map_of_ok {d : D} {A : AH} {ws : Ws} (hs : ∀ kvs, seqOf (A ++ [.dk kvs]) d = some (prs ws)) (hl : (kk [] ws).length < 64) (hw : ws.length < 1000000) : f_map_of [d] A = .ok (.tup (prs (mapW ws))) (A ++ [.dk (kF [] ws)]) := by
  obtain ⟨y2, y3, go⟩ := mput_go (iv := .sq d) (all := prs ws) (x0 := some d) (A0 := A) hs ws [] none none (by simp; omega)
  unfold f_map_of
  refine fun_rt ?_
  refine (seq_nx (ρ1 := [some d, some (.ref A.length), none, none]) (A1 := A ++ [.dk []]) ?_).trans ?_
  · rw [ev_set, ev_dict0, lift_ok]; rfl
  refine (seq_nx (ρ1 := [some d, some (.ref A.length), y2, y3]) (A1 := A ++ [.dk (kF [] ws)]) ?_).trans ?_
  · rw [ev_for, ev_sq, ev_var]
    simp only [List.getElem?_cons_zero, bind_ok, hs, lift_ok, itemsOf]
    exact go
  have hc := mapc_ok (i := 1) (j := 2) (n := A.length) (ρ := [some d, some (.ref A.length), y2, y3]) (A := A ++ [.dk (kF [] ws)]) rfl (by simp) (by decide) snoc_at (kF_keys ws [] [] rfl) hl
  rw [map_eq] at hc
  rw [ev_ret, ev_call, ev_cons, hc]
  rfl
/-! the law's own map -/
end JR
end
section
set_option maxHeartbeats 1000000
namespace JR
open PySem PySem.Spec PyProof.Rows L2 DM
/-! ### the disk -/
def dk3 (a b c : List Nat) : D := .tup [.tup (dI a), .tup (dI b), .tup (dI c)]
def imO : Option Rec → List Nat
  | none => []
  | some r => pf (rO r.1 r.2)
def imD : Option Rec → D
  | none => .non
  | some r => recD r
structure GoodI (r : Rec) : Prop extends GoodR r where
  non : ∀ kv ∈ r.2, isNon kv.2 = false
theorem get_im {o : Option Rec} (h : ∀ r ∈ o, GoodI r) : Tells f_get_image [.tup (dI (imO o))] (imD o) := by
  cases o with
  | none => exact get_image_none
  | some r => exact get_image_ok (h r rfl).nO (h r rfl).ws (h r rfl).non
def plD : Option Nat → D
  | none => .non
  | some p => .int (p : Int)
structure Bse where
  pl : Option Nat
  st : Nat
  en : Ws
def bstep (c : Bse) (at_ : Nat) (o : Option Rec) : Bse := match o with
  | none => c
  | some r => if c.pl = none ∨ c.st < r.1 then ⟨some at_, r.1, r.2⟩ else c
theorem bstep_take {c : Bse} {a : Nat} {r : Rec} (h : c.pl = none ∨ c.st < r.1) : bstep c a (some r) = ⟨some a, r.1, r.2⟩ := if_pos h
theorem bstep_skip {c : Bse} {a : Nat} {r : Rec} (h : ¬ (c.pl = none ∨ c.st < r.1)) : bstep c a (some r) = c := if_neg h
def baseP (o0 o1 : Option Rec) : Bse := bstep (bstep ⟨none, 0, []⟩ 0 o0) 1 o1
theorem base_turn {c : Bse} {a : Nat} {o : Option Rec} {x5 : Option D} {dsk : D} {A : AH} (h : ∀ r ∈ o, GoodI r) (hd : ∀ A, fIx dsk (.int (a : Int)) A = .ok (.tup (dI (imO o))) A) :
    ∃ G, b_base_of1 [some dsk, some (plD c.pl), some (.int (c.st : Int)), some (.tup (prs c.en)), some (.int (a : Int)), x5] A =
      .nx [some dsk, some (plD (bstep c a o).pl), some (.int ((bstep c a o).st : Int)), some (.tup (prs (bstep c a o).en)), some (.int (a : Int)), some (imD o)] (A ++ G) := by
  obtain ⟨G, e⟩ := get_im h A
  refine ⟨G, ?_⟩
  unfold b_base_of1
  refine (seq_nx (ρ1 := [some dsk, some (plD c.pl), some (.int (c.st : Int)), some (.tup (prs c.en)), some (.int (a : Int)), some (imD o)]) (A1 := A ++ G) ?_).trans ?_
  · simp only [EVa, List.getElem?_cons_zero, List.getElem?_cons_succ, List.set_cons_zero, List.set_cons_succ, bind_ok, lift_ok, List.length_cons, List.length_nil, Nat.reduceAdd, Nat.reduceLeDiff, ↓reduceIte, if_true, if_false, Bool.false_eq_true, ev_raise, and_self, List.map_cons, List.map_nil, List.replicate, List.cons_append, List.nil_append, Nat.reduceSub, hd, e]
  cases o with
  | none =>
    show mIfS _ _ _ [some dsk, some (plD c.pl), some (.int (c.st : Int)), some (.tup (prs c.en)), some (.int (a : Int)), some .non] (A ++ G) = _
    simp only [EVa, List.getElem?_cons_zero, List.getElem?_cons_succ, List.set_cons_zero, List.set_cons_succ, bind_ok, lift_ok, List.length_cons, List.length_nil, Nat.reduceAdd, Nat.reduceLeDiff, ↓reduceIte, if_true, if_false, Bool.false_eq_true, ev_raise, and_self, List.map_cons, List.map_nil, List.replicate, List.cons_append, List.nil_append, Nat.reduceSub, isN_non, Bool.not_true]
    rfl
  | some r =>
    have hn : fIsN true (imD (some r)) .non (A ++ G) = .ok (.bl true) (A ++ G) := rfl
    have h0 : fIx (imD (some r)) (.int 0) (A ++ G) = .ok (.int (r.1 : Int)) (A ++ G) := ix0_tup
    have hp : fIsN false (plD c.pl) .non (A ++ G) = .ok (.bl c.pl.isNone) (A ++ G) := by cases c.pl <;> rfl
    by_cases hz : c.pl = none ∨ c.st < r.1
    · rw [bstep_take hz]
      have hg : mTst (mOp fGt (mOp fIx (mVar 5) (mK (.int 0))) (mVar 2)) [some dsk, some (plD c.pl), some (.int (c.st : Int)), some (.tup (prs c.en)), some (.int (a : Int)), some (imD (some r))] (A ++ G) = .ok (decide ((c.st : Int) < (r.1 : Int))) (A ++ G) := by
        simp only [EVa, List.getElem?_cons_zero, List.getElem?_cons_succ, List.set_cons_zero, List.set_cons_succ, bind_ok, lift_ok, List.length_cons, List.length_nil, Nat.reduceAdd, Nat.reduceLeDiff, ↓reduceIte, if_true, if_false, Bool.false_eq_true, ev_raise, and_self, List.map_cons, List.map_nil, List.replicate, List.cons_append, List.nil_append, Nat.reduceSub, h0, gt_ii]
      cases hq : c.pl with
      | none =>
        rw [hq] at hp
        simp only [EVa, List.getElem?_cons_zero, List.getElem?_cons_succ, List.set_cons_zero, List.set_cons_succ, bind_ok, lift_ok, List.length_cons, List.length_nil, Nat.reduceAdd, Nat.reduceLeDiff, ↓reduceIte, if_true, if_false, Bool.false_eq_true, ev_raise, and_self, List.map_cons, List.map_nil, List.replicate, List.cons_append, List.nil_append, Nat.reduceSub, hn, hp, Option.isNone_none]
        rfl
      | some p =>
        rw [hq] at hp hg
        have hz2 : c.st < r.1 := hz.resolve_left (fun z => by rw [hq] at z; cases z)
        rw [decide_eq_true (by omega)] at hg
        simp only [EVa, List.getElem?_cons_zero, List.getElem?_cons_succ, List.set_cons_zero, List.set_cons_succ, bind_ok, lift_ok, List.length_cons, List.length_nil, Nat.reduceAdd, Nat.reduceLeDiff, ↓reduceIte, if_true, if_false, Bool.false_eq_true, ev_raise, and_self, List.map_cons, List.map_nil, List.replicate, List.cons_append, List.nil_append, Nat.reduceSub, hn, hp, Option.isNone_some, h0, gt_ii, decide_eq_true (show (c.st : Int) < (r.1 : Int) by omega)]
        rfl
    · rw [bstep_skip hz]
      cases hq : c.pl with
      | none => exact absurd (.inl hq) hz
      | some p =>
        rw [hq] at hp
        have hz2 : ¬ c.st < r.1 := fun z => hz (.inr z)
        simp only [EVa, List.getElem?_cons_zero, List.getElem?_cons_succ, List.set_cons_zero, List.set_cons_succ, bind_ok, lift_ok, List.length_cons, List.length_nil, Nat.reduceAdd, Nat.reduceLeDiff, ↓reduceIte, if_true, if_false, Bool.false_eq_true, ev_raise, and_self, List.map_cons, List.map_nil, List.replicate, List.cons_append, List.nil_append, Nat.reduceSub, hn, hp, Option.isNone_some, h0, gt_ii, decide_eq_false (show ¬ (c.st : Int) < (r.1 : Int) by omega)]
theorem base_ok {o0 o1 : Option Rec} {c : List Nat} (h0 : ∀ r ∈ o0, GoodI r) (h1 : ∀ r ∈ o1, GoodI r) : Tells f_base_of [dk3 (imO o0) (imO o1) c] (.tup [plD (baseP o0 o1).pl, .int ((baseP o0 o1).st : Int), .tup (prs (baseP o0 o1).en)]) := fun A => by
  obtain ⟨G1, e1⟩ := base_turn (c := ⟨none, 0, []⟩) (a := 0) (x5 := none) (dsk := dk3 (imO o0) (imO o1) c) (A := A) h0 (fun A => ix0_tup)
  obtain ⟨G2, e2⟩ := base_turn (c := bstep ⟨none, 0, []⟩ 0 o0) (a := 1) (x5 := some (imD o0)) (dsk := dk3 (imO o0) (imO o1) c) (A := A ++ G1) h1 (fun A => ix1_tup)
  refine ⟨G1 ++ G2, ?_⟩
  unfold f_base_of
  refine fun_rt ?_
  refine (seq_nx (ρ1 := [some (dk3 (imO o0) (imO o1) c), some (plD none), some (.int ((0 : Nat) : Int)), some (.tup (prs [])), none, none]) (A1 := A) ?_).trans ?_
  · simp only [EVa, List.getElem?_cons_zero, List.getElem?_cons_succ, List.set_cons_zero, List.set_cons_succ, bind_ok, lift_ok, List.length_cons, List.length_nil, Nat.reduceAdd, Nat.reduceLeDiff, ↓reduceIte, if_true, if_false, Bool.false_eq_true, ev_raise, and_self, List.map_cons, List.map_nil, List.replicate, List.cons_append, List.nil_append, Nat.reduceSub, bind_tp3]
    rfl
  refine (seq_nx (ρ1 := [some (dk3 (imO o0) (imO o1) c), some (plD (baseP o0 o1).pl), some (.int ((baseP o0 o1).st : Int)), some (.tup (prs (baseP o0 o1).en)), some (.int ((1 : Nat) : Int)), some (imD o1)]) (A1 := A ++ G1 ++ G2) ?_).trans ?_
  · have hit : ∀ A, itemsOf A (.sq (.tup [.int ((0 : Nat) : Int), .int ((1 : Nat) : Int)])) = some [.int ((0 : Nat) : Int), .int ((1 : Nat) : Int)] := fun _ => rfl
    have go : forGo (.sq (.tup [.int ((0 : Nat) : Int), .int ((1 : Nat) : Int)])) [.int ((0 : Nat) : Int), .int ((1 : Nat) : Int)] (.nm 4) b_base_of1 [.int ((0 : Nat) : Int), .int ((1 : Nat) : Int)] [some (dk3 (imO o0) (imO o1) c), some (plD none), some (.int ((0 : Nat) : Int)), some (.tup (prs [])), none, none] A = .nx [some (dk3 (imO o0) (imO o1) c), some (plD (baseP o0 o1).pl), some (.int ((baseP o0 o1).st : Int)), some (.tup (prs (baseP o0 o1).en)), some (.int ((1 : Nat) : Int)), some (imD o1)] (A ++ G1 ++ G2) := by
      rw [for_nx (hit _) rfl e1, for_nx (hit _) rfl e2, for_nil (hit _)]
      rfl
    rw [ev_for]
    show _ = _
    exact go
  simp only [EVa, List.getElem?_cons_zero, List.getElem?_cons_succ, List.set_cons_zero, List.set_cons_succ, bind_ok, lift_ok, List.length_cons, List.length_nil, Nat.reduceAdd, Nat.reduceLeDiff, ↓reduceIte, if_true, if_false, Bool.false_eq_true, ev_raise, and_self, List.map_cons, List.map_nil, List.replicate, List.cons_append, List.nil_append, Nat.reduceSub]
  rw [List.append_assoc]
/-! ### what stands in the log -/
/-- all writes of a row of records -/
def wsOf (rs : List Rec) : Ws := (rs.map (·.2)).flatten
end JR
end
section
set_option maxHeartbeats 1000000
namespace JR
open PySem PySem.Spec PyProof.Rows L2 DM
/-! ### numbers read from any octets -/
def rdN : Nat → Nat → Nat → List Nat → Option (Nat × Nat)
  | 0, _, _, _ => none
  | _ + 1, _, _, [] => none
  | j + 1, t, tot, b :: r => if b = 0 ∧ 0 < t then none else if b < 128 then some (tot + b % 128 * 128 ^ t, t + 1) else rdN j (t + 1) (tot + b % 128 * 128 ^ t) r
def rdNum (os : List Nat) : Option (Nat × Nat) := rdN 9 0 0 os
def badO (p : Nat) : List (Str × D) := [("at", .int (p : Int))]
section
variable {os : List Nat} {p t b : Nat} {tot : Int} {x3 x4 : Option D} {A : AH}
theorem get_bad (hb : os[p + t]? = none ∨ (os[p + t]? = some 0 ∧ 0 < t)) :
    ∃ ρ, b_get_number1 [some (.tup (dI os)), some (.int (p : Int)), some (.int tot), some (.int (t : Int)), x4] A = .exc "InvalidOctets" (badO p) ρ A := by
  have eo : f_octet_at [.tup (dI os), .int ((p : Int) + (t : Int))] A = .ok (octD os[p + t]?) A := oct_cast
  refine ⟨[some (.tup (dI os)), some (.int (p : Int)), some (.int tot), some (.int (t : Int)), some (octD os[p + t]?)], ?_⟩
  unfold b_get_number1
  refine (seq_nx (ρ1 := [some (.tup (dI os)), some (.int (p : Int)), some (.int tot), some (.int (t : Int)), some (octD os[p + t]?)]) (A1 := A) ?_).trans ?_
  · simp only [EVa, List.getElem?_cons_zero, List.getElem?_cons_succ, List.set_cons_zero, List.set_cons_succ, bind_ok, lift_ok, List.length_cons, List.length_nil, Nat.reduceAdd, Nat.reduceLeDiff, ↓reduceIte, if_true, if_false, Bool.false_eq_true, ev_raise, and_self, List.map_cons, List.map_nil, List.replicate, List.cons_append, List.nil_append, Nat.reduceSub, add_ii, eo]
  refine seq_exc ?_
  rcases hb with hb | ⟨hb, ht⟩
  · rw [hb]
    simp only [octD]
    simp only [EVa, List.getElem?_cons_zero, List.getElem?_cons_succ, List.set_cons_zero, List.set_cons_succ, bind_ok, lift_ok, List.length_cons, List.length_nil, Nat.reduceAdd, Nat.reduceLeDiff, ↓reduceIte, if_true, if_false, Bool.false_eq_true, ev_raise, and_self, List.map_cons, List.map_nil, List.replicate, List.cons_append, List.nil_append, Nat.reduceSub, isN_non, Bool.not_false]
    rfl
  · rw [hb]
    simp only [octD]
    simp only [EVa, List.getElem?_cons_zero, List.getElem?_cons_succ, List.set_cons_zero, List.set_cons_succ, bind_ok, lift_ok, List.length_cons, List.length_nil, Nat.reduceAdd, Nat.reduceLeDiff, ↓reduceIte, if_true, if_false, Bool.false_eq_true, ev_raise, and_self, List.map_cons, List.map_nil, List.replicate, List.cons_append, List.nil_append, Nat.reduceSub, isN_int, eq_ii, show decide (((0 : Nat) : Int) = 0) = true from rfl, gt_ii, decide_eq_true (show (0 : Int) < (t : Int) by omega)]
    rfl
end
theorem for_exc {iv : ItV} {all xs : List D} {x : D} {t : Tg} {sb : MS} {ρ ρ1 ρ2 : DM.Env} {A A2 : AH} {C : Str} {fs : List (Str × D)} (h : itemsOf A iv = some all) (hb : bindT t x ρ = some ρ1) (hs : sb ρ1 A = .exc C fs ρ2 A2) : forGo iv all t sb (x :: xs) ρ A = .exc C fs ρ2 A2 := by
  conv => lhs; unfold forGo
  rw [if_pos h, hb]
  simp only [hs]
theorem rd_go {os : List Nat} {p : Nat} {iv : ItV} {all : List D} {A : AH} (ho : ∀ b ∈ os, b < 256) (hit : itemsOf A iv = some all) : ∀ (j t tot : Nat) (x3 x4 : Option D), t + j = 9 →
    match rdN j t tot (os.drop (p + t)) with
    | some (n, k) => forGo iv all (.nm 3) b_get_number1 ((List.range' t j).map fun i : Nat => D.int (i : Int)) [some (.tup (dI os)), some (.int (p : Int)), some (.int (tot : Int)), x3, x4] A = .rt (.tup [.int (n : Int), .int ((p + k : Nat) : Int)]) A
    | none => (∃ ρ, forGo iv all (.nm 3) b_get_number1 ((List.range' t j).map fun i : Nat => D.int (i : Int)) [some (.tup (dI os)), some (.int (p : Int)), some (.int (tot : Int)), x3, x4] A = .exc "InvalidOctets" (badO p) ρ A) ∨
        ∃ y2 y3 y4, forGo iv all (.nm 3) b_get_number1 ((List.range' t j).map fun i : Nat => D.int (i : Int)) [some (.tup (dI os)), some (.int (p : Int)), some (.int (tot : Int)), x3, x4] A = .nx [some (.tup (dI os)), some (.int (p : Int)), y2, y3, y4] A
  | 0, t, tot, x3, x4, hj => .inr ⟨_, _, _, for_nil hit⟩
  | j + 1, t, tot, x3, x4, hj => by
    rw [List.range'_succ, List.map_cons]
    have hat : os[p + t]? = (os.drop (p + t))[0]? := by rw [List.getElem?_drop]; rfl
    cases hd : os.drop (p + t) with
    | nil =>
      rw [hd] at hat
      obtain ⟨ρ, e⟩ := get_bad (x4 := x4) (tot := (tot : Int)) (A := A) (.inl hat)
      exact .inl ⟨ρ, for_exc hit rfl e⟩
    | cons b r =>
      rw [hd] at hat
      have hb : os[p + t]? = some b := hat
      have hb2 : b < 256 := ho b (List.mem_of_getElem? hb)
      have hr : os.drop (p + (t + 1)) = r := by rw [← Nat.add_assoc, ← List.drop_drop, hd]; rfl
      show (match (if b = 0 ∧ 0 < t then none else if b < 128 then some (tot + b % 128 * 128 ^ t, t + 1) else rdN j (t + 1) (tot + b % 128 * 128 ^ t) r) with | some (n, k) => _ | none => _)
      by_cases h0 : b = 0 ∧ 0 < t
      · rw [if_pos h0]
        obtain ⟨ρ, e⟩ := get_bad (x4 := x4) (tot := (tot : Int)) (A := A) (.inr ⟨by rw [hb, h0.1], h0.2⟩)
        exact .inl ⟨ρ, for_exc hit rfl e⟩
      · rw [if_neg h0]
        have turn := get_turn (x4 := x4) (tot := (tot : Int)) (A := A) hb hb2 (by omega) h0
        by_cases hs : b < 128
        · rw [if_pos hs] at turn ⊢
          refine (for_rt hit rfl turn).trans ?_
          rw [← Int.natCast_add, Nat.add_assoc]
        · rw [if_neg hs] at turn ⊢
          rw [← Int.natCast_add] at turn
          have ih := rd_go (p := p) ho hit j (t + 1) (tot + b % 128 * 128 ^ t) (some (.int (t : Int))) (some (.int (b : Int))) (by omega)
          rw [hr] at ih
          have e := for_nx (xs := (List.range' (t + 1) j).map fun i : Nat => D.int (i : Int)) (ρ1 := [some (.tup (dI os)), some (.int (p : Int)), some (.int (tot : Int)), some (.int (t : Int)), x4]) (t := .nm 3) (x := .int (t : Int)) (ρ := [some (.tup (dI os)), some (.int (p : Int)), some (.int (tot : Int)), x3, x4]) hit rfl turn
          split at ih
          · rw [e]; exact ih
          · rw [e]; exact ih
theorem get_number_sem {os : List Nat} {p : Nat} {A : AH} (ho : ∀ b ∈ os, b < 256) :
    f_get_number [.tup (dI os), .int (p : Int)] A = match rdNum (os.drop p) with
      | some (n, k) => .ok (.tup [.int (n : Int), .int ((p + k : Nat) : Int)]) A
      | none => .exc "InvalidOctets" (badO p) A := by
  have hit : itemsOf A (.rng 0 9) = some ((List.range' 0 9).map fun i : Nat => D.int (i : Int)) := rfl
  have go := rd_go (p := p) ho hit 9 0 0 none none rfl
  rw [Nat.add_zero] at go
  have hf : mFor (mR1 (mCons (mK (.int 9)) mNil)) (.nm 3) b_get_number1 [some (.tup (dI os)), some (.int (p : Int)), some (.int ((0 : Nat) : Int)), none, none] A = forGo (.rng 0 9) ((List.range' 0 9).map fun i : Nat => D.int (i : Int)) (.nm 3) b_get_number1 ((List.range' 0 9).map fun i : Nat => D.int (i : Int)) [some (.tup (dI os)), some (.int (p : Int)), some (.int ((0 : Nat) : Int)), none, none] A := by
    rw [ev_for, r1_at (j := 9) (A1 := A) (by simp only [EVa, List.getElem?_cons_zero, List.getElem?_cons_succ, List.set_cons_zero, List.set_cons_succ, bind_ok, lift_ok, List.length_cons, List.length_nil, Nat.reduceAdd, Nat.reduceLeDiff, ↓reduceIte, if_true, if_false, Bool.false_eq_true, ev_raise, and_self, List.map_cons, List.map_nil, List.replicate, List.cons_append, List.nil_append, Nat.reduceSub]) (by decide), lift_ok]
    simp only [hit]
  unfold rdNum
  have first : ∀ kt : MS, mSeq (mSet 2 (mK (.int 0))) kt [some (.tup (dI os)), some (.int (p : Int)), none, none, none] A = kt [some (.tup (dI os)), some (.int (p : Int)), some (.int ((0 : Nat) : Int)), none, none] A := fun kt => rfl
  split at go
  · rename_i n k hk
    unfold f_get_number
    refine fun_rt ?_
    refine (first _).trans (seq_rt ?_)
    rw [hf, go]
  · rename_i hk
    rcases go with ⟨ρ, go⟩ | ⟨y2, y3, y4, go⟩
    · unfold f_get_number
      refine fun_exc (ρ1 := ρ) ?_
      refine (first _).trans (seq_exc ?_)
      rw [hf, go]
    · unfold f_get_number
      refine fun_exc (ρ1 := [some (.tup (dI os)), some (.int (p : Int)), y2, y3, y4]) ?_
      refine (first _).trans ((seq_nx (hf.trans go)).trans ?_)
      simp only [EVa, List.getElem?_cons_zero, List.getElem?_cons_succ, List.set_cons_zero, List.set_cons_succ, bind_ok, lift_ok, List.length_cons, List.length_nil, Nat.reduceAdd, Nat.reduceLeDiff, ↓reduceIte, if_true, if_false, Bool.false_eq_true, ev_raise, and_self, List.map_cons, List.map_nil, List.replicate, List.cons_append, List.nil_append, Nat.reduceSub]
      rfl
end JR
end
section
set_option maxHeartbeats 1000000
namespace JR
open PySem PySem.Spec PyProof.Rows L2 DM
def uz (n : Nat) : Int := if n % 2 = 0 then (n : Int) / 2 else -((n : Int) / 2) - 1
theorem get_integer_sem {os : List Nat} {p : Nat} {A : AH} (ho : ∀ b ∈ os, b < 256) :
    f_get_integer [.tup (dI os), .int (p : Int)] A = match rdNum (os.drop p) with
      | some (n, k) => .ok (.tup [.int (uz n), .int ((p + k : Nat) : Int)]) A
      | none => .exc "InvalidOctets" (badO p) A := by
  have hg := get_number_sem (p := p) (A := A) ho
  cases hk : rdNum (os.drop p) with
  | some nk =>
    obtain ⟨n, k⟩ := nk
    rw [hk] at hg
    show _ = Res.ok (D.tup [.int (uz n), .int ((p + k : Nat) : Int)]) A
    unfold f_get_integer
    refine fun_rt ?_
    refine (seq_nx (ρ1 := [some (.tup (dI os)), some (.int (p : Int)), some (.int (n : Int)), some (.int ((p + k : Nat) : Int))]) (A1 := A) ?_).trans ?_
    · simp only [EVa, List.getElem?_cons_zero, List.getElem?_cons_succ, List.set_cons_zero, List.set_cons_succ, bind_ok, lift_ok, List.length_cons, List.length_nil, Nat.reduceAdd, Nat.reduceLeDiff, ↓reduceIte, if_true, if_false, Bool.false_eq_true, ev_raise, and_self, List.map_cons, List.map_nil, List.replicate, List.cons_append, List.nil_append, Nat.reduceSub, hg, bind_tp]
    have cd : CDiv (n : Int) 2 := ⟨by decide, by decide⟩
    by_cases h2 : n % 2 = 0
    · have e1 : ((n % 2 : Nat) : Int) = 0 := by omega
      simp only [EVa, List.getElem?_cons_zero, List.getElem?_cons_succ, List.set_cons_zero, List.set_cons_succ, bind_ok, lift_ok, List.length_cons, List.length_nil, Nat.reduceAdd, Nat.reduceLeDiff, ↓reduceIte, if_true, if_false, Bool.false_eq_true, ev_raise, and_self, List.map_cons, List.map_nil, List.replicate, List.cons_append, List.nil_append, Nat.reduceSub, and_ii, and1, e1, eq_ii, decide_true, div_ii cd]
      unfold uz
      rw [if_pos h2]
    · have e1 : ((n % 2 : Nat) : Int) = 1 := by omega
      simp only [EVa, List.getElem?_cons_zero, List.getElem?_cons_succ, List.set_cons_zero, List.set_cons_succ, bind_ok, lift_ok, List.length_cons, List.length_nil, Nat.reduceAdd, Nat.reduceLeDiff, ↓reduceIte, if_true, if_false, Bool.false_eq_true, ev_raise, and_self, List.map_cons, List.map_nil, List.replicate, List.cons_append, List.nil_append, Nat.reduceSub, and_ii, and1, e1, eq_ii, show decide ((1 : Int) = 0) = false from rfl, div_ii cd, sub_ii]
      unfold uz
      rw [if_neg h2]
  | none =>
    rw [hk] at hg
    show _ = Res.exc "InvalidOctets" (badO p) A
    unfold f_get_integer
    refine fun_exc (ρ1 := [some (.tup (dI os)), some (.int (p : Int)), none, none]) ?_
    refine seq_exc ?_
    have hg2 : mCallF 2 f_get_number (mCons (mVar 0) (mCons (mVar 1) mNil)) [some (.tup (dI os)), some (.int (p : Int)), none, none] A = .exc "InvalidOctets" (badO p) A := hg
    show mAsg _ _ [some (.tup (dI os)), some (.int (p : Int)), none, none] A = _
    rw [ev_asg, hg2]
    rfl
end JR
end
section
set_option maxHeartbeats 1000000
namespace K48
/-! ### the plain law of files -/
inductive Deed | add (x : List Nat) | keep (n : Nat)
def app : Deed → List Nat → List Nat
  | .add x, o => o ++ x
  | .keep n, o => o.take n
def steps : Deed → Nat
  | .add x => x.length
  | .keep _ => 1
def next : Deed → List Nat → List (List Nat)
  | .add x, o => (List.range x.length).map fun k => o ++ x.take (k + 1)
  | .keep n, o => [o.take n]
def cur (o : List Nat) (ds : List Deed) : List Nat := ds.foldl (fun o d => app d o) o
def stsFrom : List Nat → List Deed → List (List Nat)
  | _, [] => []
  | o, d :: ds => next d o ++ stsFrom (app d o) ds
def sts (o : List Nat) (ds : List Deed) : List (List Nat) := o :: stsFrom o ds
theorem cur_snoc (d : Deed) (ds : List Deed) (o : List Nat) : cur o (ds ++ [d]) = app d (cur o ds) := by
  unfold cur
  rw [List.foldl_append]
  rfl
def total (ds : List Deed) : Nat := (ds.map steps).sum
def one (d : Deed) (many : Nat) (o : List Nat) : List Nat := if 0 < many then (if many = steps d then app d o else match d with
  | .add x => o ++ x.take many
  | .keep _ => o) else o
def run : List Nat → Nat → List Deed → List Nat
  | o, _, [] => o
  | o, n, d :: ds => run (one d (min n (steps d)) o) (n - min n (steps d)) ds
end K48
end
section
set_option maxHeartbeats 1000000
namespace JR
open PySem PySem.Spec PyProof.Rows L2 DM
open K48 (Deed app cur cur_snoc)
/-! ### files -/
def deedD : Deed → D
  | .add x => .tup [.str "add", .tup (dI x)]
  | .keep n => .tup [.str "keep", .int n]
def SmD (d : Deed) : Prop := match d with
  | .add x => x.length ≤ 70000
  | .keep _ => True
theorem sl_upto {os : List Nat} {k : Nat} {A : AH} : fSl (.tup (dI os)) none (some (k : Int)) A = .ok (.tup (dI (os.take k))) A := by
  simp only [fSl, cut_take, dI_take]
theorem add_oct {a b : List Nat} {A : AH} (h : a.length + b.length ≤ 16777216) : fAdd (.tup (dI a)) (.tup (dI b)) A = .ok (.tup (dI (a ++ b))) A := by
  rw [add_tt (by rw [dI_length, dI_length]; exact h), dI_append]
theorem behind_ok {o : List Nat} {d : Deed} {A : AH} (ho : o.length ≤ 10000000) (hd : SmD d) : f_octets_behind [.tup (dI o), deedD d] A = .ok (.tup (dI (app d o))) A := by
  unfold f_octets_behind
  refine fun_rt ?_
  cases d with
  | add x =>
    have h1 : ¬ (("add" : Str) = "keep") := by decide
    have a := add_oct (a := o) (b := x) (A := A) (by have : x.length ≤ 70000 := hd; omega)
    refine (seq_nx (ρ1 := [some (.tup (dI o)), some (deedD (.add x)), some (.str "add"), some (.tup (dI x))]) (A1 := A) rfl).trans ?_
    simp only [EVa, List.getElem?_cons_zero, List.getElem?_cons_succ, List.set_cons_zero, List.set_cons_succ, bind_ok, lift_ok, List.length_cons, List.length_nil, Nat.reduceAdd, Nat.reduceLeDiff, ↓reduceIte, if_true, if_false, Bool.false_eq_true, eq_ss, decide_eq_false h1, a]
    rfl
  | keep n =>
    refine (seq_nx (ρ1 := [some (.tup (dI o)), some (deedD (.keep n)), some (.str "keep"), some (.int n)]) (A1 := A) rfl).trans ?_
    simp only [EVa, List.getElem?_cons_zero, List.getElem?_cons_succ, List.set_cons_zero, List.set_cons_succ, bind_ok, lift_ok, List.length_cons, List.length_nil, Nat.reduceAdd, Nat.reduceLeDiff, ↓reduceIte, if_true, if_false, Bool.false_eq_true, eq_ss, decide_true, sl_upto]
    rfl
theorem app_len {d : Deed} {o : List Nat} (hd : SmD d) : (app d o).length ≤ o.length + 70000 := by
  cases d with
  | add x => simp only [app, List.length_append]; have : x.length ≤ 70000 := hd; omega
  | keep n => simp only [app, List.length_take]; omega
theorem cur_len : ∀ (ds : List Deed) (o : List Nat), (∀ d ∈ ds, SmD d) → (cur o ds).length ≤ o.length + 70000 * ds.length
  | [], o, _ => Nat.le_refl _
  | d :: ds, o, h => by
    have h1 := cur_len ds (app d o) fun z hz => h z (List.mem_cons_of_mem _ hz)
    have h2 := app_len (o := o) (h d List.mem_cons_self)
    show (cur (app d o) ds).length ≤ _
    rw [List.length_cons]
    omega
def fup {α : Type} (f : Nat → α) (p : Nat) (v : α) : Nat → α := fun j => if j = p then v else f j
theorem fup_same {α : Type} {f : Nat → α} {p : Nat} {v : α} : fup f p v p = v := if_pos rfl
theorem fup_ne {α : Type} {f : Nat → α} {p j : Nat} {v : α} (h : j ≠ p) : fup f p v j = f j := if_neg h
/-- how much the files may grow -/
def Lm (s : Nat → List Nat) (dd : Nat → List Deed) (M : Nat) : Prop := ∀ i, i < 3 → (∀ d ∈ dd i, SmD d) ∧ (s i).length + 70000 * (dd i).length ≤ M
def jfs (d0 : D) (st : Nat) (en : Ws) (w : Str) (F : Nat) (dr : D) : List (Str × D) := [("start", d0), ("stamp", .int (st : Int)), ("entries", .tup (prs en)), ("word", .str w), ("files", .ref F), ("drawn", dr)]
def d3 (s : Nat → List Nat) : List D := [.tup (dI (s 0)), .tup (dI (s 1)), .tup (dI (s 2))]
def r3 (e : Nat → Nat) : List D := [.ref (e 0), .ref (e 1), .ref (e 2)]
theorem three {P : Nat → Prop} (h0 : P 0) (h1 : P 1) (h2 : P 2) : ∀ p, p < 3 → P p := fun p hp => match p, hp with
  | 0, _ => h0
  | 1, _ => h1
  | 2, _ => h2
theorem d3_at {s : Nat → List Nat} {p : Nat} (hp : p < 3) : (d3 s)[p]? = some (.tup (dI (s p))) := three (P := fun p => (d3 s)[p]? = some (.tup (dI (s p)))) rfl rfl rfl p hp
theorem r3_at {e : Nat → Nat} {p : Nat} (hp : p < 3) : (r3 e)[p]? = some (.ref (e p)) := three (P := fun p => (r3 e)[p]? = some (.ref (e p))) rfl rfl rfl p hp
theorem d3_set {s : Nat → List Nat} {p : Nat} {o : List Nat} (hp : p < 3) : (d3 s).set p (.tup (dI o)) = d3 (fup s p o) := three (P := fun p => (d3 s).set p (.tup (dI o)) = d3 (fup s p o)) rfl rfl rfl p hp
theorem r3_set {e : Nat → Nat} {p n : Nat} (hp : p < 3) : (r3 e).set p (.ref n) = r3 (fup e p n) := three (P := fun p => (r3 e).set p (.ref n) = r3 (fup e p n)) rfl rfl rfl p hp
structure FS (g : Nat → Nat) (F sy de : Nat) (e : Nat → Nat) (s : Nat → List Nat) (dd : Nat → List Deed) (A : AH) : Prop where
  gF : g F = 2
  gsy : g sy = 3
  gde : g de = 4
  ge : ∀ i, i < 3 → g (e i) = 5 + i
  hF : ∃ st, A[F]? = some (.ins "Files" [("start", st), ("synced", .ref sy), ("deeds", .ref de)])
  hsy : A[sy]? = some (.lst (d3 s))
  hde : A[de]? = some (.lst (r3 e))
  he : ∀ i, i < 3 → A[e i]? = some (.lst ((dd i).map deedD))
/-- nothing else has changed -/
structure Step (g g' : Nat → Nat) (A A' : AH) : Prop where
  len : A.length ≤ A'.length
  keep : ∀ n, n < A.length → g n = 0 → A'[n]? = A[n]? ∧ g' n = 0
theorem Step.refl {g : Nat → Nat} {A : AH} : Step g g A A := ⟨Nat.le_refl _, fun _ _ h => ⟨rfl, h⟩⟩
theorem Step.trans {g g' g'' : Nat → Nat} {A B C : AH} (a : Step g g' A B) (b : Step g' g'' B C) : Step g g'' A C :=
  ⟨Nat.le_trans a.len b.len, fun n h1 h2 => by
    obtain ⟨x1, x2⟩ := a.keep n h1 h2
    obtain ⟨y1, y2⟩ := b.keep n (Nat.lt_of_lt_of_le h1 a.len) x2
    exact ⟨y1.trans x1, y2⟩⟩
theorem Step.push {g : Nat → Nat} {A : AH} (G : AH) : Step g g A (A ++ G) := ⟨by simp, fun n h1 h2 => ⟨List.getElem?_append_left h1, h2⟩⟩
theorem Step.set {g : Nat → Nat} {A : AH} {n : Nat} {o : AO} (h : g n ≠ 0) : Step g g A (A.set n o) := ⟨by simp, fun k h1 h2 => ⟨List.getElem?_set_ne fun e => h (by rw [e]; exact h2), h2⟩⟩
theorem lt_of {A : AH} {n : Nat} {o : AO} (h : A[n]? = some o) : n < A.length := (List.getElem?_eq_some_iff.mp h).1
/-- what keeps the own things keeps the files -/
def Kept (g : Nat → Nat) (A A' : AH) : Prop := ∀ n, n < A.length → g n ≠ 0 → A'[n]? = A[n]?
theorem Kept.push {g : Nat → Nat} {A : AH} (G : AH) : Kept g A (A ++ G) := fun n h _ => List.getElem?_append_left h
theorem Kept.set {g : Nat → Nat} {A : AH} {n : Nat} {o : AO} (h : g n = 0) : Kept g A (A.set n o) := fun k _ h2 => List.getElem?_set_ne fun e => h2 (by rw [← e]; exact h)
theorem Kept.at {g : Nat → Nat} {A A' : AH} {n : Nat} {o : AO} (k : Kept g A A') (h : A[n]? = some o) (hg : g n ≠ 0) : A'[n]? = some o := (k n (lt_of h) hg).trans h
section
variable {g : Nat → Nat} {J F sy de : Nat} {e : Nat → Nat} {s : Nat → List Nat} {dd : Nat → List Deed} {A A' : AH} {M : Nat}
theorem FS.keep (T : FS g F sy de e s dd A) (k : Kept g A A') : FS g F sy de e s dd A' := by
  obtain ⟨st, hF⟩ := T.hF
  exact ⟨T.gF, T.gsy, T.gde, T.ge, ⟨st, k.at hF (by rw [T.gF]; decide)⟩, k.at T.hsy (by rw [T.gsy]; decide), k.at T.hde (by rw [T.gde]; decide), fun i hi => k.at (T.he i hi) (by rw [T.ge i hi]; omega)⟩
theorem FS.push (T : FS g F sy de e s dd A) (G : AH) : FS g F sy de e s dd (A ++ G) := T.keep (.push G)
theorem ne_tag {a b : Nat} (h : g a ≠ g b) : a ≠ b := fun z => h (by rw [z])
theorem FS.setE (T : FS g F sy de e s dd A) {p : Nat} (hp : p < 3) (ds : List Deed) : FS g F sy de e s (fup dd p ds) (A.set (e p) (.lst (ds.map deedD))) := by
  have kk : ∀ {n : Nat} {o : AO}, A[n]? = some o → g n ≠ 5 + p → (A.set (e p) (.lst (ds.map deedD)))[n]? = some o := fun {n o} hn h1 => by
    rw [List.getElem?_set_ne (ne_tag (g := g) (by rw [T.ge p hp]; exact fun z => h1 z.symm))]; exact hn
  obtain ⟨st, hF⟩ := T.hF
  refine ⟨T.gF, T.gsy, T.gde, T.ge, ⟨st, kk hF (by rw [T.gF]; omega)⟩, kk T.hsy (by rw [T.gsy]; omega), kk T.hde (by rw [T.gde]; omega), fun i hi => ?_⟩
  by_cases hz : i = p
  · subst hz
    rw [fup_same, List.getElem?_set_self (lt_of (T.he i hi))]
  · rw [fup_ne hz]
    exact kk (T.he i hi) (by rw [T.ge i hi]; omega)
theorem FS.setSy (T : FS g F sy de e s dd A) {p : Nat} (hp : p < 3) (o : List Nat) : FS g F sy de e (fup s p o) dd (A.set sy (.lst (d3 (fup s p o)))) := by
  have kk : ∀ {n : Nat} {o' : AO}, A[n]? = some o' → g n ≠ 3 → (A.set sy (.lst (d3 (fup s p o))))[n]? = some o' := fun {n o'} hn h1 => by
    rw [List.getElem?_set_ne (ne_tag (g := g) (by rw [T.gsy]; exact fun z => h1 z.symm))]; exact hn
  obtain ⟨st, hF⟩ := T.hF
  exact ⟨T.gF, T.gsy, T.gde, T.ge, ⟨st, kk hF (by rw [T.gF]; decide)⟩, List.getElem?_set_self (lt_of T.hsy), kk T.hde (by rw [T.gde]; decide), fun i hi => kk (T.he i hi) (by rw [T.ge i hi]; omega)⟩
def reg (g : Nat → Nat) (old new lab : Nat) : Nat → Nat := fun k => if k = new then lab else if k = old then 100 else g k
theorem FS.newE (T : FS g F sy de e s dd A) {p : Nat} (hp : p < 3) : FS (reg g (e p) A.length (5 + p)) F sy de (fup e p A.length) s (fup dd p []) ((A ++ [AO.lst []]).set de (.lst (r3 (fup e p A.length)))) := by
  obtain ⟨st, hF⟩ := T.hF
  have rg : ∀ {n : Nat} {o : AO}, A[n]? = some o → g n ≠ 5 + p → reg g (e p) A.length (5 + p) n = g n := fun {n o} hn h1 => by
    unfold reg
    rw [if_neg (Nat.ne_of_lt (lt_of hn)), if_neg (ne_tag (g := g) (by rw [T.ge p hp]; exact h1))]
  have kk : ∀ {n : Nat} {o : AO}, A[n]? = some o → g n ≠ 4 → ((A ++ [AO.lst []]).set de (.lst (r3 (fup e p A.length))))[n]? = some o := fun {n o} hn h1 => by
    rw [List.getElem?_set_ne (ne_tag (g := g) (by rw [T.gde]; exact fun z => h1 z.symm)), List.getElem?_append_left (lt_of hn)]; exact hn
  have hd := lt_of T.hde
  refine ⟨(rg hF (by rw [T.gF]; omega)).trans T.gF, (rg T.hsy (by rw [T.gsy]; omega)).trans T.gsy, (rg T.hde (by rw [T.gde]; omega)).trans T.gde, fun i hi => ?_, ⟨st, kk hF (by rw [T.gF]; decide)⟩, kk T.hsy (by rw [T.gsy]; decide), List.getElem?_set_self (by simp; omega), fun i hi => ?_⟩
  · by_cases hz : i = p
    · subst hz; rw [fup_same]; unfold reg; rw [if_pos rfl]
    · rw [fup_ne hz]; exact (rg (T.he i hi) (by rw [T.ge i hi]; omega)).trans (T.ge i hi)
  · by_cases hz : i = p
    · subst hz
      rw [fup_same, fup_same, List.getElem?_set_ne (by omega)]
      simp
    · rw [fup_ne hz, fup_ne hz]; exact kk (T.he i hi) (by rw [T.ge i hi]; omega)
theorem reg_step {p : Nat} (T : FS g F sy de e s dd A) (hp : p < 3) : Step g (reg g (e p) A.length (5 + p)) A ((A ++ [AO.lst []]).set de (.lst (r3 (fup e p A.length)))) := by
  refine ⟨by simp, fun n h1 h2 => ⟨?_, ?_⟩⟩
  · rw [List.getElem?_set_ne (fun z => by rw [← z, T.gde] at h2; cases h2), List.getElem?_append_left h1]
  · unfold reg
    rw [if_neg (by omega), if_neg (fun z => by rw [z, T.ge p hp] at h2; omega)]
    exact h2
/-! reading -/
theorem FS.fsy (T : FS g F sy de e s dd A) {me : ME} {ρ : DM.Env} (h : me ρ A = .ok (.ref F) A) : mFld "Files" "synced" me ρ A = .ok (.ref sy) A := by
  obtain ⟨st, hF⟩ := T.hF
  exact fld_run h hF rfl
theorem FS.fde (T : FS g F sy de e s dd A) {me : ME} {ρ : DM.Env} (h : me ρ A = .ok (.ref F) A) : mFld "Files" "deeds" me ρ A = .ok (.ref de) A := by
  obtain ⟨st, hF⟩ := T.hF
  exact fld_run h hF rfl
theorem FS.isy (T : FS g F sy de e s dd A) {p : Nat} (hp : p < 3) : fIx (.ref sy) (.int (p : Nat)) A = .ok (.tup (dI (s p))) A := ix_ref T.hsy (atI_nat (d3_at hp))
theorem FS.ide (T : FS g F sy de e s dd A) {p : Nat} (hp : p < 3) : fIx (.ref de) (.int (p : Nat)) A = .ok (.ref (e p)) A := ix_ref T.hde (atI_nat (r3_at hp))
theorem octof_go {iv : ItV} {all : List D} {x0 x1 : Option D} (hit : itemsOf A iv = some all) : ∀ (ds : List Deed) (o : List Nat) (x3 : Option D), (∀ d ∈ ds, SmD d) → o.length + 70000 * ds.length ≤ 10000000 → ∃ y3,
    forGo iv all (.nm 3) b_Files__octets_of1 (ds.map deedD) [x0, x1, some (.tup (dI o)), x3] A = .nx [x0, x1, some (.tup (dI (cur o ds))), y3] A
  | [], o, x3, _, _ => ⟨x3, for_nil hit⟩
  | d :: ds, o, x3, hd, hl => by
    have hl' := app_len (o := o) (hd d List.mem_cons_self)
    simp only [List.length_cons] at hl
    obtain ⟨y3, w⟩ := octof_go (x0 := x0) (x1 := x1) hit ds (app d o) (some (deedD d)) (fun z hz => hd z (List.mem_cons_of_mem _ hz)) (by omega)
    refine ⟨y3, (for_nx hit rfl ?_).trans w⟩
    unfold b_Files__octets_of1
    simp only [EVa, List.getElem?_cons_zero, List.getElem?_cons_succ, List.set_cons_zero, List.set_cons_succ, bind_ok, lift_ok, List.length_cons, List.length_nil, Nat.reduceAdd, Nat.reduceLeDiff, ↓reduceIte, if_true, if_false, Bool.false_eq_true, behind_ok (o := o) (d := d) (A := A) (by omega) (hd d List.mem_cons_self)]
theorem octof_ok (T : FS g F sy de e s dd A) (L : Lm s dd M) (hM : M ≤ 10000000) {p : Nat} (hp : p < 3) : f_Files__octets_of [.ref F, .int (p : Nat)] A = .ok (.tup (dI (cur (s p) (dd p)))) A := by
  have hit : itemsOf A (.sq (.ref (e p))) = some ((dd p).map deedD) := seqOf_ref (T.he p hp)
  obtain ⟨y3, w⟩ := octof_go (x0 := some (.ref F)) (x1 := some (.int (p : Nat))) hit (dd p) (s p) none (L p hp).1 (Nat.le_trans (L p hp).2 hM)
  have f1 : mFld "Files" "synced" (mVar 0) [some (.ref F), some (.int (p : Nat)), none, none] A = .ok (.ref sy) A := T.fsy rfl
  have f2 : mFld "Files" "deeds" (mVar 0) [some (.ref F), some (.int (p : Nat)), some (.tup (dI (s p))), none] A = .ok (.ref de) A := T.fde rfl
  unfold f_Files__octets_of
  refine fun_rt ?_
  refine (seq_nx (ρ1 := [some (.ref F), some (.int (p : Nat)), some (.tup (dI (s p))), none]) (A1 := A) ?_).trans ?_
  · simp only [EVa, List.getElem?_cons_zero, List.getElem?_cons_succ, List.set_cons_zero, List.set_cons_succ, bind_ok, lift_ok, List.length_cons, List.length_nil, Nat.reduceAdd, Nat.reduceLeDiff, ↓reduceIte, if_true, if_false, Bool.false_eq_true, ev_raise, and_self, List.map_cons, List.map_nil, List.replicate, List.cons_append, List.nil_append, Nat.reduceSub, f1, T.isy hp]
  refine (seq_nx (ρ1 := [some (.ref F), some (.int (p : Nat)), some (.tup (dI (cur (s p) (dd p)))), y3]) (A1 := A) ?_).trans rfl
  have sq : seqOf A (.ref (e p)) = some ((dd p).map deedD) := hit
  simp only [EVa, List.getElem?_cons_zero, List.getElem?_cons_succ, List.set_cons_zero, List.set_cons_succ, bind_ok, lift_ok, List.length_cons, List.length_nil, Nat.reduceAdd, Nat.reduceLeDiff, ↓reduceIte, if_true, if_false, Bool.false_eq_true, ev_for, f2, T.ide hp, sq, hit]
  exact w
/-- a method of the files -/
theorem FS.meth (T : FS g F sy de e s dd A) {mname : Str} {n : Nat} {mf : List D → AH → Res D} {mo : ME} {ms : MA} {ρ : DM.Env} {ds : List D} {A1 : AH} (hm : ∀ st, List.lookup mname [("start", st), ("synced", D.ref sy), ("deeds", D.ref de)] = none) (ho : mo ρ A = .ok (.ref F) A) (ha : ms ρ A = .ok ds A1) (hn : ds.length + 1 = n) :
    mMeth "Files" mname n mf mo ms ρ A = mf (.ref F :: ds) A1 := by
  obtain ⟨st, hF⟩ := T.hF
  exact meth_run ho hF (hm st) ha hn
theorem app_deed (T : FS g F sy de e s dd A) {p : Nat} (hp : p < 3) (hl : (dd p).length ≤ 1000) (d : Deed) : fApp (e p) [deedD d] A = .ok .non (A.set (e p) (.lst ((dd p ++ [d]).map deedD))) := by
  have z : ((dd p).map deedD).length < 16777216 := by rw [List.length_map]; omega
  simp only [fApp, T.he p hp, z, if_true]
  rw [List.map_append]
  rfl
theorem Lm.few (L : Lm s dd M) (hM : M ≤ 10000000) {p : Nat} (hp : p < 3) : (dd p).length ≤ 1000 := by
  have := (L p hp).2; omega
theorem Lm.deed (L : Lm s dd M) {p : Nat} (d : Deed) (hd : SmD d) : Lm s (fup dd p (dd p ++ [d])) (M + 70000) := fun i hi => by
  obtain ⟨a, b⟩ := L i hi
  by_cases hz : i = p
  · subst hz
    rw [fup_same]
    refine ⟨fun z hz => ?_, by rw [List.length_append, List.length_singleton]; omega⟩
    rcases List.mem_append.mp hz with hz | hz
    · exact a z hz
    · rw [List.mem_singleton] at hz; subst hz; exact hd
  · rw [fup_ne hz]; exact ⟨a, by omega⟩
theorem Lm.sync (L : Lm s dd M) {p : Nat} : Lm (fup s p (cur (s p) (dd p))) (fup dd p []) M := fun i hi => by
  obtain ⟨a, b⟩ := L i hi
  by_cases hz : i = p
  · subst hz
    rw [fup_same, fup_same]
    exact ⟨(fun _ h => nomatch h), by have := cur_len (dd i) (s i) a; rw [List.length_nil]; omega⟩
  · rw [fup_ne hz, fup_ne hz]; exact ⟨a, b⟩
theorem Lm.mono (L : Lm s dd M) {N : Nat} (h : M ≤ N) : Lm s dd N := fun i hi => ⟨(L i hi).1, Nat.le_trans (L i hi).2 h⟩
theorem fadd_ok (T : FS g F sy de e s dd A) (L : Lm s dd M) (hM : M ≤ 10000000) {p : Nat} (hp : p < 3) {x : List Nat} (hx : x ≠ []) :
    f_Files__add [.ref F, .int (p : Nat), .tup (dI x)] A = .ok .non (A.set (e p) (.lst ((dd p ++ [Deed.add x]).map deedD))) := by
  have h0 : (0 : Int) < ((x.length : Nat) : Int) := by
    have := List.length_pos_iff.mpr hx
    omega
  have ap : fApp (e p) [.tup [.str "add", .tup (dI x)]] A = _ := app_deed T hp (L.few hM hp) (.add x)
  have he := T.he p hp
  have f2 : mFld "Files" "deeds" (mVar 0) [some (.ref F), some (.int (p : Nat)), some (.tup (dI x))] A = .ok (.ref de) A := T.fde rfl
  unfold f_Files__add
  refine fun_nx (ρ1 := [some (.ref F), some (.int (p : Nat)), some (.tup (dI x))]) ?_
  simp only [EVa, List.getElem?_cons_zero, List.getElem?_cons_succ, List.set_cons_zero, List.set_cons_succ, bind_ok, lift_ok, List.length_cons, List.length_nil, Nat.reduceAdd, Nat.reduceLeDiff, ↓reduceIte, if_true, if_false, Bool.false_eq_true, ev_raise, and_self, List.map_cons, List.map_nil, List.replicate, List.cons_append, List.nil_append, Nat.reduceSub, len_tup, gt_ii, decide_eq_true h0, f2, T.ide hp, tup_tup, he, ap]
theorem fkeep_none (T : FS g F sy de e s dd A) (L : Lm s dd M) (hM : M ≤ 10000000) {p n : Nat} (hp : p < 3) (hn : (cur (s p) (dd p)).length ≤ n) : f_Files__keep [.ref F, .int (p : Nat), .int (n : Nat)] A = .ok .non A := by
  have h0 : ¬ ((n : Nat) : Int) < (((cur (s p) (dd p)).length : Nat) : Int) := by omega
  have oc := octof_ok T L hM hp
  have mt : mMeth "Files" "octets_of" 2 f_Files__octets_of (mVar 0) (mCons (mVar 1) (mNil)) [some (.ref F), some (.int (p : Nat)), some (.int (n : Nat))] A = f_Files__octets_of [.ref F, .int (p : Nat)] A := T.meth (fun _ => rfl) rfl rfl rfl
  unfold f_Files__keep
  refine fun_nx (ρ1 := [some (.ref F), some (.int (p : Nat)), some (.int (n : Nat))]) ?_
  simp only [EVa, List.getElem?_cons_zero, List.getElem?_cons_succ, List.set_cons_zero, List.set_cons_succ, bind_ok, lift_ok, List.length_cons, List.length_nil, Nat.reduceAdd, Nat.reduceLeDiff, ↓reduceIte, if_true, if_false, Bool.false_eq_true, ev_raise, and_self, List.map_cons, List.map_nil, List.replicate, List.cons_append, List.nil_append, Nat.reduceSub, mt, oc, len_tup, gt_ii, decide_eq_false h0]
theorem fkeep_some (T : FS g F sy de e s dd A) (L : Lm s dd M) (hM : M ≤ 10000000) {p n : Nat} (hp : p < 3) (hn : n < (cur (s p) (dd p)).length) :
    f_Files__keep [.ref F, .int (p : Nat), .int (n : Nat)] A = .ok .non (A.set (e p) (.lst ((dd p ++ [Deed.keep n]).map deedD))) := by
  have h0 : ((n : Nat) : Int) < (((cur (s p) (dd p)).length : Nat) : Int) := by omega
  have oc := octof_ok T L hM hp
  have mt : mMeth "Files" "octets_of" 2 f_Files__octets_of (mVar 0) (mCons (mVar 1) (mNil)) [some (.ref F), some (.int (p : Nat)), some (.int (n : Nat))] A = f_Files__octets_of [.ref F, .int (p : Nat)] A := T.meth (fun _ => rfl) rfl rfl rfl
  have ap : fApp (e p) [.tup [.str "keep", .int (n : Nat)]] A = _ := app_deed T hp (L.few hM hp) (.keep n)
  have he := T.he p hp
  have f2 : mFld "Files" "deeds" (mVar 0) [some (.ref F), some (.int (p : Nat)), some (.int (n : Nat))] A = .ok (.ref de) A := T.fde rfl
  unfold f_Files__keep
  refine fun_nx (ρ1 := [some (.ref F), some (.int (p : Nat)), some (.int (n : Nat))]) ?_
  simp only [EVa, List.getElem?_cons_zero, List.getElem?_cons_succ, List.set_cons_zero, List.set_cons_succ, bind_ok, lift_ok, List.length_cons, List.length_nil, Nat.reduceAdd, Nat.reduceLeDiff, ↓reduceIte, if_true, if_false, Bool.false_eq_true, ev_raise, and_self, List.map_cons, List.map_nil, List.replicate, List.cons_append, List.nil_append, Nat.reduceSub, mt, oc, len_tup, gt_ii, decide_eq_true h0, f2, T.ide hp, he, ap]
/-- keep, either way -/
theorem fkeep_ok (T : FS g F sy de e s dd A) (L : Lm s dd M) (hM : M + 70000 ≤ 10000000) {p n : Nat} (hp : p < 3) : ∃ dd' A', f_Files__keep [.ref F, .int (p : Nat), .int (n : Nat)] A = .ok .non A' ∧ FS g F sy de e s dd' A' ∧ Step g g A A' ∧ Lm s dd' (M + 70000) ∧
    (∀ i, i ≠ p → dd' i = dd i) ∧ cur (s p) (dd' p) = (cur (s p) (dd p)).take n ∧ ∀ k, g k ≠ 5 + p → A'[k]? = A[k]? := by
  by_cases hn : n < (cur (s p) (dd p)).length
  · refine ⟨fup dd p (dd p ++ [.keep n]), _, fkeep_some T L (by omega) hp hn, T.setE hp _, .set (by rw [T.ge p hp]; omega), L.deed (.keep n) trivial, fun i hi => fup_ne hi, ?_, fun k hk => List.getElem?_set_ne (ne_tag (g := g) (by rw [T.ge p hp]; exact fun z => hk z.symm))⟩
    rw [fup_same, cur_snoc]
    rfl
  · exact ⟨dd, A, fkeep_none T L (by omega) hp (by omega), T, .refl, L.mono (by omega), fun _ _ => rfl, (List.take_of_length_le (by omega)).symm, fun _ _ => rfl⟩
theorem fsync_ok (T : FS g F sy de e s dd A) (L : Lm s dd M) (hM : M ≤ 10000000) {p : Nat} (hp : p < 3) : ∃ A' g' e', f_Files__sync [.ref F, .int (p : Nat)] A = .ok .non A' ∧ FS g' F sy de e' (fup s p (cur (s p) (dd p))) (fup dd p []) A' ∧ Step g g' A A' ∧
    ∀ k, k < A.length → g k = 1 → A'[k]? = A[k]? ∧ g' k = 1 := by
  have oc := octof_ok T L hM hp
  have mt : mMeth "Files" "octets_of" 2 f_Files__octets_of (mVar 0) (mCons (mVar 1) (mNil)) [some (.ref F), some (.int (p : Nat))] A = f_Files__octets_of [.ref F, .int (p : Nat)] A := T.meth (fun _ => rfl) rfl rfl rfl
  have T1 := T.setSy hp (cur (s p) (dd p))
  have S1 : Step g g A (A.set sy (.lst (d3 (fup s p (cur (s p) (dd p)))))) := .set (by rw [T.gsy]; decide)
  have hsy := T.hsy
  have hk1 : ∀ k, g k = 1 → (A.set sy (.lst (d3 (fup s p (cur (s p) (dd p))))))[k]? = A[k]? := fun k hk => List.getElem?_set_ne (ne_tag (g := g) (by rw [T.gsy, hk]; decide))
  generalize hA1 : A.set sy (.lst (d3 (fup s p (cur (s p) (dd p))))) = A1 at T1 S1 hk1
  have T2 := T1.newE hp
  have S2 := reg_step T1 hp
  have T1p := T1.push [.lst []]
  have hde := T1p.hde
  have i3 : ixN 3 ((p : Nat) : Int) = some p := three (P := fun p => ixN 3 ((p : Nat) : Int) = some p) rfl rfl rfl p hp
  have f1 : mFld "Files" "synced" (mVar 0) [some (.ref F), some (.int (p : Nat))] A = .ok (.ref sy) A := T.fsy rfl
  have f2 : mFld "Files" "deeds" (mVar 0) [some (.ref F), some (.int (p : Nat))] (A1 ++ [.lst []]) = .ok (.ref de) (A1 ++ [.lst []]) := T1p.fde rfl
  refine ⟨_, _, _, ?_, T2, S1.trans S2, fun k h1 h2 => ⟨?_, ?_⟩⟩
  · unfold f_Files__sync
    refine fun_nx (ρ1 := [some (.ref F), some (.int (p : Nat))]) ?_
    refine (seq_nx (ρ1 := [some (.ref F), some (.int (p : Nat))]) (A1 := A1) ?_).trans ?_
    · rw [← hA1]
      simp only [mSto, EVa, List.getElem?_cons_zero, List.getElem?_cons_succ, List.set_cons_zero, List.set_cons_succ, bind_ok, lift_ok, List.length_cons, List.length_nil, Nat.reduceAdd, Nat.reduceLeDiff, ↓reduceIte, if_true, if_false, Bool.false_eq_true, List.map_cons, List.map_nil, List.replicate, List.cons_append, List.nil_append, Nat.reduceSub, mt, oc, f1, hsy, show (d3 s).length = 3 from rfl, i3, d3_set hp]
    · simp only [mSto, EVa, List.getElem?_cons_zero, List.getElem?_cons_succ, List.set_cons_zero, List.set_cons_succ, bind_ok, lift_ok, List.length_cons, List.length_nil, Nat.reduceAdd, Nat.reduceLeDiff, ↓reduceIte, if_true, if_false, Bool.false_eq_true, List.map_cons, List.map_nil, List.replicate, List.cons_append, List.nil_append, Nat.reduceSub, Nat.zero_le, f2, hde, show (r3 e).length = 3 from rfl, i3, r3_set hp]
  · rw [List.getElem?_set_ne (fun z => by rw [← z, T.gde] at h2; cases h2), List.getElem?_append_left (Nat.lt_of_lt_of_le h1 S1.len), hk1 k h2]
  · unfold reg
    rw [if_neg (by have := S1.len; omega), if_neg (fun z => by rw [z, T.ge p hp] at h2; omega)]
    exact h2
theorem comp3 {me : ME} {iv : ItV} {all : List D} {ρ : DM.Env} {j : Nat} {y0 y1 y2 : D} (hit : itemsOf A iv = some all) (h0 : me (ρ.set j (some (.int ((0 : Nat) : Int)))) A = .ok y0 A) (h1 : me (ρ.set j (some (.int ((1 : Nat) : Int)))) A = .ok y1 A) (h2 : me (ρ.set j (some (.int ((2 : Nat) : Int)))) A = .ok y2 A) :
    compGo iv all (.nm j) mYes me ρ [.int ((0 : Nat) : Int), .int ((1 : Nat) : Int), .int ((2 : Nat) : Int)] [] A = .ok [y0, y1, y2] A := by
  rw [comp_step hit rfl rfl h0, comp_step hit rfl rfl h1, comp_step hit rfl rfl h2, comp_nil hit]
  rfl
theorem fdisk_ok (T : FS g F sy de e s dd A) (L : Lm s dd M) (hM : M ≤ 10000000) : f_Files__disk [.ref F] A = .ok (dk3 (cur (s 0) (dd 0)) (cur (s 1) (dd 1)) (cur (s 2) (dd 2))) A := by
  have mt : ∀ p, p < 3 → mMeth "Files" "octets_of" 2 f_Files__octets_of (mVar 0) (mCons (mVar 1) (mNil)) [some (.ref F), some (.int (p : Nat))] A = .ok (.tup (dI (cur (s p) (dd p)))) A := fun p hp => (T.meth (fun _ => rfl) rfl rfl rfl).trans (octof_ok T L hM hp)
  have hit : itemsOf A (.rng 0 3) = some [.int ((0 : Nat) : Int), .int ((1 : Nat) : Int), .int ((2 : Nat) : Int)] := rfl
  have go := comp3 (ρ := [some (.ref F), none]) (j := 1) hit (mt 0 (by decide)) (mt 1 (by decide)) (mt 2 (by decide))
  unfold f_Files__disk
  refine fun_rt ?_
  rw [ev_ret, ev_call, ev_cons, ev_lc, r1_at (j := 3) (A1 := A) (by simp only [EVa, List.getElem?_cons_zero, List.getElem?_cons_succ, List.set_cons_zero, List.set_cons_succ, bind_ok, lift_ok, List.length_cons, List.length_nil, Nat.reduceAdd, Nat.reduceLeDiff, ↓reduceIte, if_true, if_false, Bool.false_eq_true, ev_raise, and_self, List.map_cons, List.map_nil, List.replicate, List.cons_append, List.nil_append, Nat.reduceSub]) (by decide)]
  simp only [bind_ok, hit]
  refine Eq.trans ?_ (rfl : SRes.rt (dk3 (cur (s 0) (dd 0)) (cur (s 1) (dd 1)) (cur (s 2) (dd 2))) A = _)
  rw [if_pos (by decide)]
  show lift (((((compGo _ _ _ _ _ [some (.ref F), none] _ _ A).bind _).bind _).bind _)) _ _ = _
  rw [go]
  rfl
end
end JR
end
section
set_option maxHeartbeats 1000000
namespace JR
open PySem PySem.Spec PyProof.Rows L2 DM
open K48 (Deed app cur cur_snoc)
/-! ### what a journal holds -/
structure PV (ks : List Str) (o0 o1 : Option Rec) (rs : List Rec) (st : Nat) (en : Ws) : Prop where
  i0 : ∀ r ∈ o0, GoodI r ∧ mapW r.2 = r.2
  i1 : ∀ r ∈ o1, GoodI r ∧ mapW r.2 = r.2
  rg : ∀ r ∈ rs, GoodR r
  run : Run (baseP o0 o1).st rs
  hst : st = (baseP o0 o1).st + rs.length
  hen : en = mapW ((baseP o0 o1).en ++ wsOf rs)
  ky : ∀ kv ∈ (baseP o0 o1).en ++ wsOf rs, kv.1 ∈ ks
  le : (baseP o0 o1).en.length ≤ 64
  kl : ks.length < 64
  sl : st ≤ 500
theorem baseP_of {o0 o1 : Option Rec} {P : Bse → Prop} (h : P ⟨none, 0, []⟩) (h0 : ∀ r ∈ o0, P ⟨some 0, r.1, r.2⟩) (h1 : ∀ r ∈ o1, P ⟨some 1, r.1, r.2⟩) : P (baseP o0 o1) := by
  have hs : ∀ (c : Bse) (a : Nat) (o : Option Rec), P c → (∀ r ∈ o, P ⟨some a, r.1, r.2⟩) → P (bstep c a o) := fun c a o hc ho => by
    cases o with
    | none => exact hc
    | some r =>
      by_cases hz : c.pl = none ∨ c.st < r.1
      · rw [bstep_take hz]; exact ho r rfl
      · rw [bstep_skip hz]; exact hc
  exact hs _ _ _ (hs _ _ _ h h0) h1
theorem mapW_nil : mapW [] = [] := by simp [mapW, stayK, kk, srtS]
section
variable {ks : List Str} {o0 o1 : Option Rec} {rs : List Rec} {st : Nat} {en : Ws}
theorem PV.base_kv (V : PV ks o0 o1 rs st en) : ∀ kv ∈ (baseP o0 o1).en, GoodK kv.1 ∧ GoodV kv.2 :=
  baseP_of (P := fun b => ∀ kv ∈ b.en, GoodK kv.1 ∧ GoodV kv.2) (fun _ h => nomatch h) (fun r hr => (V.i0 r hr).1.ws.kv) (fun r hr => (V.i1 r hr).1.ws.kv)
theorem PV.fix (V : PV ks o0 o1 rs st en) : mapW (baseP o0 o1).en = (baseP o0 o1).en :=
  baseP_of (P := fun b => mapW b.en = b.en) mapW_nil (fun r hr => (V.i0 r hr).2) (fun r hr => (V.i1 r hr).2)
theorem PV.all_kv (V : PV ks o0 o1 rs st en) : ∀ kv ∈ (baseP o0 o1).en ++ wsOf rs, GoodK kv.1 ∧ GoodV kv.2 := fun kv h => by
  rcases List.mem_append.mp h with h | h
  · exact V.base_kv kv h
  · obtain ⟨l, h1, h2⟩ := List.mem_flatten.mp h
    obtain ⟨r, h3, rfl⟩ := List.mem_map.mp h1
    exact (V.rg r h3).ws.kv kv h2
theorem PV.en_len (V : PV ks o0 o1 rs st en) : en.length ≤ 63 := by
  rw [V.hen]
  have := (stayK_len V.ky).1
  have := V.kl
  unfold mapW
  rw [List.length_map]
  omega
theorem PV.en_good (V : PV ks o0 o1 rs st en) : GoodW en ∧ (∀ kv ∈ en, isNon kv.2 = false) ∧ ∀ kv ∈ en, kv.1 ∈ ks := by
  have hl := V.en_len
  refine ⟨⟨fun kv h => ?_, by omega, by rw [V.hen]; exact mapW_up _⟩, fun kv h => ?_, fun kv h => ?_⟩
  · rw [V.hen] at h; exact V.all_kv kv (mapW_mem h).1
  · rw [V.hen] at h; exact (mapW_mem h).2
  · rw [V.hen] at h; exact V.ky kv (mapW_mem h).1
theorem PV.nst (V : PV ks o0 o1 rs st en) : (nO st).length ≤ 9 := nO_len 8 _ (by have := V.sl; omega)
theorem PV.write (V : PV ks o0 o1 rs st en) {ws : Ws} (h : GoodW ws) (hk : ∀ kv ∈ ws, kv.1 ∈ ks) (hs : st + 1 ≤ 500) : PV ks o0 o1 (rs ++ [(st + 1, ws)]) (st + 1) (mapW (en ++ ws)) := by
  have ew : wsOf (rs ++ [(st + 1, ws)]) = wsOf rs ++ ws := by unfold wsOf; simp
  refine ⟨V.i0, V.i1, fun r hr => ?_, ?_, ?_, ?_, fun kv hkv => ?_, V.le, V.kl, hs⟩
  · rcases List.mem_append.mp hr with hr | hr
    · exact V.rg r hr
    · rw [List.mem_singleton] at hr; subst hr; exact ⟨show st + 1 < 1000000000 by omega, h⟩
  · rw [Run.app]
    exact ⟨V.run, by rw [← V.hst]; exact ⟨rfl, trivial⟩⟩
  · rw [List.length_append, List.length_singleton, V.hst]; omega
  · rw [ew, V.hen, mapW_app, List.append_assoc]
  · rw [ew, ← List.append_assoc] at hkv
    rcases List.mem_append.mp hkv with hkv | hkv
    · exact V.ky kv hkv
    · exact hk kv hkv
theorem baseP_le1 {r : Rec} : r.1 ≤ (baseP o0 (some r)).st := by
  unfold baseP
  by_cases hz : (bstep ⟨none, 0, []⟩ 0 o0).pl = none ∨ (bstep ⟨none, 0, []⟩ 0 o0).st < r.1
  · rw [bstep_take hz]; exact Nat.le_refl _
  · rw [bstep_skip hz]; exact Nat.le_of_not_lt fun z => hz (.inr z)
/-- an image put at the place of the older one -/
theorem base_new0 (V : PV ks o0 o1 rs st en) : (baseP (some (st, en)) o1).st = st ∧ (baseP (some (st, en)) o1).en = en := by
  have e0 : bstep ⟨none, 0, []⟩ 0 (some (st, en)) = ⟨some 0, st, en⟩ := bstep_take (.inl rfl)
  unfold baseP
  rw [e0]
  cases o1 with
  | none => exact ⟨rfl, rfl⟩
  | some r =>
    rw [bstep_skip (fun z => by
      rcases z with z | z
      · cases z
      · have h1 := baseP_le1 (o0 := o0) (r := r)
        have h2 := V.hst
        have z2 : st < r.1 := z
        omega)]
    exact ⟨rfl, rfl⟩
theorem base_pl0 (h : (baseP o0 o1).pl = some 0) : ∃ r, o0 = some r ∧ baseP o0 o1 = ⟨some 0, r.1, r.2⟩ := by
  cases o0 with
  | none =>
    have e0 : baseP none o1 = bstep ⟨none, 0, []⟩ 1 o1 := rfl
    rw [e0] at h
    cases o1 with
    | none => cases h
    | some r => rw [bstep_take (.inl rfl)] at h; cases h
  | some r =>
    refine ⟨r, rfl, ?_⟩
    have e0 : bstep ⟨none, 0, []⟩ 0 (some r) = ⟨some 0, r.1, r.2⟩ := bstep_take (.inl rfl)
    unfold baseP at h ⊢
    rw [e0] at h ⊢
    cases o1 with
    | none => rfl
    | some q =>
      by_cases hz : (⟨some 0, r.1, r.2⟩ : Bse).pl = none ∨ (⟨some 0, r.1, r.2⟩ : Bse).st < q.1
      · rw [bstep_take hz] at h; cases h
      · rw [bstep_skip hz]
theorem base_new1 (V : PV ks o0 o1 rs st en) (h : (baseP o0 o1).pl = some 0) : (baseP o0 (some (st, en))).st = st ∧ (baseP o0 (some (st, en))).en = en := by
  obtain ⟨r, rfl, hb⟩ := base_pl0 h
  have e0 : bstep ⟨none, 0, []⟩ 0 (some r) = ⟨some 0, r.1, r.2⟩ := bstep_take (.inl rfl)
  have hst := V.hst
  have hen := V.hen
  have fx := V.fix
  rw [hb] at hst hen fx
  unfold baseP
  rw [e0]
  by_cases hz : r.1 < st
  · rw [bstep_take (.inr hz)]; exact ⟨rfl, rfl⟩
  · rw [bstep_skip (fun z => by
      rcases z with z | z
      · cases z
      · exact hz z)]
    have hst : st = r.1 + rs.length := hst
    have h0 : rs = [] := List.eq_nil_of_length_eq_zero (by omega)
    subst h0
    refine ⟨by show r.1 = st; rw [hst]; rfl, ?_⟩
    rw [hen, show wsOf [] = [] from rfl, List.append_nil]
    exact fx.symm
def newPl (o0 o1 : Option Rec) : Nat := if (baseP o0 o1).pl = some 0 then 1 else 0
theorem PV.image (V : PV ks o0 o1 rs st en) : ∃ o0' o1', PV ks o0' o1' [] st en ∧ (baseP o0' o1').st = st ∧ (baseP o0' o1').en = en ∧ (if newPl o0 o1 = 0 then o0' = some (st, en) ∧ o1' = o1 else o0' = o0 ∧ o1' = some (st, en)) := by
  obtain ⟨g1, g2, g3⟩ := V.en_good
  have gi : GoodI (st, en) ∧ mapW (st, en).2 = (st, en).2 := ⟨⟨⟨show st < 1000000000 by have := V.sl; omega, g1⟩, g2⟩, by
    show mapW en = en
    rw [V.hen]
    have := mapW_app ((baseP o0 o1).en ++ wsOf rs) []
    rwa [List.append_nil, List.append_nil] at this⟩
  unfold newPl
  by_cases h : (baseP o0 o1).pl = some 0
  · obtain ⟨e1, e2⟩ := base_new1 V h
    refine ⟨o0, some (st, en), ⟨V.i0, fun r hr => by cases hr; exact gi, (fun _ h => nomatch h), trivial, by rw [e1]; rfl, ?_, ?_, ?_, V.kl, V.sl⟩, e1, e2, ?_⟩
    · rw [e2, show wsOf [] = [] from rfl, List.append_nil]; exact gi.2.symm
    · rw [e2, show wsOf [] = [] from rfl, List.append_nil]; exact g3
    · rw [e2]; have := V.en_len; omega
    · rw [if_pos h]; exact ⟨rfl, rfl⟩
  · obtain ⟨e1, e2⟩ := base_new0 V
    refine ⟨some (st, en), o1, ⟨fun r hr => by cases hr; exact gi, V.i1, (fun _ h => nomatch h), trivial, by rw [e1]; rfl, ?_, ?_, ?_, V.kl, V.sl⟩, e1, e2, ?_⟩
    · rw [e2, show wsOf [] = [] from rfl, List.append_nil]; exact gi.2.symm
    · rw [e2, show wsOf [] = [] from rfl, List.append_nil]; exact g3
    · rw [e2]; have := V.en_len; omega
    · rw [if_neg h]; exact ⟨rfl, rfl⟩
end
/-! ### the journal itself -/
structure JS (g : Nat → Nat) (J F sy de : Nat) (e : Nat → Nat) (s : Nat → List Nat) (dd : Nat → List Deed) (M : Nat) (o0 o1 : Option Rec) (rs : List Rec) (st : Nat) (en : Ws) (dr : D) (A : AH) : Prop where
  fs : FS g F sy de e s dd A
  gJ : g J = 1
  hJ : ∃ d0, A[J]? = some (.ins "Journal" (jfs d0 st en "whole" F dr))
  lm : Lm s dd M
  c0 : dd 0 = [] ∧ s 0 = imO o0
  c1 : dd 1 = [] ∧ s 1 = imO o1
  c2 : cur (s 2) (dd 2) = recsO rs
theorem FS.keep2 {g : Nat → Nat} {F sy de : Nat} {e : Nat → Nat} {s : Nat → List Nat} {dd : Nat → List Deed} {A A' : AH} (T : FS g F sy de e s dd A) (k : ∀ n, n < A.length → 2 ≤ g n → A'[n]? = A[n]?) : FS g F sy de e s dd A' := by
  obtain ⟨st, hF⟩ := T.hF
  have kk : ∀ {n : Nat} {o : AO}, A[n]? = some o → 2 ≤ g n → A'[n]? = some o := fun h1 h2 => (k _ (lt_of h1) h2).trans h1
  exact ⟨T.gF, T.gsy, T.gde, T.ge, ⟨st, kk hF (by rw [T.gF]; decide)⟩, kk T.hsy (by rw [T.gsy]; decide), kk T.hde (by rw [T.gde]; decide), fun i hi => kk (T.he i hi) (by rw [T.ge i hi]; omega)⟩
theorem FS.setJ {g : Nat → Nat} {J F sy de : Nat} {e : Nat → Nat} {s : Nat → List Nat} {dd : Nat → List Deed} {A : AH} (T : FS g F sy de e s dd A) (gJ : g J = 1) (o : AO) : FS g F sy de e s dd (A.set J o) :=
  T.keep2 fun n _ h2 => List.getElem?_set_ne fun z => by rw [← z, gJ] at h2; omega
section
variable {g : Nat → Nat} {J F sy de : Nat} {e : Nat → Nat} {s : Nat → List Nat} {dd : Nat → List Deed} {M : Nat} {o0 o1 : Option Rec} {rs : List Rec} {st : Nat} {en : Ws} {dr : D} {A A' : AH} {ks : List Str}
theorem JS.keep (T : JS g J F sy de e s dd M o0 o1 rs st en dr A) (k : Kept g A A') : JS g J F sy de e s dd M o0 o1 rs st en dr A' := by
  obtain ⟨d0, h⟩ := T.hJ
  exact ⟨T.fs.keep k, T.gJ, ⟨d0, k.at h (by rw [T.gJ]; decide)⟩, T.lm, T.c0, T.c1, T.c2⟩
theorem JS.disk (T : JS g J F sy de e s dd M o0 o1 rs st en dr A) (hM : M ≤ 10000000) : f_Journal__disk [.ref J] A = .ok (dk3 (imO o0) (imO o1) (recsO rs)) A := by
  obtain ⟨d0, h⟩ := T.hJ
  have hf : mFld "Journal" "files" (mVar 0) [some (.ref J)] A = .ok (.ref F) A := fld_run rfl h rfl
  have hd := fdisk_ok T.fs T.lm hM
  have mt : mMeth "Files" "disk" 1 f_Files__disk (mFld "Journal" "files" (mVar 0)) mNil [some (.ref J)] A = f_Files__disk [.ref F] A := T.fs.meth (fun _ => rfl) hf rfl rfl
  rw [T.c0.1, T.c1.1, T.c2] at hd
  have e0 : cur (s 0) [] = imO o0 := T.c0.2
  have e1 : cur (s 1) [] = imO o1 := T.c1.2
  rw [e0, e1] at hd
  unfold f_Journal__disk
  refine fun_rt ?_
  simp only [EVa, List.getElem?_cons_zero, List.getElem?_cons_succ, List.set_cons_zero, List.set_cons_succ, bind_ok, lift_ok, List.length_cons, List.length_nil, Nat.reduceAdd, Nat.reduceLeDiff, ↓reduceIte, if_true, if_false, Bool.false_eq_true, ev_raise, and_self, List.map_cons, List.map_nil, List.replicate, List.cons_append, List.nil_append, Nat.reduceSub, mt, hd]
theorem JS.sync (T : JS g J F sy de e s dd M o0 o1 rs st en dr A) (hM : M ≤ 10000000) : ∃ A' g' e' s' dd', f_Journal__sync [.ref J] A = .ok .non A' ∧ JS g' J F sy de e' s' dd' M o0 o1 rs st en dr A' ∧ Step g g' A A' := by
  obtain ⟨d0, h⟩ := T.hJ
  have hf : mFld "Journal" "files" (mVar 0) [some (.ref J)] A = .ok (.ref F) A := fld_run rfl h rfl
  obtain ⟨A', g', e', h1, h2, h3, h4⟩ := fsync_ok T.fs T.lm hM (p := 2) (by decide)
  have mt : mMeth "Files" "sync" 2 f_Files__sync (mFld "Journal" "files" (mVar 0)) (mCons (mK (.int 2)) mNil) [some (.ref J)] A = f_Files__sync [.ref F, .int ((2 : Nat) : Int)] A := T.fs.meth (fun _ => rfl) hf rfl rfl
  have hj := h4 J (lt_of h) T.gJ
  refine ⟨A', g', e', _, _, ?_, ⟨h2, hj.2, ⟨d0, hj.1.trans h⟩, T.lm.sync, T.c0, T.c1, ?_⟩, h3⟩
  · unfold f_Journal__sync
    refine fun_nx (ρ1 := [some (.ref J)]) ?_
    simp only [EVa, List.getElem?_cons_zero, List.getElem?_cons_succ, List.set_cons_zero, List.set_cons_succ, bind_ok, lift_ok, List.length_cons, List.length_nil, Nat.reduceAdd, Nat.reduceLeDiff, ↓reduceIte, if_true, if_false, Bool.false_eq_true, ev_raise, and_self, List.map_cons, List.map_nil, List.replicate, List.cons_append, List.nil_append, Nat.reduceSub, mt, h1]
  · show cur (fup s 2 _ 2) (fup dd 2 [] 2) = _
    rw [fup_same, fup_same]
    exact T.c2
theorem setJ_step (gJ : g J = 1) {o : AO} : Step g g A (A.set J o) := .set (by rw [gJ]; decide)
theorem JS.write (T : JS g J F sy de e s dd M o0 o1 rs st en dr A) (V : PV ks o0 o1 rs st en) (hM : M + 70000 ≤ 10000000) {ws : Ws} (h : GoodW ws) (hk : ∀ kv ∈ ws, kv.1 ∈ ks) (hs : st + 1 ≤ 500) :
    ∃ A' dd', f_Journal__write [.ref J, .tup (prs ws)] A = .ok (.int ((st + 1 : Nat) : Int)) A' ∧ JS g J F sy de e s dd' (M + 70000) o0 o1 (rs ++ [(st + 1, ws)]) (st + 1) (mapW (en ++ ws)) dr A' ∧ Step g g A A' := by
  obtain ⟨d0, hJ⟩ := T.hJ
  have hns : (nO (st + 1)).length ≤ 9 := nO_len 8 _ (by omega)
  obtain ⟨G, e1⟩ := put_record_ok hns h A
  have hlen : (pf (rO (st + 1) ws)).length ≤ 70000 := by rw [pf_length]; have := rO_len hns h; omega
  have hne : pf (rO (st + 1) ws) ≠ [] := fun z => by have := congrArg List.length z; rw [pf_length] at this; simp at this
  have T1 := T.fs.push G
  have a1 := fadd_ok T1 T.lm (by omega) (p := 2) (by decide) hne
  have T2 := T1.setE (p := 2) (by decide) (dd 2 ++ [.add (pf (rO (st + 1) ws))])
  generalize hA2 : (A ++ G).set (e 2) (.lst ((dd 2 ++ [Deed.add (pf (rO (st + 1) ws))]).map deedD)) = A2 at a1 T2
  have S2 : Step g g A A2 := by rw [← hA2]; exact (Step.push G).trans (.set (by rw [T.fs.ge 2 (by decide)]; decide))
  have hJ1 : (A ++ G)[J]? = some (.ins "Journal" (jfs d0 st en "whole" F dr)) := by rw [List.getElem?_append_left (lt_of hJ)]; exact hJ
  have hJ2 : A2[J]? = some (.ins "Journal" (jfs d0 st en "whole" F dr)) := by
    rw [← hA2, List.getElem?_set_ne (ne_tag (g := g) (by rw [T.fs.ge 2 (by decide), T.gJ]; decide))]; exact hJ1
  have T3 := T2.setJ T.gJ (.ins "Journal" (jfs d0 (st + 1) en "whole" F dr))
  have S3 : Step g g A (A2.set J (.ins "Journal" (jfs d0 (st + 1) en "whole" F dr))) := S2.trans (setJ_step T.gJ)
  have hJ3 : (A2.set J (.ins "Journal" (jfs d0 (st + 1) en "whole" F dr)))[J]? = some (.ins "Journal" (jfs d0 (st + 1) en "whole" F dr)) := List.getElem?_set_self (lt_of hJ2)
  generalize hA3 : A2.set J (.ins "Journal" (jfs d0 (st + 1) en "whole" F dr)) = A3 at T3 S3 hJ3
  have V2 := V.write h hk hs
  have hel := V.en_len
  have hcat : fAdd (.tup (prs en)) (.tup (prs ws)) A3 = .ok (.tup (prs (en ++ ws))) A3 := by
    rw [add_tt (by unfold prs; rw [List.length_map, List.length_map]; have := h.len; omega), show prs en ++ prs ws = prs (en ++ ws) from List.map_append.symm]
  have hkk : (kk [] (en ++ ws)).length < 64 := by
    have := (stayK_len (ws := en ++ ws) (ks := ks) fun kv hkv => by
      rcases List.mem_append.mp hkv with z | z
      · exact V.en_good.2.2 kv z
      · exact hk kv z).2
    have := V.kl
    omega
  have hm := map_of_ok (d := .tup (prs (en ++ ws))) (A := A3) (ws := en ++ ws) (fun _ => rfl) hkk (by rw [List.length_append]; have := h.len; omega)
  have T4 := T3.push [.dk (kF [] (en ++ ws))]
  have hJ4 : (A3 ++ [AO.dk (kF [] (en ++ ws))])[J]? = some (.ins "Journal" (jfs d0 (st + 1) en "whole" F dr)) := by rw [List.getElem?_append_left (lt_of hJ3)]; exact hJ3
  have T5 := T4.setJ T.gJ (.ins "Journal" (jfs d0 (st + 1) (mapW (en ++ ws)) "whole" F dr))
  refine ⟨(A3 ++ [AO.dk (kF [] (en ++ ws))]).set J (.ins "Journal" (jfs d0 (st + 1) (mapW (en ++ ws)) "whole" F dr)), fup dd 2 (dd 2 ++ [.add (pf (rO (st + 1) ws))]), ?_, ⟨T5, T.gJ, ⟨d0, List.getElem?_set_self (lt_of hJ4)⟩, T.lm.deed (.add (pf (rO (st + 1) ws))) hlen, T.c0, T.c1, ?_⟩, (S3.trans (.push _)).trans (setJ_step T.gJ)⟩
  · have g0 : mFld "Journal" "stamp" (mVar 0) [some (.ref J), some (.tup (prs ws)), none] A = .ok (.int (st : Int)) A := fld_run rfl hJ rfl
    have g1 : mFld "Journal" "files" (mVar 0) [some (.ref J), some (.tup (prs ws)), some (.tup (dI (pf (rO (st + 1) ws))))] (A ++ G) = .ok (.ref F) (A ++ G) := fld_run rfl hJ1 rfl
    have mt : mMeth "Files" "add" 3 f_Files__add (mFld "Journal" "files" (mVar 0)) (mCons (mK (.int 2)) (mCons (mVar 2) mNil)) [some (.ref J), some (.tup (prs ws)), some (.tup (dI (pf (rO (st + 1) ws))))] (A ++ G) = f_Files__add [.ref F, .int ((2 : Nat) : Int), .tup (dI (pf (rO (st + 1) ws)))] (A ++ G) := T1.meth (fun _ => rfl) g1 rfl rfl
    unfold f_Journal__write
    refine fun_rt ?_
    refine (seq_nx (ρ1 := [some (.ref J), some (.tup (prs ws)), some (.tup (dI (pf (rO (st + 1) ws))))]) (A1 := A ++ G) ?_).trans ?_
    · simp only [EVa, List.getElem?_cons_zero, List.getElem?_cons_succ, List.set_cons_zero, List.set_cons_succ, bind_ok, lift_ok, List.length_cons, List.length_nil, Nat.reduceAdd, Nat.reduceLeDiff, ↓reduceIte, if_true, if_false, Bool.false_eq_true, ev_raise, and_self, List.map_cons, List.map_nil, List.replicate, List.cons_append, List.nil_append, Nat.reduceSub, g0, add_ii, show (st : Int) + 1 = ((st + 1 : Nat) : Int) by omega, e1]
    refine (seq_nx (ρ1 := [some (.ref J), some (.tup (prs ws)), some (.tup (dI (pf (rO (st + 1) ws))))]) (A1 := A2) ?_).trans ?_
    · simp only [EVa, List.getElem?_cons_zero, List.getElem?_cons_succ, List.set_cons_zero, List.set_cons_succ, bind_ok, lift_ok, List.length_cons, List.length_nil, Nat.reduceAdd, Nat.reduceLeDiff, ↓reduceIte, if_true, if_false, Bool.false_eq_true, ev_raise, and_self, List.map_cons, List.map_nil, List.replicate, List.cons_append, List.nil_append, Nat.reduceSub, mt, a1]
    refine (seq_nx (ρ1 := [some (.ref J), some (.tup (prs ws)), some (.tup (dI (pf (rO (st + 1) ws))))]) (A1 := A3) ?_).trans ?_
    · rw [← hA3, addF_run (C := "Journal") (f := "stamp") (k := J) (u := (st : Int)) (v := 1) rfl hJ2 rfl rfl hJ2 (by simp [jfs])]
      rfl
    refine (seq_nx (ρ1 := [some (.ref J), some (.tup (prs ws)), some (.tup (dI (pf (rO (st + 1) ws))))]) (A1 := (A3 ++ [AO.dk (kF [] (en ++ ws))]).set J (.ins "Journal" (jfs d0 (st + 1) (mapW (en ++ ws)) "whole" F dr))) ?_).trans ?_
    · have g3 : mFld "Journal" "entries" (mVar 0) [some (.ref J), some (.tup (prs ws)), some (.tup (dI (pf (rO (st + 1) ws))))] A3 = .ok (.tup (prs en)) A3 := fld_run rfl hJ3 rfl
      rw [setF_run (C := "Journal") (f := "entries") (k := J) (y := .tup (prs (mapW (en ++ ws)))) (A1 := A3 ++ [AO.dk (kF [] (en ++ ws))]) (A2 := A3 ++ [AO.dk (kF [] (en ++ ws))]) (by simp only [EVa, List.getElem?_cons_zero, List.getElem?_cons_succ, List.set_cons_zero, List.set_cons_succ, bind_ok, lift_ok, List.length_cons, List.length_nil, Nat.reduceAdd, Nat.reduceLeDiff, ↓reduceIte, if_true, if_false, Bool.false_eq_true, ev_raise, and_self, List.map_cons, List.map_nil, List.replicate, List.cons_append, List.nil_append, Nat.reduceSub, g3, tup_tup, hcat, hm]) rfl hJ4 (by simp [jfs])]
      rfl
    · have g5 : mFld "Journal" "stamp" (mVar 0) [some (.ref J), some (.tup (prs ws)), some (.tup (dI (pf (rO (st + 1) ws))))] ((A3 ++ [AO.dk (kF [] (en ++ ws))]).set J (.ins "Journal" (jfs d0 (st + 1) (mapW (en ++ ws)) "whole" F dr))) = .ok (.int ((st + 1 : Nat) : Int)) _ := fld_run rfl (List.getElem?_set_self (lt_of hJ4)) rfl
      rw [ev_ret, g5]
      rfl
  · show cur (s 2) (fup dd 2 (dd 2 ++ [.add (pf (rO (st + 1) ws))]) 2) = _
    rw [fup_same, cur_snoc, T.c2]
    show recsO rs ++ pf (rO (st + 1) ws) = _
    unfold recsO
    simp
end
end JR
end
section
set_option maxHeartbeats 1000000
namespace JR
open PySem PySem.Spec PyProof.Rows L2 DM
open K48 (Deed app cur cur_snoc)
theorem eq_pl {pl : Option Nat} {A : AH} : fEq false (plD pl) (.int 0) A = .ok (.bl (decide (pl = some 0))) A := by
  cases pl with
  | none =>
    have := eq_pyS (d := .non) (e := .int 0) (p := .none) (q := .int 0) (A := A) (neg := false) (toPyA_of rfl) (toPyA_of rfl) rfl (by decide +kernel) (by decide +kernel)
    exact this
  | some p =>
    show fEq false (.int (p : Int)) (.int 0) A = _
    rw [eq_ii]
    by_cases h : p = 0
    · subst h; rfl
    · rw [decide_eq_false (by omega), decide_eq_false (fun z => h (by cases z; rfl))]
theorem newPl_lt {o0 o1 : Option Rec} : newPl o0 o1 < 2 := by unfold newPl; split <;> omega
section
variable {g : Nat → Nat} {J F sy de : Nat} {e : Nat → Nat} {s : Nat → List Nat} {dd : Nat → List Deed} {M : Nat} {o0 o1 : Option Rec} {rs : List Rec} {st : Nat} {en : Ws} {A : AH} {ks : List Str}
theorem JS.draw (T : JS g J F sy de e s dd M o0 o1 rs st en .non A) (V : PV ks o0 o1 rs st en) (hM : M + 140000 ≤ 10000000) :
    ∃ A' dd', f_Journal__draw [.ref J] A = .ok .non A' ∧ FS g F sy de e s dd' A' ∧ (∃ d0, A'[J]? = some (.ins "Journal" (jfs d0 st en "whole" F (.tup [.int (newPl o0 o1 : Nat), .int (st : Int)])))) ∧ Step g g A A' ∧ Lm s dd' (M + 140000) ∧
      (∀ i, i ≠ newPl o0 o1 → dd' i = dd i) ∧ cur (s (newPl o0 o1)) (dd' (newPl o0 o1)) = pf (rO st en) := by
  obtain ⟨d0, hJ⟩ := T.hJ
  obtain ⟨g1, g2, g3⟩ := V.en_good
  obtain ⟨G1, e1⟩ := put_image_ok V.nst g1 A
  obtain ⟨G2, e2⟩ := base_ok (c := s 2) (fun r hr => (V.i0 r hr).1) (fun r hr => (V.i1 r hr).1) (A ++ G1)
  have hp2 : newPl o0 o1 < 2 := newPl_lt
  have hpl : (if (baseP o0 o1).pl = some 0 then (1 : Int) else 0) = ((newPl o0 o1 : Nat) : Int) := by unfold newPl; split <;> rfl
  generalize hp : newPl o0 o1 = p at hp2 hpl
  have T1 := T.fs.push G1
  have hJ1 : (A ++ G1)[J]? = some (.ins "Journal" (jfs d0 st en "whole" F .non)) := by rw [List.getElem?_append_left (lt_of hJ)]; exact hJ
  have T2 := T1.push G2
  have hJ2 : (A ++ G1 ++ G2)[J]? = some (.ins "Journal" (jfs d0 st en "whole" F .non)) := by rw [List.getElem?_append_left (lt_of hJ1)]; exact hJ1
  obtain ⟨dd3, A3, k1, k2, k3, k4, k5, k6, k7⟩ := fkeep_ok T2 T.lm (by omega) (p := p) (n := 0) (by omega)
  rw [List.take_zero] at k6
  have hJ3 : A3[J]? = some (.ins "Journal" (jfs d0 st en "whole" F .non)) := (k7 J (by rw [T.gJ]; omega)).trans hJ2
  have hns := V.nst
  have hlen : (pf (rO st en)).length ≤ 70000 := by rw [pf_length]; have := rO_len hns g1; omega
  have hne : pf (rO st en) ≠ [] := fun z => by have := congrArg List.length z; rw [pf_length] at this; simp at this
  have a1 := fadd_ok k2 k4 (by omega) (p := p) (by omega) hne
  have T4 := k2.setE (p := p) (by omega) (dd3 p ++ [.add (pf (rO st en))])
  have S4 : Step g g A3 (A3.set (e p) (.lst ((dd3 p ++ [Deed.add (pf (rO st en))]).map deedD))) := .set (by rw [T.fs.ge p (by omega)]; omega)
  have hJ4 : (A3.set (e p) (.lst ((dd3 p ++ [Deed.add (pf (rO st en))]).map deedD)))[J]? = some (.ins "Journal" (jfs d0 st en "whole" F .non)) := by
    rw [List.getElem?_set_ne (ne_tag (g := g) (by rw [T.fs.ge p (by omega), T.gJ]; omega))]; exact hJ3
  generalize hA4 : A3.set (e p) (.lst ((dd3 p ++ [Deed.add (pf (rO st en))]).map deedD)) = A4 at a1 T4 S4 hJ4
  have T5 := T4.setJ T.gJ (.ins "Journal" (jfs d0 st en "whole" F (.tup [.int (p : Nat), .int (st : Int)])))
  refine ⟨A4.set J (.ins "Journal" (jfs d0 st en "whole" F (.tup [.int (p : Nat), .int (st : Int)]))), fup dd3 p (dd3 p ++ [.add (pf (rO st en))]), ?_, T5, ⟨d0, List.getElem?_set_self (lt_of hJ4)⟩, ((((Step.push G1).trans (.push G2)).trans k3).trans S4).trans (setJ_step T.gJ), k4.deed (.add (pf (rO st en))) hlen |>.mono (by omega), fun i hi => (fup_ne hi).trans (k5 i hi), ?_⟩
  · have q1 : mFld "Journal" "stamp" (mVar 0) [some (.ref J), none, none] A = .ok (.int (st : Int)) A := fld_run rfl hJ rfl
    have q2 : mFld "Journal" "entries" (mVar 0) [some (.ref J), none, none] A = .ok (.tup (prs en)) A := fld_run rfl hJ rfl
    have q3 : mFld "Journal" "files" (mVar 0) [some (.ref J), some (.tup (dI (pf (rO st en)))), none] (A ++ G1) = .ok (.ref F) (A ++ G1) := fld_run rfl hJ1 rfl
    have q4 : mFld "Files" "synced" (mFld "Journal" "files" (mVar 0)) [some (.ref J), some (.tup (dI (pf (rO st en)))), none] (A ++ G1) = .ok (.ref sy) (A ++ G1) := T1.fsy q3
    have q5 : fTup [.ref sy] (A ++ G1) = .ok (dk3 (imO o0) (imO o1) (s 2)) (A ++ G1) := by
      rw [tup_ref T1.hsy]
      show Res.ok (dk3 (s 0) (s 1) (s 2)) _ = _
      rw [T.c0.2, T.c1.2]
    have q6 : mFld "Journal" "files" (mVar 0) [some (.ref J), some (.tup (dI (pf (rO st en)))), some (.int (p : Int))] (A ++ G1 ++ G2) = .ok (.ref F) (A ++ G1 ++ G2) := fld_run rfl hJ2 rfl
    have q7 : mFld "Journal" "files" (mVar 0) [some (.ref J), some (.tup (dI (pf (rO st en)))), some (.int (p : Int))] A3 = .ok (.ref F) A3 := fld_run rfl hJ3 rfl
    have q8 : mFld "Journal" "stamp" (mVar 0) [some (.ref J), some (.tup (dI (pf (rO st en)))), some (.int (p : Int))] A4 = .ok (.int (st : Int)) A4 := fld_run rfl hJ4 rfl
    have m1 : mMeth "Files" "keep" 3 f_Files__keep (mFld "Journal" "files" (mVar 0)) (mCons (mVar 2) (mCons (mK (.int 0)) mNil)) [some (.ref J), some (.tup (dI (pf (rO st en)))), some (.int (p : Int))] (A ++ G1 ++ G2) = f_Files__keep [.ref F, .int (p : Nat), .int ((0 : Nat) : Int)] (A ++ G1 ++ G2) := T2.meth (fun _ => rfl) q6 rfl rfl
    have m2 : mMeth "Files" "add" 3 f_Files__add (mFld "Journal" "files" (mVar 0)) (mCons (mVar 2) (mCons (mVar 1) mNil)) [some (.ref J), some (.tup (dI (pf (rO st en)))), some (.int (p : Int))] A3 = f_Files__add [.ref F, .int (p : Nat), .tup (dI (pf (rO st en)))] A3 := k2.meth (fun _ => rfl) q7 rfl rfl
    have hx0 : fIx (.tup [plD (baseP o0 o1).pl, .int ((baseP o0 o1).st : Int), .tup (prs (baseP o0 o1).en)]) (.int 0) (A ++ G1 ++ G2) = .ok (plD (baseP o0 o1).pl) (A ++ G1 ++ G2) := ix0_tup
    unfold f_Journal__draw
    refine fun_nx (ρ1 := [some (.ref J), some (.tup (dI (pf (rO st en)))), some (.int (p : Int))]) ?_
    refine (seq_nx (ρ1 := [some (.ref J), some (.tup (dI (pf (rO st en)))), none]) (A1 := A ++ G1) ?_).trans ?_
    · simp only [EVa, List.getElem?_cons_zero, List.getElem?_cons_succ, List.set_cons_zero, List.set_cons_succ, bind_ok, lift_ok, List.length_cons, List.length_nil, Nat.reduceAdd, Nat.reduceLeDiff, ↓reduceIte, if_true, if_false, Bool.false_eq_true, ev_raise, and_self, List.map_cons, List.map_nil, List.replicate, List.cons_append, List.nil_append, Nat.reduceSub, q1, q2, e1]
    refine (seq_nx (ρ1 := [some (.ref J), some (.tup (dI (pf (rO st en)))), some (.int (p : Int))]) (A1 := A ++ G1 ++ G2) ?_).trans ?_
    · simp only [EVa, List.getElem?_cons_zero, List.getElem?_cons_succ, List.set_cons_zero, List.set_cons_succ, bind_ok, lift_ok, List.length_cons, List.length_nil, Nat.reduceAdd, Nat.reduceLeDiff, ↓reduceIte, if_true, if_false, Bool.false_eq_true, ev_raise, and_self, List.map_cons, List.map_nil, List.replicate, List.cons_append, List.nil_append, Nat.reduceSub, q4, q5, e2, hx0, eq_pl]
      rw [← hpl]
      by_cases hz : (baseP o0 o1).pl = some 0
      · rw [decide_eq_true hz, if_pos hz]; rfl
      · rw [decide_eq_false hz, if_neg hz]; rfl
    refine (seq_nx (ρ1 := [some (.ref J), some (.tup (dI (pf (rO st en)))), some (.int (p : Int))]) (A1 := A3) ?_).trans ?_
    · simp only [EVa, List.getElem?_cons_zero, List.getElem?_cons_succ, List.set_cons_zero, List.set_cons_succ, bind_ok, lift_ok, List.length_cons, List.length_nil, Nat.reduceAdd, Nat.reduceLeDiff, ↓reduceIte, if_true, if_false, Bool.false_eq_true, ev_raise, and_self, List.map_cons, List.map_nil, List.replicate, List.cons_append, List.nil_append, Nat.reduceSub, m1, k1]
    refine (seq_nx (ρ1 := [some (.ref J), some (.tup (dI (pf (rO st en)))), some (.int (p : Int))]) (A1 := A4) ?_).trans ?_
    · simp only [EVa, List.getElem?_cons_zero, List.getElem?_cons_succ, List.set_cons_zero, List.set_cons_succ, bind_ok, lift_ok, List.length_cons, List.length_nil, Nat.reduceAdd, Nat.reduceLeDiff, ↓reduceIte, if_true, if_false, Bool.false_eq_true, ev_raise, and_self, List.map_cons, List.map_nil, List.replicate, List.cons_append, List.nil_append, Nat.reduceSub, m2, a1]
    rw [setF_run (C := "Journal") (f := "drawn") (k := J) (y := .tup [.int (p : Nat), .int (st : Int)]) (A1 := A4) (A2 := A4) (by simp only [EVa, List.getElem?_cons_zero, List.getElem?_cons_succ, List.set_cons_zero, List.set_cons_succ, bind_ok, lift_ok, List.length_cons, List.length_nil, Nat.reduceAdd, Nat.reduceLeDiff, ↓reduceIte, if_true, if_false, Bool.false_eq_true, ev_raise, and_self, List.map_cons, List.map_nil, List.replicate, List.cons_append, List.nil_append, Nat.reduceSub, q8]) rfl hJ4 (by simp [jfs])]
    rfl
  · rw [fup_same, cur_snoc, k6]
    rfl
theorem JS.image2 (T : JS g J F sy de e s dd M o0 o1 rs st en .non A) (V : PV ks o0 o1 rs st en) (hM : M + 210000 ≤ 10000000) :
    ∃ A' g' e' s' dd' o0' o1', f_Journal__image [.ref J] A = .ok .non A' ∧ JS g' J F sy de e' s' dd' (M + 210000) o0' o1' [] st en .non A' ∧ Step g g' A A' ∧ PV ks o0' o1' [] st en ∧ (baseP o0' o1').st = st ∧ (baseP o0' o1').en = en ∧ (if newPl o0 o1 = 0 then o0' = some (st, en) ∧ o1' = o1 else o0' = o0 ∧ o1' = some (st, en)) := by
  obtain ⟨o0', o1', V', b1, b2, b3⟩ := V.image
  obtain ⟨A5, dd5, r1, r2, ⟨d0, r3⟩, r4, r5, r6, r7⟩ := T.draw V (by omega)
  have hp2 : newPl o0 o1 < 2 := newPl_lt
  generalize hp : newPl o0 o1 = p at hp2 r3 r6 r7 b3 ⊢
  obtain ⟨A6, g6, e6, t1, t2, t3, t4⟩ := fsync_ok r2 r5 (by omega) (p := p) (by omega)
  rw [r7] at t2
  have L6 : Lm (fup s p (pf (rO st en))) (fup dd5 p []) (M + 140000) := by have := r5.sync (p := p); rwa [r7] at this
  have hj6 := t4 J (lt_of r3) T.gJ
  have hJ6 : A6[J]? = _ := hj6.1.trans r3
  obtain ⟨dd7, A7, u1, u2, u3, u4, u5, u6, u7⟩ := fkeep_ok t2 L6 (by omega) (p := 2) (n := 0) (by decide)
  rw [List.take_zero] at u6
  have hJ7 : A7[J]? = some (.ins "Journal" (jfs d0 st en "whole" F (.tup [.int (p : Nat), .int (st : Int)]))) := (u7 J (by rw [hj6.2]; omega)).trans hJ6
  have T8 := u2.setJ hj6.2 (.ins "Journal" (jfs d0 st en "whole" F .non))
  refine ⟨A7.set J (.ins "Journal" (jfs d0 st en "whole" F .non)), g6, e6, fup s p (pf (rO st en)), dd7, o0', o1', ?_, ⟨T8, hj6.2, ⟨d0, List.getElem?_set_self (lt_of hJ7)⟩, u4.mono (by omega), ?_, ?_, u6⟩, ((r4.trans t3).trans u3).trans (setJ_step hj6.2), V', b1, b2, ?_⟩
  · have hs5 : f_Journal__settle [.ref J] A5 = .ok .non (A7.set J (.ins "Journal" (jfs d0 st en "whole" F .non))) := by
      have q1 : mFld "Journal" "drawn" (mVar 0) [some (.ref J), none, none] A5 = .ok (.tup [.int (p : Nat), .int (st : Int)]) A5 := fld_run rfl r3 rfl
      have q2 : mFld "Journal" "files" (mVar 0) [some (.ref J), some (.int (p : Int)), some (.int (st : Int))] A5 = .ok (.ref F) A5 := fld_run rfl r3 rfl
      have q3 : mFld "Journal" "stamp" (mVar 0) [some (.ref J), some (.int (p : Int)), some (.int (st : Int))] A6 = .ok (.int (st : Int)) A6 := fld_run rfl hJ6 rfl
      have q4 : mFld "Journal" "files" (mVar 0) [some (.ref J), some (.int (p : Int)), some (.int (st : Int))] A6 = .ok (.ref F) A6 := fld_run rfl hJ6 rfl
      have m1 : mMeth "Files" "sync" 2 f_Files__sync (mFld "Journal" "files" (mVar 0)) (mCons (mVar 1) mNil) [some (.ref J), some (.int (p : Int)), some (.int (st : Int))] A5 = f_Files__sync [.ref F, .int (p : Nat)] A5 := r2.meth (fun _ => rfl) q2 rfl rfl
      have m2 : mMeth "Files" "keep" 3 f_Files__keep (mFld "Journal" "files" (mVar 0)) (mCons (mK (.int 2)) (mCons (mK (.int 0)) mNil)) [some (.ref J), some (.int (p : Int)), some (.int (st : Int))] A6 = f_Files__keep [.ref F, .int ((2 : Nat) : Int), .int ((0 : Nat) : Int)] A6 := t2.meth (fun _ => rfl) q4 rfl rfl
      unfold f_Journal__settle
      refine fun_nx (ρ1 := [some (.ref J), some (.int (p : Int)), some (.int (st : Int))]) ?_
      rw [ev_ifs, ev_tst, ev_op]
      show lift ((((mFld "Journal" "drawn" (mVar 0) [some (.ref J), none, none] A5).bind _).bind _)) _ _ = _
      rw [q1]
      simp only [bind_ok, ev_K, isN_tup, lift_ok, if_true]
      refine (seq_nx (ρ1 := [some (.ref J), some (.int (p : Int)), some (.int (st : Int))]) (A1 := A5) ?_).trans ?_
      · show lift (mFld "Journal" "drawn" (mVar 0) [some (.ref J), none, none] A5) _ _ = _
        rw [q1, lift_ok]
        rfl
      refine (seq_nx (ρ1 := [some (.ref J), some (.int (p : Int)), some (.int (st : Int))]) (A1 := A6) ?_).trans ?_
      · simp only [EVa, List.getElem?_cons_zero, List.getElem?_cons_succ, List.set_cons_zero, List.set_cons_succ, bind_ok, lift_ok, List.length_cons, List.length_nil, Nat.reduceAdd, Nat.reduceLeDiff, ↓reduceIte, if_true, if_false, Bool.false_eq_true, ev_raise, and_self, List.map_cons, List.map_nil, List.replicate, List.cons_append, List.nil_append, Nat.reduceSub, m1, t1]
      refine (seq_nx (ρ1 := [some (.ref J), some (.int (p : Int)), some (.int (st : Int))]) (A1 := A7) ?_).trans ?_
      · simp only [EVa, List.getElem?_cons_zero, List.getElem?_cons_succ, List.set_cons_zero, List.set_cons_succ, bind_ok, lift_ok, List.length_cons, List.length_nil, Nat.reduceAdd, Nat.reduceLeDiff, ↓reduceIte, if_true, if_false, Bool.false_eq_true, ev_raise, and_self, List.map_cons, List.map_nil, List.replicate, List.cons_append, List.nil_append, Nat.reduceSub, q3, eq_ii, decide_true, m2, u1]
      rw [setF_run (C := "Journal") (f := "drawn") (k := J) (y := .non) (A1 := A7) (A2 := A7) rfl rfl hJ7 (by simp [jfs])]
      rfl
    have m3 : mMeth "Journal" "draw" 1 f_Journal__draw (mVar 0) mNil [some (.ref J)] A = f_Journal__draw [.ref J] A := by
      obtain ⟨d1, hJ⟩ := T.hJ
      exact meth_run rfl hJ rfl rfl rfl
    have m4 : mMeth "Journal" "settle" 1 f_Journal__settle (mVar 0) mNil [some (.ref J)] A5 = f_Journal__settle [.ref J] A5 := meth_run rfl r3 rfl rfl rfl
    unfold f_Journal__image
    refine fun_nx (ρ1 := [some (.ref J)]) ?_
    refine (seq_nx (ρ1 := [some (.ref J)]) (A1 := A5) ?_).trans ?_
    · simp only [EVa, List.getElem?_cons_zero, List.getElem?_cons_succ, List.set_cons_zero, List.set_cons_succ, bind_ok, lift_ok, List.length_cons, List.length_nil, Nat.reduceAdd, Nat.reduceLeDiff, ↓reduceIte, if_true, if_false, Bool.false_eq_true, ev_raise, and_self, List.map_cons, List.map_nil, List.replicate, List.cons_append, List.nil_append, Nat.reduceSub, m3, r1]
    simp only [EVa, List.getElem?_cons_zero, List.getElem?_cons_succ, List.set_cons_zero, List.set_cons_succ, bind_ok, lift_ok, List.length_cons, List.length_nil, Nat.reduceAdd, Nat.reduceLeDiff, ↓reduceIte, if_true, if_false, Bool.false_eq_true, ev_raise, and_self, List.map_cons, List.map_nil, List.replicate, List.cons_append, List.nil_append, Nat.reduceSub, m4, hs5]
  · rw [u5 0 (by decide)]
    by_cases hz : p = 0
    · subst hz
      rw [if_pos rfl] at b3
      rw [fup_same, fup_same, b3.1]
      exact ⟨rfl, rfl⟩
    · rw [if_neg hz] at b3
      rw [fup_ne (fun z => hz z.symm), fup_ne (fun z => hz z.symm), r6 0 (fun z => hz z.symm), b3.1]
      exact T.c0
  · rw [u5 1 (by decide)]
    by_cases hz : p = 1
    · subst hz
      rw [if_neg (by decide)] at b3
      rw [fup_same, fup_same, b3.2]
      exact ⟨rfl, rfl⟩
    · have hz0 : p = 0 := by omega
      rw [if_pos hz0] at b3
      rw [fup_ne (fun z => hz z.symm), fup_ne (fun z => hz z.symm), r6 1 (fun z => hz z.symm), b3.2]
      exact T.c1
  · exact b3
theorem JS.image (T : JS g J F sy de e s dd M o0 o1 rs st en .non A) (V : PV ks o0 o1 rs st en) (hM : M + 210000 ≤ 10000000) :
    ∃ A' g' e' s' dd' o0' o1', f_Journal__image [.ref J] A = .ok .non A' ∧ JS g' J F sy de e' s' dd' (M + 210000) o0' o1' [] st en .non A' ∧ Step g g' A A' ∧ PV ks o0' o1' [] st en ∧ (baseP o0' o1').st = st ∧ (baseP o0' o1').en = en ∧ (o0' = some (st, en) ∧ o1' = o1 ∨ o0' = o0 ∧ o1' = some (st, en)) := by
  obtain ⟨A', g', e', s', dd', o0', o1', a, b, c, d, f, k, l⟩ := T.image2 V hM
  refine ⟨A', g', e', s', dd', o0', o1', a, b, c, d, f, k, ?_⟩
  by_cases hz : newPl o0 o1 = 0
  · rw [if_pos hz] at l; exact .inl l
  · rw [if_neg hz] at l; exact .inr l
end
end JR
end
section
set_option maxHeartbeats 1000000
namespace JR
open PySem PySem.Spec PyProof.Rows L2 DM
open K48 (Deed app cur cur_snoc)
end JR
end
section
set_option maxHeartbeats 1000000
namespace JR
open PySem PySem.Spec PyProof.Rows L2 DM
/-! ### drawing -/
section
variable {h q : Nat} {A : AH}
theorem draw_nat {k : Nat} (hs : HS h q A) (h0 : 0 < k) (h1 : k < 1073741824) : ∃ (v : Nat) (A' : AH), f__law_draw [.ref h, .int (k : Int)] A = .ok (.int (v : Int)) A' ∧ v < k ∧ Drawn h q A A' := by
  obtain ⟨v, A', e, v0, v1, dr⟩ := draw_ok (k := (k : Int)) hs (by omega) (by omega)
  exact ⟨v.toNat, A', by rw [show ((v.toNat : Nat) : Int) = v by omega]; exact e, by omega, dr⟩
theorem pick_lst {xs : List D} (hs : HS h q A) (h0 : 0 < xs.length) (h1 : xs.length < 1000) : ∃ d ∈ xs, ∃ A', f__law_pick [.ref h, .lst xs] A = .ok d A' ∧ Drawn h q A A' := by
  obtain ⟨i, hi, A', e, dr⟩ := pick_ok hs h0 (by omega)
  exact ⟨_, List.getElem_mem hi, A', e, dr⟩
/-! texts -/
end
end JR
end
section
namespace JR
open PySem PySem.Spec PyProof.Rows L2 DM
noncomputable def b__law_number_at1 : MS := (mSeq (mIfS (mTst (mOp fGe (mVar 3) (mCall fLen (mCons (mVar 0) (mNil))))) (mRet (mTup (mCons (mK .non) (mCons (mVar 1) (mNil))))) (mNext)) (mSeq (mSet 6
    (mOp fIx (mVar 0) (mVar 3))) (mSeq (mPar2 2 3 (mCons (mOp fAdd (mVar 2) (mOp fMulA (mVar 4) (mIf (mTst (mOp fGt (mVar 6) (mK (.int 127)))) (mOp fSub (mVar 6) (mK (.int 128))) (mVar 6)))) (mCons
    (mOp fAdd (mVar 3) (mK (.int 1))) (mNil)))) (mSeq (mIfS (mTst (mOp fLt (mVar 6) (mK (.int 128)))) (mRet (mIf (mAnd (mTst (mOp (fEq false) (mVar 6) (mK (.int 0)))) (mTst (mOp fGt (mVar 5) (mK (.int
    0))))) (mTup (mCons (mK .non) (mCons (mVar 1) (mNil)))) (mTup (mCons (mVar 2) (mCons (mVar 3) (mNil)))))) (mNext)) (mSet 4 (mOp fMulA (mK (.int 128)) (mVar 4)))))))
noncomputable def f__law_number_at : List D → AH → Res D := mFun 7 (mSeq (mPar3 2 3 4 (mCons (mK (.int 0)) (mCons (mVar 1) (mCons (mK (.int 1)) (mNil))))) (mSeq (mFor (mR1 (mCons (mK (.int 9)) (mNil)))
    (.nm 5) b__law_number_at1) (mRet (mTup (mCons (mK .non) (mCons (mVar 1) (mNil)))))))
noncomputable def f__law_octets : List D → AH → Res D := mFun 3 (mRet (mCall fTup (mCons (mLc false (mR1 (mCons (mVar 1) (mNil))) (.nm 2) (mYes) (mCallF 2 f__law_pick (mCons (mVar 0) (mCons (mLst
    (mCons (mK (.int 0)) (mCons (mK (.int 1)) (mCons (mK (.int 127)) (mCons (mK (.int 128)) (mCons (mK (.int 129)) (mCons (mK (.int 255)) (mCons (mCallF 2 f__law_draw (mCons (mVar 0) (mCons (mK (.int
    256)) (mNil)))) (mNil))))))))) (mNil)))) [2]) (mNil))))
noncomputable def t__law_figures1 : MT := (mTst (mOp fGt (mVar 0) (mK (.int 127))))
noncomputable def b__law_figures1 : MS := (mSeq (mDrop (mMet fApp (mVar 1) (mCons (mOp fAdd (mK (.int 128)) (mOp fMod (mCall fInt (mCons (mVar 0) (mNil))) (mK (.int 128)))) (mNil)))) (mSet 0 (mOp fDiv
    (mVar 0) (mK (.int 128)))))
noncomputable def f__law_figures : List D → AH → Res D := mFun 2 (mSeq (mSet 1 (mNew (mNil))) (mSeq (mWhile t__law_figures1 b__law_figures1) (mRet (mCall fTup (mCons (mOp fAddR (mVar 1) (mLst (mCons
    (mVar 0) (mNil)))) (mNil))))))
end JR
end
section
set_option maxHeartbeats 1000000
namespace JR
open PySem PySem.Spec PyProof.Rows L2 DM
theorem hs_lt {h q : Nat} {A : AH} (hs : HS h q A) : h < A.length ∧ q < A.length := by
  obtain ⟨_, L, s, e1, e2, _⟩ := hs
  exact ⟨lt_of e1, lt_of e2⟩
theorem hs_keep {h q : Nat} {A A' : AH} (hs : HS h q A) (k1 : A'[h]? = A[h]?) (k2 : A'[q]? = A[q]?) : HS h q A' := by
  obtain ⟨hq, L, s, e1, e2, r⟩ := hs
  exact ⟨hq, L, s, k1.trans e1, k2.trans e2, r⟩
theorem hs_push {h q : Nat} {A : AH} (hs : HS h q A) (B : AH) : HS h q (A ++ B) := hs_keep hs (List.getElem?_append_left (hs_lt hs).1) (List.getElem?_append_left (hs_lt hs).2)
section
variable {h q c : Nat} {A : AH}
structure Kys (ks : List Str) : Prop where
  nd : ks.Nodup
  gk : ∀ k ∈ ks, GoodK k
theorem fInt_ii {i : Int} {A : AH} : fInt [.int i] A = .ok (.int i) A := rfl
/-! ### rows of writes -/
end
end JR
end
section
set_option maxHeartbeats 1000000
namespace JR
open PySem PySem.Spec PyProof.Rows L2 DM
/-! ### the law's own reader of numbers -/
section
variable {os : List Nat} {p t b tot sz : Nat} {x5 x6 : Option D} {A : AH}
theorem na_end (hb : os.length ≤ p + t) : b__law_number_at1 [some (.tup (dI os)), some (.int (p : Int)), some (.int (tot : Int)), some (.int ((p + t : Nat) : Int)), some (.int (sz : Int)), some (.int (t : Int)), x6] A = .rt (.tup [.non, .int (p : Int)]) A := by
  unfold b__law_number_at1
  refine seq_rt ?_
  have hl : fLen [.tup (dI os)] A = .ok (.int (os.length : Nat)) A := len_tup
  simp only [EVa, List.getElem?_cons_zero, List.getElem?_cons_succ, List.set_cons_zero, List.set_cons_succ, bind_ok, lift_ok, List.length_cons, List.length_nil, Nat.reduceAdd, Nat.reduceLeDiff, ↓reduceIte, if_true, if_false, Bool.false_eq_true, ev_raise, and_self, List.map_cons, List.map_nil, List.replicate, List.cons_append, List.nil_append, Nat.reduceSub, hl, ge_ii, decide_eq_true (show ((os.length : Nat) : Int) ≤ ((p + t : Nat) : Int) by omega)]
theorem na_turnI {po : Int} {T PL S B tu V : Int} (hl : ¬ ((os.length : Nat) : Int) ≤ PL) (x1 : fIx (.tup (dI os)) (.int PL) A = .ok (.int B) A) (hV : V = if 127 < B then B - 128 else B) (cm : CMul S V) :
    b__law_number_at1 [some (.tup (dI os)), some (.int po), some (.int T), some (.int PL), some (.int S), some (.int tu), x6] A =
      (if B < 128 then .rt (if B = 0 ∧ 0 < tu then .tup [.non, .int po] else .tup [.int (T + S * V), .int (PL + 1)]) A
      else .nx [some (.tup (dI os)), some (.int po), some (.int (T + S * V)), some (.int (PL + 1)), some (.int (128 * S)), some (.int tu), some (.int B)] A) := by
  have hln : fLen [.tup (dI os)] A = .ok (.int (os.length : Nat)) A := len_tup
  have c128 : CMul 128 S := .inl ⟨by decide, by decide⟩
  unfold b__law_number_at1
  refine (seq_nx (ρ1 := [some (.tup (dI os)), some (.int po), some (.int T), some (.int PL), some (.int S), some (.int tu), x6]) (A1 := A) ?_).trans ?_
  · simp only [EVa, List.getElem?_cons_zero, List.getElem?_cons_succ, List.set_cons_zero, List.set_cons_succ, bind_ok, lift_ok, List.length_cons, List.length_nil, Nat.reduceAdd, Nat.reduceLeDiff, ↓reduceIte, if_true, if_false, Bool.false_eq_true, ev_raise, and_self, List.map_cons, List.map_nil, List.replicate, List.cons_append, List.nil_append, Nat.reduceSub, hln, ge_ii, decide_eq_false hl]
  refine (seq_nx (ρ1 := [some (.tup (dI os)), some (.int po), some (.int T), some (.int PL), some (.int S), some (.int tu), some (.int B)]) (A1 := A) ?_).trans ?_
  · simp only [EVa, List.getElem?_cons_zero, List.getElem?_cons_succ, List.set_cons_zero, List.set_cons_succ, bind_ok, lift_ok, List.length_cons, List.length_nil, Nat.reduceAdd, Nat.reduceLeDiff, ↓reduceIte, if_true, if_false, Bool.false_eq_true, ev_raise, and_self, List.map_cons, List.map_nil, List.replicate, List.cons_append, List.nil_append, Nat.reduceSub, x1]
  refine (seq_nx (ρ1 := [some (.tup (dI os)), some (.int po), some (.int (T + S * V)), some (.int (PL + 1)), some (.int S), some (.int tu), some (.int B)]) (A1 := A) ?_).trans ?_
  · by_cases z : 127 < B
    · rw [if_pos z] at hV
      rw [hV] at cm ⊢
      simp only [EVa, List.getElem?_cons_zero, List.getElem?_cons_succ, List.set_cons_zero, List.set_cons_succ, bind_ok, lift_ok, List.length_cons, List.length_nil, Nat.reduceAdd, Nat.reduceLeDiff, ↓reduceIte, if_true, if_false, Bool.false_eq_true, ev_raise, and_self, List.map_cons, List.map_nil, List.replicate, List.cons_append, List.nil_append, Nat.reduceSub, gt_ii, decide_eq_true z, sub_ii, mulA_ii cm, add_ii]
    · rw [if_neg z] at hV
      rw [hV] at cm ⊢
      simp only [EVa, List.getElem?_cons_zero, List.getElem?_cons_succ, List.set_cons_zero, List.set_cons_succ, bind_ok, lift_ok, List.length_cons, List.length_nil, Nat.reduceAdd, Nat.reduceLeDiff, ↓reduceIte, if_true, if_false, Bool.false_eq_true, ev_raise, and_self, List.map_cons, List.map_nil, List.replicate, List.cons_append, List.nil_append, Nat.reduceSub, gt_ii, decide_eq_false z, mulA_ii cm, add_ii]
  by_cases h128 : B < 128
  · rw [if_pos h128]
    refine seq_rt ?_
    by_cases h0 : B = 0
    · by_cases ht : 0 < tu
      · rw [if_pos ⟨h0, ht⟩]
        simp only [EVa, List.getElem?_cons_zero, List.getElem?_cons_succ, List.set_cons_zero, List.set_cons_succ, bind_ok, lift_ok, List.length_cons, List.length_nil, Nat.reduceAdd, Nat.reduceLeDiff, ↓reduceIte, if_true, if_false, Bool.false_eq_true, ev_raise, and_self, List.map_cons, List.map_nil, List.replicate, List.cons_append, List.nil_append, Nat.reduceSub, lt_ii, decide_eq_true h128, eq_ii, decide_eq_true h0, gt_ii, decide_eq_true ht]
      · rw [if_neg (fun w => ht w.2)]
        simp only [EVa, List.getElem?_cons_zero, List.getElem?_cons_succ, List.set_cons_zero, List.set_cons_succ, bind_ok, lift_ok, List.length_cons, List.length_nil, Nat.reduceAdd, Nat.reduceLeDiff, ↓reduceIte, if_true, if_false, Bool.false_eq_true, ev_raise, and_self, List.map_cons, List.map_nil, List.replicate, List.cons_append, List.nil_append, Nat.reduceSub, lt_ii, decide_eq_true h128, eq_ii, decide_eq_true h0, gt_ii, decide_eq_false ht]
    · rw [if_neg (fun w => h0 w.1)]
      simp only [EVa, List.getElem?_cons_zero, List.getElem?_cons_succ, List.set_cons_zero, List.set_cons_succ, bind_ok, lift_ok, List.length_cons, List.length_nil, Nat.reduceAdd, Nat.reduceLeDiff, ↓reduceIte, if_true, if_false, Bool.false_eq_true, ev_raise, and_self, List.map_cons, List.map_nil, List.replicate, List.cons_append, List.nil_append, Nat.reduceSub, lt_ii, decide_eq_true h128, eq_ii, decide_eq_false h0]
  · rw [if_neg h128]
    refine (seq_nx (ρ1 := [some (.tup (dI os)), some (.int po), some (.int (T + S * V)), some (.int (PL + 1)), some (.int S), some (.int tu), some (.int B)]) (A1 := A) ?_).trans ?_
    · simp only [EVa, List.getElem?_cons_zero, List.getElem?_cons_succ, List.set_cons_zero, List.set_cons_succ, bind_ok, lift_ok, List.length_cons, List.length_nil, Nat.reduceAdd, Nat.reduceLeDiff, ↓reduceIte, if_true, if_false, Bool.false_eq_true, ev_raise, and_self, List.map_cons, List.map_nil, List.replicate, List.cons_append, List.nil_append, Nat.reduceSub, lt_ii, decide_eq_false h128]
    · simp only [EVa, List.getElem?_cons_zero, List.getElem?_cons_succ, List.set_cons_zero, List.set_cons_succ, bind_ok, lift_ok, List.length_cons, List.length_nil, Nat.reduceAdd, Nat.reduceLeDiff, ↓reduceIte, if_true, if_false, Bool.false_eq_true, ev_raise, and_self, List.map_cons, List.map_nil, List.replicate, List.cons_append, List.nil_append, Nat.reduceSub, mulA_ii c128]
theorem na_eqs {tot sz b p t : Nat} (h2 : b < 256) : (tot : Int) + (sz : Int) * ((b % 128 : Nat) : Int) = ((tot + b % 128 * sz : Nat) : Int) ∧ ((p + t : Nat) : Int) + 1 = ((p + (t + 1) : Nat) : Int) ∧ (128 : Int) * (sz : Int) = ((128 * sz : Nat) : Int) ∧ ((b % 128 : Nat) : Int) = (if (127 : Int) < (b : Int) then (b : Int) - 128 else (b : Int)) := by
  refine ⟨?_, by omega, by omega, ?_⟩
  · rw [Int.natCast_add, Int.natCast_mul, Int.mul_comm]
  · split <;> omega
theorem na_cm {S : Int} {b : Nat} : CMul S ((b % 128 : Nat) : Int) := by
  have h : b % 128 < 128 := Nat.mod_lt _ (by decide)
  generalize b % 128 = c at h
  refine .inr ⟨?_, ?_⟩
  · exact Int.lt_of_lt_of_le (by decide) (Int.natCast_nonneg c)
  · exact Int.lt_trans (Int.ofNat_lt.mpr h) (by decide)
theorem na_turn (hb : os[p + t]? = some b) (h2 : b < 256) :
    b__law_number_at1 [some (.tup (dI os)), some (.int (p : Int)), some (.int (tot : Int)), some (.int ((p + t : Nat) : Int)), some (.int (sz : Int)), some (.int (t : Int)), x6] A =
      (if b < 128 then .rt (if b = 0 ∧ 0 < t then .tup [.non, .int (p : Int)] else .tup [.int ((tot + b % 128 * sz : Nat) : Int), .int ((p + (t + 1) : Nat) : Int)]) A
      else .nx [some (.tup (dI os)), some (.int (p : Int)), some (.int ((tot + b % 128 * sz : Nat) : Int)), some (.int ((p + (t + 1) : Nat) : Int)), some (.int ((128 * sz : Nat) : Int)), some (.int (t : Int)), some (.int (b : Int))] A) := by
  have hlt := (List.getElem?_eq_some_iff.mp hb).1
  obtain ⟨q1, q2, q3, q4⟩ := na_eqs (tot := tot) (sz := sz) (p := p) (t := t) h2
  have z := na_turnI (x6 := x6) (A := A) (po := (p : Int)) (T := (tot : Int)) (PL := ((p + t : Nat) : Int)) (S := (sz : Int)) (B := (b : Int)) (tu := (t : Int)) (V := ((b % 128 : Nat) : Int)) (os := os) (by omega) (ix_dI hb rfl) q4 na_cm
  rw [q1, q2, q3] at z
  rw [z]
  by_cases h : b < 128
  · rw [if_pos h, if_pos (by omega)]
    by_cases h0 : b = 0 ∧ 0 < t
    · rw [if_pos h0, if_pos ⟨by omega, by omega⟩]
    · rw [if_neg h0, if_neg (fun w => h0 ⟨by omega, by omega⟩)]
  · rw [if_neg h, if_neg (by omega)]
end
theorem na_go {os : List Nat} {p : Nat} {iv : ItV} {all : List D} {A : AH} (ho : ∀ b ∈ os, b < 256) (hit : itemsOf A iv = some all) : ∀ (j t tot sz : Nat) (x5 x6 : Option D), t + j = 9 → sz = 128 ^ t →
    match rdN j t tot (os.drop (p + t)) with
    | some (n, k) => forGo iv all (.nm 5) b__law_number_at1 ((List.range' t j).map fun i : Nat => D.int (i : Int)) [some (.tup (dI os)), some (.int (p : Int)), some (.int (tot : Int)), some (.int ((p + t : Nat) : Int)), some (.int (sz : Int)), x5, x6] A = .rt (.tup [.int (n : Int), .int ((p + k : Nat) : Int)]) A
    | none => forGo iv all (.nm 5) b__law_number_at1 ((List.range' t j).map fun i : Nat => D.int (i : Int)) [some (.tup (dI os)), some (.int (p : Int)), some (.int (tot : Int)), some (.int ((p + t : Nat) : Int)), some (.int (sz : Int)), x5, x6] A = .rt (.tup [.non, .int (p : Int)]) A ∨
        ∃ y2 y3 y4 y5 y6, forGo iv all (.nm 5) b__law_number_at1 ((List.range' t j).map fun i : Nat => D.int (i : Int)) [some (.tup (dI os)), some (.int (p : Int)), some (.int (tot : Int)), some (.int ((p + t : Nat) : Int)), some (.int (sz : Int)), x5, x6] A = .nx [some (.tup (dI os)), some (.int (p : Int)), y2, y3, y4, y5, y6] A
  | 0, t, tot, sz, x5, x6, hj, hz => .inr ⟨_, _, _, _, _, for_nil hit⟩
  | j + 1, t, tot, sz, x5, x6, hj, hz => by
    rw [List.range'_succ, List.map_cons]
    have hat : os[p + t]? = (os.drop (p + t))[0]? := by rw [List.getElem?_drop]; rfl
    cases hd : os.drop (p + t) with
    | nil =>
      have hle : os.length ≤ p + t := List.drop_eq_nil_iff.mp hd
      exact .inl (for_rt hit rfl (na_end (x6 := x6) hle))
    | cons b r =>
      rw [hd] at hat
      have hb : os[p + t]? = some b := hat
      have hb2 : b < 256 := ho b (List.mem_of_getElem? hb)
      have hr : os.drop (p + (t + 1)) = r := by rw [← Nat.add_assoc, ← List.drop_drop, hd]; rfl
      show (match (if b = 0 ∧ 0 < t then none else if b < 128 then some (tot + b % 128 * 128 ^ t, t + 1) else rdN j (t + 1) (tot + b % 128 * 128 ^ t) r) with | some (n, k) => _ | none => _)
      have turn := na_turn (x6 := x6) (tot := tot) (sz := sz) (A := A) hb hb2
      by_cases h0 : b = 0 ∧ 0 < t
      · rw [if_pos h0]
        rw [if_pos (by omega), if_pos h0] at turn
        exact .inl (for_rt hit rfl turn)
      · rw [if_neg h0]
        by_cases hs : b < 128
        · rw [if_pos hs] at turn ⊢
          rw [if_neg h0] at turn
          rw [← hz]
          exact for_rt hit rfl turn
        · rw [if_neg hs] at turn ⊢
          have ih := na_go (p := p) ho hit j (t + 1) (tot + b % 128 * sz) (128 * sz) (some (.int (t : Int))) (some (.int (b : Int))) (by omega) (by rw [hz, Nat.pow_succ, Nat.mul_comm])
          rw [hr] at ih
          have e := for_nx (xs := (List.range' (t + 1) j).map fun i : Nat => D.int (i : Int)) (ρ1 := [some (.tup (dI os)), some (.int (p : Int)), some (.int (tot : Int)), some (.int ((p + t : Nat) : Int)), some (.int (sz : Int)), some (.int (t : Int)), x6]) (t := .nm 5) (x := .int (t : Int)) (ρ := [some (.tup (dI os)), some (.int (p : Int)), some (.int (tot : Int)), some (.int ((p + t : Nat) : Int)), some (.int (sz : Int)), x5, x6]) hit rfl turn
          rw [← hz]
          split at ih
          · rw [e]; exact ih
          · rw [e]; exact ih
theorem number_at_ok {os : List Nat} {p : Nat} {A : AH} (ho : ∀ b ∈ os, b < 256) :
    f__law_number_at [.tup (dI os), .int (p : Int)] A = .ok (match rdNum (os.drop p) with | some (n, k) => .tup [.int (n : Int), .int ((p + k : Nat) : Int)] | none => .tup [.non, .int (p : Int)]) A := by
  have hit : itemsOf A (.rng 0 9) = some ((List.range' 0 9).map fun i : Nat => D.int (i : Int)) := rfl
  have go := na_go (p := p) ho hit 9 0 0 1 none none rfl rfl
  rw [Nat.add_zero] at go
  have hf : mFor (mR1 (mCons (mK (.int 9)) mNil)) (.nm 5) b__law_number_at1 [some (.tup (dI os)), some (.int (p : Int)), some (.int ((0 : Nat) : Int)), some (.int (p : Int)), some (.int ((1 : Nat) : Int)), none, none] A = forGo (.rng 0 9) ((List.range' 0 9).map fun i : Nat => D.int (i : Int)) (.nm 5) b__law_number_at1 ((List.range' 0 9).map fun i : Nat => D.int (i : Int)) [some (.tup (dI os)), some (.int (p : Int)), some (.int ((0 : Nat) : Int)), some (.int (p : Int)), some (.int ((1 : Nat) : Int)), none, none] A := by
    rw [ev_for, r1_at (j := 9) (A1 := A) (by simp only [EVa, List.getElem?_cons_zero, List.getElem?_cons_succ, List.set_cons_zero, List.set_cons_succ, bind_ok, lift_ok, List.length_cons, List.length_nil, Nat.reduceAdd, Nat.reduceLeDiff, ↓reduceIte, if_true, if_false, Bool.false_eq_true, ev_raise, and_self, List.map_cons, List.map_nil, List.replicate, List.cons_append, List.nil_append, Nat.reduceSub]) (by decide), lift_ok]
    simp only [hit]
  have first : ∀ kt : MS, mSeq (mPar3 2 3 4 (mCons (mK (.int 0)) (mCons (mVar 1) (mCons (mK (.int 1)) (mNil))))) kt [some (.tup (dI os)), some (.int (p : Int)), none, none, none, none, none] A = kt [some (.tup (dI os)), some (.int (p : Int)), some (.int ((0 : Nat) : Int)), some (.int (p : Int)), some (.int ((1 : Nat) : Int)), none, none] A := fun kt => rfl
  unfold rdNum
  unfold f__law_number_at
  refine fun_rt ?_
  refine (first _).trans ?_
  split at go
  · rename_i n k hk
    refine seq_rt ?_
    rw [hf, go]
  · rename_i hk
    rcases go with go | ⟨y2, y3, y4, y5, y6, go⟩
    · refine seq_rt ?_
      rw [hf, go]
    · refine (seq_nx (hf.trans go)).trans ?_
      simp only [EVa, List.getElem?_cons_zero, List.getElem?_cons_succ, List.set_cons_zero, List.set_cons_succ, bind_ok, lift_ok, List.length_cons, List.length_nil, Nat.reduceAdd, Nat.reduceLeDiff, ↓reduceIte, if_true, if_false, Bool.false_eq_true, ev_raise, and_self, List.map_cons, List.map_nil, List.replicate, List.cons_append, List.nil_append, Nat.reduceSub]
/-! ### figures -/
theorem fig_turn {n c : Nat} {acc : List Nat} {A : AH} (hA : A[c]? = some (.lst (dI acc))) (hl : acc.length < 16777216) :
    b__law_figures1 [some (.int (n : Int)), some (.ref c)] A = .nx [some (.int ((n / 128 : Nat) : Int)), some (.ref c)] (A.set c (.lst (dI (acc ++ [128 + n % 128])))) := by
  have e1 : (n : Int) / 128 = ((n / 128 : Nat) : Int) := by omega
  have e2 : (n : Int) % 128 = ((n % 128 : Nat) : Int) := by omega
  have cd : CDiv (n : Int) 128 := ⟨by decide, by decide⟩
  have ea := app_run (x := .int (128 + ((n % 128 : Nat) : Int))) hA (by rw [dI_length]; exact hl)
  unfold b__law_figures1
  refine (seq_nx (ρ1 := [some (.int (n : Int)), some (.ref c)]) (A1 := A.set c (.lst (dI (acc ++ [128 + n % 128])))) ?_).trans ?_
  · simp only [EVa, List.getElem?_cons_zero, List.getElem?_cons_succ, List.set_cons_zero, List.set_cons_succ, bind_ok, lift_ok, List.length_cons, List.length_nil, Nat.reduceAdd, Nat.reduceLeDiff, ↓reduceIte, if_true, if_false, Bool.false_eq_true, ev_raise, and_self, List.map_cons, List.map_nil, List.replicate, List.cons_append, List.nil_append, Nat.reduceSub, hA, fInt_ii, mod_ii (show (0 : Int) < 128 by decide), e2, add_ii, ea]
    rw [dI_append]
    rfl
  simp only [EVa, List.getElem?_cons_zero, List.getElem?_cons_succ, List.set_cons_zero, List.set_cons_succ, bind_ok, lift_ok, List.length_cons, List.length_nil, Nat.reduceAdd, Nat.reduceLeDiff, ↓reduceIte, if_true, if_false, Bool.false_eq_true, ev_raise, and_self, List.map_cons, List.map_nil, List.replicate, List.cons_append, List.nil_append, Nat.reduceSub, div_ii cd, e1]
theorem fig_go (n : Nat) : ∀ (acc : List Nat) (A : AH) (c : Nat), A[c]? = some (.lst (dI acc)) → acc.length + (nO n).length < 16777216 →
    ∃ k last hd, nO n = hd ++ [last] ∧ iterW t__law_figures1 b__law_figures1 k [some (.int (n : Int)), some (.ref c)] A = .nx [some (.int ((last : Nat) : Int)), some (.ref c)] (A.set c (.lst (dI (acc ++ hd)))) := by
  induction n using Nat.strongRecOn with
  | _ n ih =>
    intro acc A c hA hl
    have ht : t__law_figures1 [some (.int (n : Int)), some (.ref c)] A = .ok (decide (127 < (n : Int))) A := by
      unfold t__law_figures1
      simp only [EVa, List.getElem?_cons_zero, List.getElem?_cons_succ, List.set_cons_zero, List.set_cons_succ, bind_ok, lift_ok, List.length_cons, List.length_nil, Nat.reduceAdd, Nat.reduceLeDiff, ↓reduceIte, if_true, if_false, Bool.false_eq_true, ev_raise, and_self, List.map_cons, List.map_nil, List.replicate, List.cons_append, List.nil_append, Nat.reduceSub, gt_ii]
    by_cases h : n ≤ 127
    · refine ⟨1, n, [], by rw [nO_small h]; rfl, ?_⟩
      unfold iterW
      rw [ht, decide_eq_false (by omega), List.append_nil, set_same hA]
    · rw [nO_big (by omega), List.length_cons] at hl
      obtain ⟨k, last, hd, e1, e2⟩ := ih (n / 128) (by omega) (acc ++ [128 + n % 128]) (A.set c (.lst (dI (acc ++ [128 + n % 128])))) c (set_get hA) (by simp; omega)
      refine ⟨k + 1, last, (128 + n % 128) :: hd, by rw [nO_big (by omega), e1]; rfl, ?_⟩
      conv => lhs; unfold iterW
      rw [ht, decide_eq_true (by omega)]
      simp only [fig_turn hA (by omega)]
      rw [e2, List.set_set, List.append_assoc]
      rfl
theorem figures_ok {n : Nat} (h : (nO n).length ≤ 1000) : Tells f__law_figures [.int (n : Int)] (.tup (dI (nO n))) := fun A => by
  obtain ⟨k, last, hd, e1, e2⟩ := fig_go n [] (A ++ [.lst (dI [])]) A.length (by simp) (by simp; omega)
  have e3 : (A ++ [AO.lst (dI [])]).set A.length (.lst (dI ([] ++ hd))) = A ++ [.lst (dI hd)] := by
    rw [List.set_append_right _ _ (Nat.le_refl _)]; simp
  rw [e3] at e2
  refine ⟨[.lst (dI hd)], ?_⟩
  have hx : (A ++ [AO.lst (dI hd)])[A.length]? = some (.lst (dI hd)) := by simp
  have hl := congrArg List.length e1
  simp only [List.length_append, List.length_cons, List.length_nil] at hl
  unfold f__law_figures
  refine fun_rt ?_
  refine (seq_nx (ρ1 := [some (.int (n : Int)), some (.ref A.length)]) (A1 := A ++ [.lst (dI [])]) ?_).trans ?_
  · simp only [EVa, List.getElem?_cons_zero, List.getElem?_cons_succ, List.set_cons_zero, List.set_cons_succ, bind_ok, lift_ok, List.length_cons, List.length_nil, Nat.reduceAdd, Nat.reduceLeDiff, ↓reduceIte, if_true, if_false, Bool.false_eq_true, ev_raise, and_self, List.map_cons, List.map_nil, List.replicate, List.cons_append, List.nil_append, Nat.reduceSub]
    rfl
  refine (seq_nx (mWhile_eq e2 (by intro z; cases z))).trans ?_
  simp only [EVa, List.getElem?_cons_zero, List.getElem?_cons_succ, List.set_cons_zero, List.set_cons_succ, bind_ok, lift_ok, List.length_cons, List.length_nil, Nat.reduceAdd, Nat.reduceLeDiff, ↓reduceIte, if_true, if_false, Bool.false_eq_true, ev_raise, and_self, List.map_cons, List.map_nil, List.replicate, List.cons_append, List.nil_append, Nat.reduceSub, addR_run hx (show (dI hd).length + [D.int (last : Int)].length ≤ 16777216 by rw [dI_length]; simp; omega), tup_lst]
  rw [e1, dI_append]
  rfl
end JR
end
section
set_option maxHeartbeats 1000000
namespace JR
open PySem PySem.Spec PyProof.Rows L2 DM
/-! ### what is read from any octets: a thing and how many octets it has, or where it is wrong -/
inductive Rd (α : Type) where
  | got (a : α) (k : Nat) | bad (k : Nat)
/-- a while that ends -/
def Wh (mt : MT) (sb : MS) (ρ : DM.Env) (A : AH) (r : SRes) : Prop := ∃ k, iterW mt sb k ρ A = r
theorem Wh.run {mt : MT} {sb : MS} {ρ : DM.Env} {A : AH} {r : SRes} (h : Wh mt sb ρ A r) (hr : r ≠ .no) : mWhile mt sb ρ A = r := by
  obtain ⟨k, h⟩ := h
  exact mWhile_eq h hr
theorem Wh.stop {mt : MT} {sb : MS} {ρ : DM.Env} {A A1 : AH} (h : mt ρ A = .ok false A1) : Wh mt sb ρ A (.nx ρ A1) := ⟨1, by unfold iterW; rw [h]⟩
theorem Wh.next {mt : MT} {sb : MS} {ρ ρ2 : DM.Env} {A A1 A2 : AH} {r : SRes} (h : mt ρ A = .ok true A1) (hb : sb ρ A1 = .nx ρ2 A2) (w : Wh mt sb ρ2 A2 r) : Wh mt sb ρ A r := by
  obtain ⟨k, w⟩ := w
  refine ⟨k + 1, ?_⟩
  conv => lhs; unfold iterW
  rw [h]
  simp only [hb]
  exact w
theorem Wh.exc {mt : MT} {sb : MS} {ρ ρ2 : DM.Env} {A A1 A2 : AH} {C : Str} {fs : List (Str × D)} (h : mt ρ A = .ok true A1) (hb : sb ρ A1 = .exc C fs ρ2 A2) : Wh mt sb ρ A (.exc C fs ρ2 A2) := ⟨1, by
  unfold iterW
  rw [h]
  simp only [hb]⟩
/-! ### keys -/
section
variable {os : List Nat} {p d : Nat} {A : AH}
end
end JR
end
section
set_option maxHeartbeats 1000000
namespace JR
open PySem PySem.Spec PyProof.Rows L2 DM
/-! ### texts -/
theorem rdN_len : ∀ {j t tot : Nat} {os : List Nat} {n k : Nat}, rdN j t tot os = some (n, k) → t < k ∧ k ≤ t + os.length
  | 0, t, tot, os, n, k, h => by cases h
  | j + 1, t, tot, [], n, k, h => by cases h
  | j + 1, t, tot, b :: r, n, k, h => by
    unfold rdN at h
    rw [List.length_cons]
    split at h
    · cases h
    · split at h
      · cases h; omega
      · have := rdN_len h; omega
theorem rdNum_len {os : List Nat} {n k : Nat} (h : rdNum os = some (n, k)) : 0 < k ∧ k ≤ os.length := by
  have := rdN_len h; omega
section
variable {os : List Nat} {p d : Nat} {A : AH}
end
/-! ### values -/
def Rd.map {α β : Type} (f : α → β) : Rd α → Rd β
  | .got a k => .got (f a) k
  | .bad k => .bad k
def Rd.past {α : Type} (n : Nat) : Rd α → Rd α
  | .got a k => .got a (n + k)
  | .bad k => .bad (n + k)
def okI (i : Int) : Prop := -1000000000000000000 ≤ i ∧ i ≤ 1000000000000000000
instance (i : Int) : Decidable (okI i) := inferInstanceAs (Decidable (_ ∧ _))
end JR
end
section
set_option maxHeartbeats 1000000
namespace JR
open PySem PySem.Spec PyProof.Rows L2 DM
/-! ### pairs -/
section
variable {w : Bool} {m k j i : Nat} {prev : Option Str} {os : List Nat} {key : Str} {v : D} {ws : Ws}
end
section
variable {os : List Nat} {p many : Nat} {w : Bool} {A0 : AH}
theorem pairs_val {v : D} {e b : Nat} {x6 : Option D} {A : AH} (kt : MS) :
    mSeq (mIfS (mAnd (mTst (mVar 2)) (mTst (mOp (fIsN false) (mVar 8) (mK .non)))) (mRaise "InvalidOctets" "at" (mVar 7)) (mNext)) kt
      [some (.tup (dI os)), some (.int (p : Int)), some (.bl w), some (.int (many : Int)), some (.int (e : Int)), some (.ref A0.length), x6, some (.int (b : Int)), some v] A =
    if (w && isNon v) = true then .exc "InvalidOctets" (badO b) [some (.tup (dI os)), some (.int (p : Int)), some (.bl w), some (.int (many : Int)), some (.int (e : Int)), some (.ref A0.length), x6, some (.int (b : Int)), some v] A
    else kt [some (.tup (dI os)), some (.int (p : Int)), some (.bl w), some (.int (many : Int)), some (.int (e : Int)), some (.ref A0.length), x6, some (.int (b : Int)), some v] A := by
  have hn : fIsN false v .non A = .ok (.bl (isNon v)) A := rfl
  cases w with
  | false =>
    rw [if_neg (by simp)]
    refine seq_nx ?_
    simp only [EVa, List.getElem?_cons_zero, List.getElem?_cons_succ, List.set_cons_zero, List.set_cons_succ, bind_ok, lift_ok, List.length_cons, List.length_nil, Nat.reduceAdd, Nat.reduceLeDiff, ↓reduceIte, if_true, if_false, Bool.false_eq_true, ev_raise, and_self, List.map_cons, List.map_nil, List.replicate, List.cons_append, List.nil_append, Nat.reduceSub]
  | true =>
    cases hv : isNon v with
    | true =>
      rw [if_pos (show (true && true) = true from rfl)]
      refine seq_exc ?_
      simp only [EVa, List.getElem?_cons_zero, List.getElem?_cons_succ, List.set_cons_zero, List.set_cons_succ, bind_ok, lift_ok, List.length_cons, List.length_nil, Nat.reduceAdd, Nat.reduceLeDiff, ↓reduceIte, if_true, if_false, Bool.false_eq_true, ev_raise, and_self, List.map_cons, List.map_nil, List.replicate, List.cons_append, List.nil_append, Nat.reduceSub, hn, hv]
      rfl
    | false =>
      rw [if_neg (by simp)]
      refine seq_nx ?_
      simp only [EVa, List.getElem?_cons_zero, List.getElem?_cons_succ, List.set_cons_zero, List.set_cons_succ, bind_ok, lift_ok, List.length_cons, List.length_nil, Nat.reduceAdd, Nat.reduceLeDiff, ↓reduceIte, if_true, if_false, Bool.false_eq_true, ev_raise, and_self, List.map_cons, List.map_nil, List.replicate, List.cons_append, List.nil_append, Nat.reduceSub, hn, hv]
end
end JR
end
section
set_option maxHeartbeats 1000000
namespace JR
open PySem PySem.Spec PyProof.Rows L2 DM
/-! ### bodies that are records, images -/
/-! ### frames of any octets -/
structure Frs (os : List Nat) (bs : List (List Nat)) (rest : List Nat) : Prop where
  eq : os = (bs.map pf).flatten ++ rest
  len : ∀ b ∈ bs, b.length ≤ 65535
  no : isNon (ffR rest) = false
/-! ### images -/
end JR
end
section
set_option maxHeartbeats 1000000
namespace JR
open PySem PySem.Spec PyProof.Rows L2 DM
/-! ### records of any octets -/
section
variable {x0 x1 x2 x3 : Option D} {A0 : AH}
end
end JR
end
section
set_option maxHeartbeats 1000000
namespace DM
open PySem PySem.Spec PyProof.Rows L2
/-! ### one octet changed, or two beside one another -/
end DM
end
section
set_option maxHeartbeats 1000000
namespace JR
open PySem PySem.Spec PyProof.Rows L2 DM
/-! ### what was put is read -/
theorem nat_int {a b : Nat} (h : (a : Int) = (b : Int)) : a = b := by omega
theorem rdNum_fwd {n : Nat} {rest : List Nat} (hl : (nO n).length ≤ 9) (hr : ∀ b ∈ rest, b < 256) : rdNum (nO n ++ rest) = some (n, (nO n).length) := by
  have ho : ∀ b ∈ nO n ++ rest, b < 256 := fun b hb => (List.mem_append.mp hb).elim (nO_oct n b) (hr b)
  have e1 := get_number_ok (os := nO n ++ rest) (rest := rest) (p := 0) (n := n) (A := []) rfl hl
  have e2 := get_number_sem (os := nO n ++ rest) (p := 0) (A := []) ho
  rw [List.drop_zero] at e2
  rw [e1] at e2
  cases h : rdNum (nO n ++ rest) with
  | none => rw [h] at e2; cases e2
  | some nk =>
    obtain ⟨a, b⟩ := nk
    rw [h] at e2
    injection e2 with e3 _
    injection e3 with e4
    injection e4 with e5 e6
    injection e6 with e7 _
    injection e5 with e5
    injection e7 with e7
    have h1 := nat_int e5
    have h2 := nat_int e7
    subst h1
    rw [show b = (nO n).length by omega]
/-! ### frames -/
/-! ### rows of records -/
end JR
end
section
set_option maxHeartbeats 1000000
namespace DM
open PySem PySem.Spec PyProof.Rows L2
section
variable {X : Cx} {W : WX} {e e2 : Expr} {ms : MA} {pos p : Pos}
/-! ### max of two -/
def fMax2 : List D → AH → Res D := fun ds A => match ds with
  | [.int i, .int j] => .ok (.int (if j > i then j else i)) A
  | _ => .no
theorem fMax2_ok {K : PySem.W.Frag} : CallD K fMax2 (fun xs H Q => ∃ i j, xs = [.int i, .int j] ∧ Q (.int (if j > i then j else i)) H) := by
  intro W σ m A H xs ds Q R hx h
  unfold fMax2 at h
  split at h
  · cases hx with
    | cons r1 r =>
      obtain ⟨v, rfl, r2⟩ := r.one
      cases r1
      cases r2
      exact ⟨_, _, rfl, Post.here R (.int _) h⟩
  · exact h.elim
theorem d_max2 (hm : X.mg "max" = none) (ha : DA X W [e, e2] ms) (hc : X.calm = true := by rfl) (hg : Gl X "max" := by rfl) (he : starEach [e, e2] X.env = (false, eval e X.env) :: starEach [e2] X.env := by rfl) (hpl : (backTo pos (starEach [e2] X.env)).any (·.1) = false := by rfl) :
    DE X W (.Call (.Name "max" p) [e, e2] [] pos) (mCall fMax2 ms) := d_callB (call_max2 hc) fMax2_ok hg hm (by decide +kernel) ha (by decide) (by decide) he hpl
end
end DM
end
section
set_option maxHeartbeats 2000000
namespace DM
open PySem PySem.Spec PyProof.Rows L2
section
variable {X : Cx} {W : WX} {a b c : Expr} {ma mb : ME} {ms : MA} {pos p p2 p3 : Pos}
/-! ### list(range(i, j)) -/
/-! ### list(range(i, j, k)) -/
end
end DM
end
section
set_option maxHeartbeats 1000000
namespace DM
open PySem PySem.Spec PyProof.Rows L2
/-! ### a module's own dict with text keys that nobody changes -/
inductive TabE (P : Params) : List DictEntry → List (Str × Value) → Prop
  | nil : TabE P [] []
  | cons {e : DictEntry} {r : List DictEntry} {x : Str} {u : Value} {l : List (Str × Value)} (t : Tok) : e.key = .str x t → e.hash = PyData.keyHash P x → e.val = u → TabE P r l → TabE P (e :: r) ((x, u) :: l)
inductive TabD (K : PySem.W.Frag) : List (Str × Value) → List (Str × D) → Prop
  | nil : TabD K [] []
  | fn {x C : Str} {a : Addr} {l : List (Str × Value)} {t : List (Str × D)} : clsV K C = some (.ref a) → TabD K l t → TabD K ((x, .ref a) :: l) ((x, .cl C) :: t)
  | int {x : Str} {i : Int} {tk : Tok} {l : List (Str × Value)} {t : List (Str × D)} : TabD K l t → TabD K ((x, .int i tk) :: l) ((x, .int i) :: t)
  | str {x y : Str} {tk : Tok} {l : List (Str × Value)} {t : List (Str × D)} : TabD K l t → TabD K ((x, .str y tk) :: l) ((x, .str y) :: t)
structure TabC (K : PySem.W.Frag) (P : Params) (mg : Str → Option Value) (nm : Str) (tbl : List (Str × D)) : Prop where
  ex : ∃ (a : Addr) (es : Array DictEntry) (n : Nat) (l : List (Str × Value)), mg nm = some (.ref a) ∧ clsV K nm = some (.ref a) ∧ K.lookup a = some { cls := .type "dict", data := .dict es n } ∧ (a == sysModules) = false ∧ TabE P es.toList l ∧ TabD K l tbl
theorem TabE.lit {P : Params} : ∀ {es : List DictEntry} {l : List (Str × Value)}, TabE P es l → PySem.W.KeysLit P es
  | _, _, .nil => by rw [PySem.W.KeysLit.eq_1]; trivial
  | _, _, .cons t a b c r => by rw [PySem.W.KeysLit.eq_2]; exact ⟨⟨_, t, a, b⟩, r.lit⟩
theorem TabE.noref {P : Params} : ∀ {es : List DictEntry} {l : List (Str × Value)}, TabE P es l → (es.any fun x => x.refKey) = false
  | _, _, .nil => rfl
  | _, _, .cons t a b c r => by
    rw [List.any_cons, r.noref, Bool.or_false]
    unfold DictEntry.refKey
    rw [a]
theorem TabE.find {P : Params} (z : Str) : ∀ {es : List DictEntry} {l : List (Str × Value)}, TabE P es l → (match es.find? (fun x => x.key.isStr z) with | some e => some e.val | none => none) = l.lookup z
  | _, _, .nil => rfl
  | _, _, .cons (e := e) (x := x) (u := u) (l := l) t a b c r => by
    have ih := r.find z
    rw [List.find?_cons, List.lookup_cons, a]
    show (match (match (x == z) with | true => some e | false => _) with | some e => some e.val | none => none) = (match z == x with | true => some u | false => _)
    by_cases h : x = z
    · subst h
      rw [beq_self_eq_true]
      exact congrArg some c
    · rw [beq_eq_false_iff_ne.mpr h, beq_eq_false_iff_ne.mpr (Ne.symm h)]
      exact ih
theorem TabE.ns {P : Params} {K : PySem.W.Frag} {a : Addr} {es : Array DictEntry} {n : Nat} {l : List (Str × Value)} (h : K.lookup a = some { cls := .type "dict", data := .dict es n }) (T : TabE P es.toList l) (z : Str) : PySem.W.nsIn K a z = some (l.lookup z) := by
  unfold PySem.W.nsIn
  rw [h]
  have f := T.find z
  show (match es.toList.find? (fun x => x.key.isStr z) with | some e => some (some e.val) | none => if (es.toList.any fun x => x.refKey) = true then none else some none) = _
  rw [T.noref]
  cases hf : es.toList.find? (fun x => x.key.isStr z) with
  | none => rw [hf] at f; rw [← f]; rfl
  | some e => rw [hf] at f; rw [← f]
theorem TabD.at {K : PySem.W.Frag} {z : Str} : ∀ {l : List (Str × Value)} {t : List (Str × D)}, TabD K l t → (l.lookup z).isSome = (t.lookup z).isSome ∧ ∀ d, t.lookup z = some d → ∃ u v, l.lookup z = some u ∧ RelV v u ∧ ∀ m H, RD K m H d v
  | _, _, .nil => ⟨rfl, fun _ h => by cases h⟩
  | _, _, .fn (x := x) (a := a) h r => by
    rw [List.lookup_cons, List.lookup_cons]
    cases z == x with
    | true => exact ⟨rfl, fun d e => by cases e; exact ⟨_, .ref a, rfl, rfl, fun _ _ => .cl h⟩⟩
    | false => exact r.at
  | _, _, .int (x := x) (i := i) (tk := tk) r => by
    rw [List.lookup_cons, List.lookup_cons]
    cases z == x with
    | true => exact ⟨rfl, fun d e => by cases e; exact ⟨_, .int i, rfl, ⟨tk, rfl⟩, fun _ _ => .int i⟩⟩
    | false => exact r.at
  | _, _, .str (x := x) (y := y) (tk := tk) r => by
    rw [List.lookup_cons, List.lookup_cons]
    cases z == x with
    | true => exact ⟨rfl, fun d e => by cases e; exact ⟨_, .str y, rfl, ⟨tk, rfl⟩, fun _ _ => .str y⟩⟩
    | false => exact r.at
def fKIx (nm : Str) (tbl : List (Str × D)) : D → D → AH → Res D := fun d e A => match d, e with
  | .cl n, .str z => if n = nm then (match tbl.lookup z with | some v => .ok v A | none => .no) else .no
  | _, _ => .no
def fKIn (nm : Str) (tbl : List (Str × D)) (neg : Bool) : D → D → AH → Res D := fun d e A => match d, e with
  | .str z, .cl n => if n = nm then .ok (.bl (if neg then !(tbl.lookup z).isSome else (tbl.lookup z).isSome)) A else .no
  | _, _ => .no
section
variable {X : Cx} {W : WX} {a b c e : Expr} {es : List Expr} {ma mb me : ME} {ms : MA} {pos p p2 : Pos} {nm : Str} {tbl : List (Str × D)}
theorem d_tab (T : TabC X.K X.w.params X.mg nm tbl) (hg : Gl X nm := by rfl) (hd : (nm == ("__debug__" : Str)) = false := by decide) : DE X W (.Name nm pos) (mK (.cl nm)) := by
  obtain ⟨a, es, n, l, h1, h2, _⟩ := T.ex
  exact d_glob hg h1 (v := .ref a) rfl (fun _ _ => .cl h2) hd
theorem fKIx_ok (T : TabC X.K X.w.params X.mg nm tbl) : OpD X.K (fKIx nm tbl) (rIxD X.K X.w) := by
  obtain ⟨a, es, n, l, h1, h2, h3, h4, h5, h6⟩ := T.ex
  intro W σ m A H x y d e Q R hx hy h
  unfold fKIx at h
  split at h
  · rename_i n' z
    split at h
    · rename_i hn
      subst hn
      split at h
      · rename_i v hv
        cases hx with
        | cl hc =>
        cases hy
        rw [h2] at hc
        cases hc
        obtain ⟨u, w, q1, q2, q3⟩ := h6.at.2 v hv
        exact ⟨a, z, w, rfl, rfl, ⟨es, n, u, h3, h5.lit, by rw [h5.ns h3 z, q1], q2⟩, Post.here R (q3 m H) h⟩
      · exact h.elim
    · exact h.elim
  · exact h.elim
theorem d_ixK (T : TabC X.K X.w.params X.mg nm tbl) (ha : DE X W a ma) (hb : DE X W b mb) (hs : PlainIx b := by exact fun _ _ => rfl) : DE X W (.Subscript a b pos) (mOp (fKIx nm tbl) ma mb) := PEi (pe_ix ix_kdict ha hb hs) fun _ _ _ h => tOpD (fKIx_ok T) h
theorem t_notInK (T : TabC X.K X.w.params X.mg nm tbl) (ha : DE X W a ma) (hb : DE X W b mb) (hm : behindInMarks .NotIn b = false := by first | exact nomark _ | rfl) : DT X W (.Compare a [.NotIn] [b] pos) (mTst (mOp (fKIn nm tbl true) ma mb)) := by
  obtain ⟨d, es, n, l, h1, h2, h3, h4, h5, h6⟩ := T.ex
  refine t_cmp (op_notIn_kd ⟨h3, h5.lit, h4⟩) ?_ ha hb hm
  intro W σ m A H x y dd e Q R hx hy h
  unfold fKIn at h
  split at h
  · rename_i z n'
    split at h
    · rename_i hn
      subst hn
      cases hx
      cases hy with
      | cl hc =>
      rw [h2] at hc
      cases hc
      exact ⟨z, _, rfl, rfl, h5.ns h3 z, by rw [(h6.at (z := z)).1]; exact Post.here R (.bl _) h⟩
    · exact h.elim
  · exact h.elim
/-! ### a local that is one of some defs -/
abbrev FnL := List (Str × (List D → AH → Res D))
inductive CalL (X : Cx) (n : Nat) : FnL → Prop
  | nil : CalL X n []
  | cons {z : Str} {f : Addr} {fd : FuncData} {k : Nat} {ps : List Str} {g : List D → AH → Res D} {l : FnL} : clsV X.K z = some (.ref f) → FnD X.prog X.w X.K X.mg X.base k f fd ps g → Room k X.A → PySem.W.keepIn X.K (.ref f) = true → Binds X.K fd ps [] → ps.length = n → CalL X n l → CalL X n ((z, g) :: l)
theorem CalL.at {n : Nat} {z : Str} {g : List D → AH → Res D} : ∀ {l : FnL}, CalL X n l → l.lookup z = some g → ∃ f fd k ps, clsV X.K z = some (.ref f) ∧ FnD X.prog X.w X.K X.mg X.base k f fd ps g ∧ Room k X.A ∧ PySem.W.keepIn X.K (.ref f) = true ∧ Binds X.K fd ps [] ∧ ps.length = n
  | _, .nil, h => by cases h
  | _, .cons (z := z') h1 h2 h3 h4 h5 h6 r, h => by
    rw [List.lookup_cons] at h
    by_cases e : z = z'
    · subst e
      rw [beq_self_eq_true] at h
      cases h
      exact ⟨_, _, _, _, h1, h2, h3, h4, h5, h6⟩
    · rw [beq_eq_false_iff_ne.mpr e] at h
      exact r.at h
def mCallL (i n : Nat) (fl : FnL) (ms : MA) : ME := fun ρ A => match ρ[i]? with
  | some (some (.cl z)) => (match fl.lookup z with
    | some g => (ms ρ A).bind fun ds A1 => if ds.length = n then g ds A1 else .no
    | none => .no)
  | _ => .no
theorem d_callL {i n : Nat} {x : Str} {fl : FnL} (L : CalL X n fl) (gd : X.A.guards = some []) (tk : Takes X W) (ha : DA X W (e :: es) ms) (hN : X.N[i]? = some x := by rfl) (hv : Vis X.env.scope x := by first | exact Or.inl rfl | exact Or.inr (Or.inl rfl) | exact Or.inr (Or.inr rfl)) (hd : (x == ("__debug__" : Str)) = false := by decide)
    (hcd : (x == ("__classdict__" : Str)) = false := by decide) (he : starEach (e :: es) X.env = (false, eval e X.env) :: starEach es X.env := by rfl) (hpl : (backTo pos (starEach es X.env)).any (·.1) = false := by rfl) :
    DE X W (.Call (.Name x p) (e :: es) [] pos) (mCallL i n fl ms) := by
  refine ⟨fun pins s σ H Q I ⟨m, A, ρ, R, E, h⟩ => ?_⟩
  unfold mCallL at h
  split at h
  rotate_left
  · exact h.elim
  rename_i z hz
  split at h
  rotate_left
  · exact h.elim
  rename_i g hg
  obtain ⟨f, fd, k, ps, h1, F, hr, hk, hb, hn⟩ := L.at hg
  subst hn
  obtain ⟨v, hs, rv⟩ := E.2 i _ hz
  cases rv with
  | cl hc =>
  rw [h1] at hc
  cases hc
  refine wpAny_Call_Name_kw (thn ((pe_var (pos := p) (i := i) hN hv hd hcd).run pins s σ H (fun v H1 => v = .ref f ∧ H1 = H) I ⟨.ref f, hs, rfl, rfl⟩) fun u s1 ⟨v, H1, I1, r1, q1⟩ => ?_)
  obtain ⟨ev, eH⟩ := q1
  subst ev
  rw [eH] at I1
  obtain rfl : u = Value.ref f := r1
  refine PySem.W.callWith_K (h₀ := X.base) I1.ok.mod.kin hk (thn (ha.run pos pins s1 σ H _ I1 (tA.bind (T := fun vs H1 => spD X.K ps.length g vs H1 Q (WE W σ)) R E h fun m1 A1 ds vs H1 e1 R1 E1 r1 h1 => ?_)) fun us s2 ⟨vs, H1, I2, r, q⟩ => ⟨I2.kIn, call_D ?_⟩) he hpl
  · split at h1
    · rename_i hl
      exact ⟨by rw [← r1.length]; exact hl, m1, A1, ds, R1, r1, by
        cases hz : g ds A1 with
        | ok d A2 => rw [hz] at h1; exact h1
        | exc C fs A2 => rw [hz] at h1; exact h1
        | no => rw [hz] at h1; exact h1⟩
    · exact h1.elim
  · have b := hb s2 us I2.kIn (by rw [List.append_nil, ← r.length]; exact q.1)
    rw [List.append_nil] at b
    exact run_D F hr gd tk I2 b r q
end
end DM
end
section
set_option maxHeartbeats 4000000
namespace K02
open PySem PySem.Spec PyProof.Rows L2 DM
/-! ### the text -/
def stAt (i : Nat) : Stmt := PySem.Challenge.pw_spelledways_k02_whole_numbers_as_octets.main.body.getD i (.Pass ⟨0, 0, 0, 0⟩)
abbrev x_is_text : Stmt := stAt 5
abbrev nm_is_text : List Str := ["value"]
theorem sc_is_text : FnScope nm_is_text ["value"] (defScope x_is_text) := ⟨rfl, rfl, rfl, by decide +kernel, rfl, by decide +kernel, by decide +kernel⟩
abbrev x_octet_at : Stmt := stAt 16
abbrev nm_octet_at : List Str := ["octets", "at"]
theorem sc_octet_at : FnScope nm_octet_at ["octets", "at"] (defScope x_octet_at) := ⟨rfl, rfl, rfl, by decide +kernel, rfl, by decide +kernel, by decide +kernel⟩
abbrev x_put_number : Stmt := stAt 17
abbrev nm_put_number : List Str := ["number", "found"]
theorem sc_put_number : FnScope nm_put_number ["number"] (defScope x_put_number) := ⟨rfl, rfl, rfl, by decide +kernel, rfl, by decide +kernel, by decide +kernel⟩
abbrev x_get_number : Stmt := stAt 18
abbrev nm_get_number : List Str := ["octets", "at", "total", "turn", "octet"]
theorem sc_get_number : FnScope nm_get_number ["octets", "at"] (defScope x_get_number) := ⟨rfl, rfl, rfl, by decide +kernel, rfl, by decide +kernel, by decide +kernel⟩
abbrev x_put_integer : Stmt := stAt 19
abbrev nm_put_integer : List Str := ["integer"]
theorem sc_put_integer : FnScope nm_put_integer ["integer"] (defScope x_put_integer) := ⟨rfl, rfl, rfl, by decide +kernel, rfl, by decide +kernel, by decide +kernel⟩
abbrev x_get_integer : Stmt := stAt 20
abbrev nm_get_integer : List Str := ["octets", "at", "number", "end"]
theorem sc_get_integer : FnScope nm_get_integer ["octets", "at"] (defScope x_get_integer) := ⟨rfl, rfl, rfl, by decide +kernel, rfl, by decide +kernel, by decide +kernel⟩
abbrev x_get_numbers : Stmt := stAt 21
abbrev nm_get_numbers : List Str := ["octets", "at", "many", "end", "found", "number"]
theorem sc_get_numbers : FnScope nm_get_numbers ["octets", "at"] (defScope x_get_numbers) := ⟨rfl, rfl, rfl, by decide +kernel, rfl, by decide +kernel, by decide +kernel⟩
abbrev x_signs_by_octets : Stmt := stAt 22
abbrev nm_signs_by_octets : List Str := ["signs", "sign"]
theorem sc_signs_by_octets : FnScope nm_signs_by_octets ["signs"] (defScope x_signs_by_octets) := ⟨rfl, rfl, rfl, by decide +kernel, rfl, by decide +kernel, by decide +kernel⟩
abbrev x_get_key : Stmt := stAt 23
abbrev nm_get_key : List Str := ["octets", "at", "known", "found"]
theorem sc_get_key : FnScope nm_get_key ["octets", "at"] (defScope x_get_key) := ⟨rfl, rfl, rfl, by decide +kernel, rfl, by decide +kernel, by decide +kernel⟩
abbrev x_get_text : Stmt := stAt 24
abbrev nm_get_text : List Str := ["octets", "at", "many", "end", "known", "found", "octet"]
theorem sc_get_text : FnScope nm_get_text ["octets", "at"] (defScope x_get_text) := ⟨rfl, rfl, rfl, by decide +kernel, rfl, by decide +kernel, by decide +kernel⟩
abbrev x_get_value : Stmt := stAt 25
abbrev nm_get_value : List Str := ["octets", "at", "tag", "integer", "end"]
theorem sc_get_value : FnScope nm_get_value ["octets", "at"] (defScope x_get_value) := ⟨rfl, rfl, rfl, by decide +kernel, rfl, by decide +kernel, by decide +kernel⟩
abbrev x_get_pairs : Stmt := stAt 26
abbrev nm_get_pairs : List Str := ["octets", "at", "is_whole", "many", "end", "found", "key", "behind", "value"]
theorem sc_get_pairs : FnScope nm_get_pairs ["octets", "at", "is_whole"] (defScope x_get_pairs) := ⟨rfl, rfl, rfl, by decide +kernel, rfl, by decide +kernel, by decide +kernel⟩
abbrev x_get_writes : Stmt := stAt 27
abbrev nm_get_writes : List Str := ["octets", "at"]
theorem sc_get_writes : FnScope nm_get_writes ["octets", "at"] (defScope x_get_writes) := ⟨rfl, rfl, rfl, by decide +kernel, rfl, by decide +kernel, by decide +kernel⟩
abbrev x_get_entries : Stmt := stAt 28
abbrev nm_get_entries : List Str := ["octets", "at"]
theorem sc_get_entries : FnScope nm_get_entries ["octets", "at"] (defScope x_get_entries) := ⟨rfl, rfl, rfl, by decide +kernel, rfl, by decide +kernel, by decide +kernel⟩
abbrev x_get_bound : Stmt := stAt 29
abbrev nm_get_bound : List Str := ["octets", "at", "tag"]
theorem sc_get_bound : FnScope nm_get_bound ["octets", "at"] (defScope x_get_bound) := ⟨rfl, rfl, rfl, by decide +kernel, rfl, by decide +kernel, by decide +kernel⟩
abbrev x_get_range : Stmt := stAt 30
abbrev nm_get_range : List Str := ["octets", "at", "low", "behind", "high", "end"]
theorem sc_get_range : FnScope nm_get_range ["octets", "at"] (defScope x_get_range) := ⟨rfl, rfl, rfl, by decide +kernel, rfl, by decide +kernel, by decide +kernel⟩
abbrev x_read_whole : Stmt := stAt 32
abbrev nm_read_whole : List Str := ["word", "octets", "work", "thing", "end"]
theorem sc_read_whole : FnScope nm_read_whole ["word", "octets"] (defScope x_read_whole) := ⟨rfl, rfl, rfl, by decide +kernel, rfl, by decide +kernel, by decide +kernel⟩
abbrev x__law_heap : Stmt := stAt 34
abbrev nm__law_heap : List Str := ["_law_script", "_law_base", "_law_cells", "_law_stir", "_law_cell"]
theorem sc__law_heap : FnScope nm__law_heap ["_law_script", "_law_base"] (defScope x__law_heap) := ⟨rfl, rfl, rfl, by decide +kernel, rfl, by decide +kernel, by decide +kernel⟩
abbrev x__law_draw : Stmt := stAt 35
abbrev nm__law_draw : List Str := ["_law_heap_here", "_law_many", "_law_rest"]
theorem sc__law_draw : FnScope nm__law_draw ["_law_heap_here", "_law_many"] (defScope x__law_draw) := ⟨rfl, rfl, rfl, by decide +kernel, rfl, by decide +kernel, by decide +kernel⟩
abbrev x__law_pick : Stmt := stAt 36
abbrev nm__law_pick : List Str := ["_law_heap_here", "_law_some"]
theorem sc__law_pick : FnScope nm__law_pick ["_law_heap_here", "_law_some"] (defScope x__law_pick) := ⟨rfl, rfl, rfl, by decide +kernel, rfl, by decide +kernel, by decide +kernel⟩
abbrev x__law_number_at : Stmt := stAt 37
abbrev nm__law_number_at : List Str := ["_law_octets_here", "_law_at", "_law_total", "_law_place", "_law_size", "_law_turn", "_law_octet"]
theorem sc__law_number_at : FnScope nm__law_number_at ["_law_octets_here", "_law_at"] (defScope x__law_number_at) := ⟨rfl, rfl, rfl, by decide +kernel, rfl, by decide +kernel, by decide +kernel⟩
abbrev x__law_heard : Stmt := stAt 38
abbrev nm__law_heard : List Str := ["_law_work", "wrong"]
theorem sc__law_heard : FnScope nm__law_heard ["_law_work"] (defScope x__law_heard) := ⟨rfl, rfl, rfl, by decide +kernel, rfl, by decide +kernel, by decide +kernel⟩
abbrev x__law_octets : Stmt := stAt 39
abbrev nm__law_octets : List Str := ["_law_heap_here", "_law_many", "_law_turn"]
theorem sc__law_octets : FnScope nm__law_octets ["_law_heap_here", "_law_many"] (defScope x__law_octets) := ⟨rfl, rfl, rfl, by decide +kernel, rfl, by decide +kernel, by decide +kernel⟩
abbrev x__law_figures : Stmt := stAt 40
abbrev nm__law_figures : List Str := ["_law_number", "_law_found"]
theorem sc__law_figures : FnScope nm__law_figures ["_law_number"] (defScope x__law_figures) := ⟨rfl, rfl, rfl, by decide +kernel, rfl, by decide +kernel, by decide +kernel⟩
abbrev x__law_there_and_back : Stmt := stAt 41
abbrev nm__law_there_and_back : List Str := ["_law_heap_here", "_law_size", "_law_turn", "_law_great", "_law_number", "_law_ahead", "_law_behind", "_law_due", "_law_integer", "_law_told"]
theorem sc__law_there_and_back : FnScope nm__law_there_and_back ["_law_heap_here"] (defScope x__law_there_and_back) := ⟨rfl, rfl, rfl, by decide +kernel, rfl, by decide +kernel, by decide +kernel⟩
abbrev x__law_any_octets : Stmt := stAt 42
abbrev nm__law_any_octets : List Str := ["_law_heap_here", "_law_octets_here", "_law_at", "_law_number", "_law_place", "_law_due", "_law_octet"]
theorem sc__law_any_octets : FnScope nm__law_any_octets ["_law_heap_here"] (defScope x__law_any_octets) := ⟨rfl, rfl, rfl, by decide +kernel, rfl, by decide +kernel, by decide +kernel⟩
abbrev x_law : Stmt := stAt 43
abbrev nm_law : List Str := ["_law_script", "_law_heap_here", "_law_turn", "_law_word"]
theorem sc_law : FnScope nm_law ["_law_script"] (defScope x_law) := ⟨rfl, rfl, rfl, by decide +kernel, rfl, by decide +kernel, by decide +kernel⟩
abbrev x_InvalidOctets : Stmt := stAt 2
abbrev x_NoName : Stmt := stAt 3
/-! ### what the top has written -/
structure Tx (P : Program) (w : World) (K : PySem.W.Frag) (mg : Str → Option Value) (ad : Nat → Addr) (fd : Nat → FuncData) (tb : Nat → Addr × Addr) : Prop where
  g_is_text : mg "is_text" = some (.ref (ad 0))
  F_is_text : Fun K "is_text" "is_text" x_is_text (ad 0) (fd 0)
  b_is_text : Binds K (fd 0) ["value"] []
  g_octet_at : mg "octet_at" = some (.ref (ad 1))
  F_octet_at : Fun K "octet_at" "octet_at" x_octet_at (ad 1) (fd 1)
  b_octet_at : Binds K (fd 1) ["octets", "at"] []
  g_put_number : mg "put_number" = some (.ref (ad 2))
  F_put_number : Fun K "put_number" "put_number" x_put_number (ad 2) (fd 2)
  b_put_number : Binds K (fd 2) ["number"] []
  g_get_number : mg "get_number" = some (.ref (ad 3))
  F_get_number : Fun K "get_number" "get_number" x_get_number (ad 3) (fd 3)
  b_get_number : Binds K (fd 3) ["octets", "at"] []
  g_put_integer : mg "put_integer" = some (.ref (ad 4))
  F_put_integer : Fun K "put_integer" "put_integer" x_put_integer (ad 4) (fd 4)
  b_put_integer : Binds K (fd 4) ["integer"] []
  g_get_integer : mg "get_integer" = some (.ref (ad 5))
  F_get_integer : Fun K "get_integer" "get_integer" x_get_integer (ad 5) (fd 5)
  b_get_integer : Binds K (fd 5) ["octets", "at"] []
  g_get_numbers : mg "get_numbers" = some (.ref (ad 6))
  F_get_numbers : Fun K "get_numbers" "get_numbers" x_get_numbers (ad 6) (fd 6)
  b_get_numbers : Binds K (fd 6) ["octets", "at"] []
  g_signs_by_octets : mg "signs_by_octets" = some (.ref (ad 7))
  F_signs_by_octets : Fun K "signs_by_octets" "signs_by_octets" x_signs_by_octets (ad 7) (fd 7)
  b_signs_by_octets : Binds K (fd 7) ["signs"] []
  g_get_key : mg "get_key" = some (.ref (ad 8))
  F_get_key : Fun K "get_key" "get_key" x_get_key (ad 8) (fd 8)
  b_get_key : Binds K (fd 8) ["octets", "at"] []
  g_get_text : mg "get_text" = some (.ref (ad 9))
  F_get_text : Fun K "get_text" "get_text" x_get_text (ad 9) (fd 9)
  b_get_text : Binds K (fd 9) ["octets", "at"] []
  g_get_value : mg "get_value" = some (.ref (ad 10))
  F_get_value : Fun K "get_value" "get_value" x_get_value (ad 10) (fd 10)
  b_get_value : Binds K (fd 10) ["octets", "at"] []
  g_get_pairs : mg "get_pairs" = some (.ref (ad 11))
  F_get_pairs : Fun K "get_pairs" "get_pairs" x_get_pairs (ad 11) (fd 11)
  b_get_pairs : Binds K (fd 11) ["octets", "at", "is_whole"] []
  g_get_writes : mg "get_writes" = some (.ref (ad 12))
  F_get_writes : Fun K "get_writes" "get_writes" x_get_writes (ad 12) (fd 12)
  b_get_writes : Binds K (fd 12) ["octets", "at"] []
  g_get_entries : mg "get_entries" = some (.ref (ad 13))
  F_get_entries : Fun K "get_entries" "get_entries" x_get_entries (ad 13) (fd 13)
  b_get_entries : Binds K (fd 13) ["octets", "at"] []
  g_get_bound : mg "get_bound" = some (.ref (ad 14))
  F_get_bound : Fun K "get_bound" "get_bound" x_get_bound (ad 14) (fd 14)
  b_get_bound : Binds K (fd 14) ["octets", "at"] []
  g_get_range : mg "get_range" = some (.ref (ad 15))
  F_get_range : Fun K "get_range" "get_range" x_get_range (ad 15) (fd 15)
  b_get_range : Binds K (fd 15) ["octets", "at"] []
  g_read_whole : mg "read_whole" = some (.ref (ad 16))
  F_read_whole : Fun K "read_whole" "read_whole" x_read_whole (ad 16) (fd 16)
  b_read_whole : Binds K (fd 16) ["word", "octets"] []
  g__law_heap : mg "_law_heap" = some (.ref (ad 17))
  F__law_heap : Fun K "_law_heap" "_law_heap" x__law_heap (ad 17) (fd 17)
  b__law_heap : Binds K (fd 17) ["_law_script", "_law_base"] []
  g__law_draw : mg "_law_draw" = some (.ref (ad 18))
  F__law_draw : Fun K "_law_draw" "_law_draw" x__law_draw (ad 18) (fd 18)
  b__law_draw : Binds K (fd 18) ["_law_heap_here", "_law_many"] []
  g__law_pick : mg "_law_pick" = some (.ref (ad 19))
  F__law_pick : Fun K "_law_pick" "_law_pick" x__law_pick (ad 19) (fd 19)
  b__law_pick : Binds K (fd 19) ["_law_heap_here", "_law_some"] []
  g__law_number_at : mg "_law_number_at" = some (.ref (ad 20))
  F__law_number_at : Fun K "_law_number_at" "_law_number_at" x__law_number_at (ad 20) (fd 20)
  b__law_number_at : Binds K (fd 20) ["_law_octets_here", "_law_at"] []
  g__law_heard : mg "_law_heard" = some (.ref (ad 21))
  F__law_heard : Fun K "_law_heard" "_law_heard" x__law_heard (ad 21) (fd 21)
  b__law_heard : Binds K (fd 21) ["_law_work"] []
  g__law_octets : mg "_law_octets" = some (.ref (ad 22))
  F__law_octets : Fun K "_law_octets" "_law_octets" x__law_octets (ad 22) (fd 22)
  b__law_octets : Binds K (fd 22) ["_law_heap_here", "_law_many"] []
  g__law_figures : mg "_law_figures" = some (.ref (ad 23))
  F__law_figures : Fun K "_law_figures" "_law_figures" x__law_figures (ad 23) (fd 23)
  b__law_figures : Binds K (fd 23) ["_law_number"] []
  g__law_there_and_back : mg "_law_there_and_back" = some (.ref (ad 24))
  F__law_there_and_back : Fun K "_law_there_and_back" "_law_there_and_back" x__law_there_and_back (ad 24) (fd 24)
  b__law_there_and_back : Binds K (fd 24) ["_law_heap_here"] []
  g__law_any_octets : mg "_law_any_octets" = some (.ref (ad 25))
  F__law_any_octets : Fun K "_law_any_octets" "_law_any_octets" x__law_any_octets (ad 25) (fd 25)
  b__law_any_octets : Binds K (fd 25) ["_law_heap_here"] []
  o__law_any_octets : (fd 25).code = .ref (tb 0).1
  g_law : mg "law" = some (.ref (ad 26))
  F_law : Fun K "law" "law" x_law (ad 26) (fd 26)
  b_law : Binds K (fd 26) ["_law_script"] []
  o_law : (fd 26).code = .ref (tb 1).1
  g_StoreError : mg "StoreError" = some (.ref (ad 27))
  K_StoreError : ExcK K "StoreError" (ad 27)
  g_InvalidOctets : mg "InvalidOctets" = some (.ref (ad 28))
  K_InvalidOctets : ExcK K "InvalidOctets" (ad 28)
  E_InvalidOctets : ErE.ErrC P K "Exception" "Exception.__new__" "Exception.__init__" [.type "Exception", .type "BaseException", .type "object"] (ad 28) (ad 31) "at"
  g_NoName : mg "NoName" = some (.ref (ad 29))
  K_NoName : ExcK K "NoName" (ad 29)
  E_NoName : ErE.ErrC P K "KeyError" "LookupError.__new__" "KeyError.__init__" [.type "KeyError", .type "LookupError", .type "Exception", .type "BaseException", .type "object"] (ad 29) (ad 32) "name"
  n_InvalidOctets_at : PySem.W.findIn K (.ref (ad 28)) "at" = some none
  n_NoName_name : PySem.W.findIn K (.ref (ad 29)) "name" = some none
  u_InvalidOctets_InvalidOctets : PySem.W.subIn K (.ref (ad 28)) (.ref (ad 28)) = some true
  u_InvalidOctets_NoName : PySem.W.subIn K (.ref (ad 28)) (.ref (ad 29)) = some false
  u_InvalidOctets_StoreError : PySem.W.subIn K (.ref (ad 28)) (.ref (ad 27)) = some true
  u_NoName_InvalidOctets : PySem.W.subIn K (.ref (ad 29)) (.ref (ad 28)) = some false
  u_NoName_NoName : PySem.W.subIn K (.ref (ad 29)) (.ref (ad 29)) = some true
  u_NoName_StoreError : PySem.W.subIn K (.ref (ad 29)) (.ref (ad 27)) = some false
  u_NoName_KeyError : PySem.W.subIn K (.ref (ad 29)) (.type "KeyError") = some true
  k_get_integer_at_octets : KB K (fd 5) ["octets", "at"] 0 ["at", "octets"] [1, 0]
  k_get_number_at_octets : KB K (fd 3) ["octets", "at"] 0 ["at", "octets"] [1, 0]
  k_put_integer_integer : KB K (fd 4) ["integer"] 0 ["integer"] [0]
  k_put_number_number : KB K (fd 2) ["number"] 0 ["number"] [0]
  k_read_whole_octets_word : KB K (fd 16) ["word", "octets"] 0 ["octets", "word"] [1, 0]
  z_KeyError : mg "KeyError" = none
  z_abs : mg "abs" = none
  z_int : mg "int" = none
  z_isinstance : mg "isinstance" = none
  z_len : mg "len" = none
  z_max : mg "max" = none
  z_min : mg "min" = none
  z_ord : mg "ord" = none
  z_range : mg "range" = none
  z_repr : mg "repr" = none
  z_str : mg "str" = none
  z_super : mg "super" = none
  z_tuple : mg "tuple" = none
  c_KEY_SIGNS : ∃ t, mg "KEY_SIGNS" = some (.str "0123456789_abcdefghijklmnopqrstuvwxyz" t)
  c_TEXT_SIGNS : ∃ t, mg "TEXT_SIGNS" = some (.str " -./0123456789:ABCDEFGHIJKLMNOPQRSTUVWXYZ_abcdefghijklmnopqrstuvwxyz" t)
  c_LONGEST_KEY : ∃ t, mg "LONGEST_KEY" = some (.int 16 t)
  c_LONGEST_TEXT : ∃ t, mg "LONGEST_TEXT" = some (.int 32 t)
  c_GREATEST : ∃ t, mg "GREATEST" = some (.int 1000000000000000000 t)
  c_MOST_OCTETS : ∃ t, mg "MOST_OCTETS" = some (.int 9 t)
  c_NONE_TAG : ∃ t, mg "NONE_TAG" = some (.int 0 t)
  c_INTEGER_TAG : ∃ t, mg "INTEGER_TAG" = some (.int 1 t)
  c_TEXT_TAG : ∃ t, mg "TEXT_TAG" = some (.int 2 t)
  t_GETTERS : TabC K w.params mg "GETTERS" [("number", .cl "get_number"), ("integer", .cl "get_integer"), ("numbers", .cl "get_numbers"), ("key", .cl "get_key"), ("text", .cl "get_text"), ("value", .cl "get_value"), ("writes", .cl "get_writes"), ("entries", .cl "get_entries"), ("range", .cl "get_range")]
  v_get_integer : clsV K "get_integer" = some (.ref (ad 5))
  v_get_number : clsV K "get_number" = some (.ref (ad 3))
/-! ### the defs -/
noncomputable def m_is_text : List D → AH → Res D := mFun 1 (mRet (mCall fIsi (mCons (mVar 0) (mCons (mK (.ty "str")) (mNil)))))
theorem w_is_text {P : Program} {w : World} {K : PySem.W.Frag} {mg : Str → Option Value} {base : Heap} {ad : Nat → Addr} {fd : Nat → FuncData} {tb : Nat → Addr × Addr} (T : Tx P w K mg ad fd tb) :
    FnD P w K mg base 1 (ad 0) (fd 0) ["value"] (m_is_text) :=
  have nd := sc_is_text.nd
FnD.of T.F_is_text sc_is_text fun cdv hcd A outer s H E hr gd tk hp => s_one (s_ret (d_isi T.z_isinstance (a_cons (d_var 0) (a_cons (d_ty T.z_str PyProof.Rows.Boot.«str») (a_nil)))))
noncomputable def m_octet_at : List D → AH → Res D := mFun 2 (mRet (mIf (mTst (mOp fLt (mVar 1) (mCall fLen (mCons (mVar 0) (mNil))))) (mOp fIx (mVar 0) (mVar 1)) (mK .non)))
theorem w_octet_at {P : Program} {w : World} {K : PySem.W.Frag} {mg : Str → Option Value} {base : Heap} {ad : Nat → Addr} {fd : Nat → FuncData} {tb : Nat → Addr × Addr} (T : Tx P w K mg ad fd tb) :
    FnD P w K mg base 1 (ad 1) (fd 1) ["octets", "at"] (m_octet_at) :=
  have nd := sc_octet_at.nd
FnD.of T.F_octet_at sc_octet_at fun cdv hcd A outer s H E hr gd tk hp => s_one (s_ret (d_if (t_lt (d_var 1) (d_len T.z_len (a_cons (d_var 0) (a_nil)))) (d_ix (d_var 0) (d_var 1)) (d_non)))
noncomputable def m_put_number : List D → AH → Res D := mFun 2 (mSeq (mSet 1 (mNew (mNil))) (mSeq (mWhile (mTst (mOp fGt (mVar 0) (mK (.int 127)))) (mSeq (mDrop (mMet fApp (mVar 1) (mCons (mOp fAdd (mK
    (.int 128)) (mOp fAnd (mVar 0) (mK (.int 127)))) (mNil)))) (mAug 0 fShr (mK (.int 7))))) (mRet (mCall fTup (mCons (mOp fAddR (mVar 1) (mLst (mCons (mVar 0) (mNil)))) (mNil))))))
theorem w_put_number {P : Program} {w : World} {K : PySem.W.Frag} {mg : Str → Option Value} {base : Heap} {ad : Nat → Addr} {fd : Nat → FuncData} {tb : Nat → Addr × Addr} (T : Tx P w K mg ad fd tb) :
    FnD P w K mg base 1 (ad 2) (fd 2) ["number"] (m_put_number) :=
  have nd := sc_put_number.nd
FnD.of T.F_put_number sc_put_number fun cdv hcd A outer s H E hr gd tk hp => s_cons (s_set (i := 1) nd (d_new (a_nil))) (s_cons (s_while hp (t_gt (d_var 0) (d_int)) (s_cons (s_expr (d_app (d_var 1)
    (a_cons (d_add (d_int) (d_and (d_var 0) (d_int))) (a_nil)))) (s_one (ia_shr (i := 0) nd (d_int))))) (s_one (s_ret (d_tuple T.z_tuple (a_cons (d_addR (d_var 1) (d_lst (a_cons (d_var 0) (a_nil))))
    (a_nil))))))
noncomputable def m_get_number (c_octet_at : List D → AH → Res D) : List D → AH → Res D := mFun 5 (mSeq (mSet 2 (mK (.int 0))) (mSeq (mFor (mR1 (mCons (mK (.int 9)) (mNil))) (.nm 3) (mSeq (mSet 4
    (mCallF 2 c_octet_at (mCons (mVar 0) (mCons (mOp fAdd (mVar 1) (mVar 3)) (mNil))))) (mSeq (mIfS (mOr (mTst (mOp (fIsN false) (mVar 4) (mK .non))) (mAnd (mTst (mOp (fEq false) (mVar 4) (mK (.int
    0)))) (mTst (mOp fGt (mVar 3) (mK (.int 0)))))) (mRaise "InvalidOctets" "at" (mVar 1)) (mNext)) (mSeq (mAug 2 fAug (mOp fShl (mOp fAnd (mVar 4) (mK (.int 127))) (mOp fMulA (mK (.int 7)) (mVar 3))))
    (mIfS (mTst (mOp fLt (mVar 4) (mK (.int 128)))) (mRet (mTup (mCons (mVar 2) (mCons (mOp fAdd (mOp fAdd (mVar 1) (mVar 3)) (mK (.int 1))) (mNil))))) (mNext)))))) (mRaise "InvalidOctets" "at" (mVar
    1))))
theorem w_get_number {P : Program} {w : World} {K : PySem.W.Frag} {mg : Str → Option Value} {base : Heap} {ad : Nat → Addr} {fd : Nat → FuncData} {tb : Nat → Addr × Addr} (T : Tx P w K mg ad fd tb)
    {c_octet_at : List D → AH → Res D} (G_octet_at : FnD P w K mg base 1 (ad 1) (fd 1) ["octets", "at"] c_octet_at) :
    FnD P w K mg base 2 (ad 3) (fd 3) ["octets", "at"] (m_get_number c_octet_at) :=
  have nd := sc_get_number.nd
FnD.of T.F_get_number sc_get_number fun cdv hcd A outer s H E hr gd tk hp => s_cons (s_set (i := 2) nd (d_int)) (s_cons (s_for hp rfl (i_r1 T.z_range (a_cons (d_gint T.c_MOST_OCTETS.choose_spec)
    (a_nil))) (tg_nm (i := 3) nd) (s_cons (s_set (i := 4) nd (d_call G_octet_at (hr.mono (by decide)) gd tk T.g_octet_at T.F_octet_at.kp T.b_octet_at (a_cons (d_var 0) (a_cons (d_add (d_var 1) (d_var
    3)) (a_nil))))) (s_cons (s_if (PW.pt (w_or (t_is (d_var 4) (d_non)) (w_or1 (PW.pt (w_and (t_eq hr.units (d_var 4) (d_int)) (w_and1 (t_gt (d_var 3) (d_int)))))))) (s_one (s_raise rfl tk
    T.E_InvalidOctets (hr.mono (by decide)) T.g_InvalidOctets T.K_InvalidOctets.nm T.K_InvalidOctets.kp T.K_InvalidOctets.ec.hs T.K_InvalidOctets.ty T.z_super (d_var 1))) (s_nil)) (s_cons (ia_aug (i :=
    2) nd (d_shl (d_and (d_var 4) (d_int)) (d_mulA (d_int) (d_var 3)))) (s_one (s_if (t_lt (d_var 4) (d_int)) (s_one (s_ret (d_tup (a_cons (d_var 2) (a_cons (d_add (d_add (d_var 1) (d_var 3)) (d_int))
    (a_nil)))))) (s_nil))))))) (s_one (s_raise rfl tk T.E_InvalidOctets (hr.mono (by decide)) T.g_InvalidOctets T.K_InvalidOctets.nm T.K_InvalidOctets.kp T.K_InvalidOctets.ec.hs T.K_InvalidOctets.ty
    T.z_super (d_var 1))))
noncomputable def m_put_integer (c_put_number : List D → AH → Res D) : List D → AH → Res D := mFun 1 (mRet (mCallF 1 c_put_number (mCons (mIf (mTst (mOp fGe (mVar 0) (mK (.int 0)))) (mOp fMulA (mK
    (.int 2)) (mVar 0)) (mOp fSub (mOp fMulA (mNeg (mK (.int 2))) (mVar 0)) (mK (.int 1)))) (mNil))))
theorem w_put_integer {P : Program} {w : World} {K : PySem.W.Frag} {mg : Str → Option Value} {base : Heap} {ad : Nat → Addr} {fd : Nat → FuncData} {tb : Nat → Addr × Addr} (T : Tx P w K mg ad fd tb)
    {c_put_number : List D → AH → Res D} (G_put_number : FnD P w K mg base 1 (ad 2) (fd 2) ["number"] c_put_number) :
    FnD P w K mg base 2 (ad 4) (fd 4) ["integer"] (m_put_integer c_put_number) :=
  have nd := sc_put_integer.nd
FnD.of T.F_put_integer sc_put_integer fun cdv hcd A outer s H E hr gd tk hp => s_one (s_ret (d_call G_put_number (hr.mono (by decide)) gd tk T.g_put_number T.F_put_number.kp T.b_put_number (a_cons
    (d_if (t_ge (d_var 0) (d_int)) (d_mulA (d_int) (d_var 0)) (d_sub (d_mulA (d_neg (d_int)) (d_var 0)) (d_int))) (a_nil))))
noncomputable def m_get_integer (c_get_number : List D → AH → Res D) : List D → AH → Res D := mFun 4 (mSeq (mAsg (.tp [.nm 2, .nm 3]) (mCallF 2 c_get_number (mCons (mVar 0) (mCons (mVar 1) (mNil)))))
    (mRet (mTup (mCons (mIf (mTst (mOp (fEq false) (mOp fAnd (mVar 2) (mK (.int 1))) (mK (.int 0)))) (mOp fDiv (mVar 2) (mK (.int 2))) (mOp fSub (mNeg (mOp fDiv (mVar 2) (mK (.int 2)))) (mK (.int 1))))
    (mCons (mVar 3) (mNil))))))
theorem w_get_integer {P : Program} {w : World} {K : PySem.W.Frag} {mg : Str → Option Value} {base : Heap} {ad : Nat → Addr} {fd : Nat → FuncData} {tb : Nat → Addr × Addr} (T : Tx P w K mg ad fd tb)
    {c_get_number : List D → AH → Res D} (G_get_number : FnD P w K mg base 2 (ad 3) (fd 3) ["octets", "at"] c_get_number) :
    FnD P w K mg base 3 (ad 5) (fd 5) ["octets", "at"] (m_get_integer c_get_number) :=
  have nd := sc_get_integer.nd
FnD.of T.F_get_integer sc_get_integer fun cdv hcd A outer s H E hr gd tk hp => s_cons (s_asg (t := .tp [.nm 2, .nm 3]) (d_call G_get_number (hr.mono (by decide)) gd tk T.g_get_number T.F_get_number.kp
    T.b_get_number (a_cons (d_var 0) (a_cons (d_var 1) (a_nil)))) (tg_tp (ts := [.nm 2, .nm 3]) rfl (tgs_cons (tg_nm (i := 2) nd) (tgs_cons (tg_nm (i := 3) nd) (tgs_nil))))) (s_one (s_ret (d_tup
    (a_cons (d_if (t_eq hr.units (d_and (d_var 2) (d_int)) (d_int)) (d_div (d_var 2) (d_int)) (d_sub (d_neg (d_div (d_var 2) (d_int))) (d_int))) (a_cons (d_var 3) (a_nil))))))
noncomputable def m_get_numbers (c_get_number : List D → AH → Res D) : List D → AH → Res D := mFun 6 (mSeq (mAsg (.tp [.nm 2, .nm 3]) (mCallF 2 c_get_number (mCons (mVar 0) (mCons (mVar 1) (mNil)))))
    (mSeq (mSet 4 (mNew (mNil))) (mSeq (mWhile (mTst (mOp fLt (mCall fLen (mCons (mVar 4) (mNil))) (mVar 2))) (mSeq (mAsg (.tp [.nm 5, .nm 3]) (mCallF 2 c_get_number (mCons (mVar 0) (mCons (mVar 3)
    (mNil))))) (mDrop (mMet fApp (mVar 4) (mCons (mVar 5) (mNil)))))) (mRet (mTup (mCons (mCall fTup (mCons (mVar 4) (mNil))) (mCons (mVar 3) (mNil))))))))
theorem w_get_numbers {P : Program} {w : World} {K : PySem.W.Frag} {mg : Str → Option Value} {base : Heap} {ad : Nat → Addr} {fd : Nat → FuncData} {tb : Nat → Addr × Addr} (T : Tx P w K mg ad fd tb)
    {c_get_number : List D → AH → Res D} (G_get_number : FnD P w K mg base 2 (ad 3) (fd 3) ["octets", "at"] c_get_number) :
    FnD P w K mg base 3 (ad 6) (fd 6) ["octets", "at"] (m_get_numbers c_get_number) :=
  have nd := sc_get_numbers.nd
FnD.of T.F_get_numbers sc_get_numbers fun cdv hcd A outer s H E hr gd tk hp => s_cons (s_asg (t := .tp [.nm 2, .nm 3]) (d_call G_get_number (hr.mono (by decide)) gd tk T.g_get_number T.F_get_number.kp
    T.b_get_number (a_cons (d_var 0) (a_cons (d_var 1) (a_nil)))) (tg_tp (ts := [.nm 2, .nm 3]) rfl (tgs_cons (tg_nm (i := 2) nd) (tgs_cons (tg_nm (i := 3) nd) (tgs_nil))))) (s_cons (s_set (i := 4) nd
    (d_new (a_nil))) (s_cons (s_while hp (t_lt (d_len T.z_len (a_cons (d_var 4) (a_nil))) (d_var 2)) (s_cons (s_asg (t := .tp [.nm 5, .nm 3]) (d_call G_get_number (hr.mono (by decide)) gd tk
    T.g_get_number T.F_get_number.kp T.b_get_number (a_cons (d_var 0) (a_cons (d_var 3) (a_nil)))) (tg_tp (ts := [.nm 5, .nm 3]) rfl (tgs_cons (tg_nm (i := 5) nd) (tgs_cons (tg_nm (i := 3) nd)
    (tgs_nil))))) (s_one (s_expr (d_app (d_var 4) (a_cons (d_var 5) (a_nil))))))) (s_one (s_ret (d_tup (a_cons (d_tuple T.z_tuple (a_cons (d_var 4) (a_nil))) (a_cons (d_var 3) (a_nil))))))))
noncomputable def m_signs_by_octets : List D → AH → Res D := mFun 2 (mRet (mDc (mStrI (mVar 0)) (.nm 1) (mYes) (mCall fOrd (mCons (mVar 1) (mNil))) (mVar 1) [1]))
theorem w_signs_by_octets {P : Program} {w : World} {K : PySem.W.Frag} {mg : Str → Option Value} {base : Heap} {ad : Nat → Addr} {fd : Nat → FuncData} {tb : Nat → Addr × Addr} (T : Tx P w K mg ad fd
    tb) :
    FnD P w K mg base 1 (ad 7) (fd 7) ["signs"] (m_signs_by_octets) :=
  have nd := sc_signs_by_octets.nd
FnD.of T.F_signs_by_octets sc_signs_by_octets fun cdv hcd A outer s H E hr gd tk hp => s_one (s_ret (d_dc (t := .nm 1) [("sign", 1)] rfl nd (i_str (d_var 0)) (blkOk_by (N := nm_signs_by_octets) (sc :=
    defScope x_signs_by_octets) (by decide +kernel)) (fun _ _ _ _ _ => tg_nm (i := 1) nd) (fun _ _ _ _ _ => l_nil) (fun _ _ _ _ _ => d_ord T.z_ord (a_cons (d_var 1) (a_nil))) (fun _ _ _ _ _ => d_var 1)
    (sl := [1]) (by decide)))
noncomputable def m_get_key (c_signs_by_octets : List D → AH → Res D) (c_octet_at : List D → AH → Res D) : List D → AH → Res D := mFun 4 (mSeq (mPar2 2 3 (mCons (mCallF 1 c_signs_by_octets (mCons (mK
    (.str "0123456789_abcdefghijklmnopqrstuvwxyz")) (mNil))) (mCons (mK (.str "")) (mNil)))) (mSeq (mWhile (mTst (mOp (fDInN false) (mCallF 2 c_octet_at (mCons (mVar 0) (mCons (mOp fAdd (mVar 1) (mCall
    fLen (mCons (mVar 3) (mNil)))) (mNil)))) (mVar 2))) (mSeq (mAug 3 fAug (mOp fDGet (mVar 2) (mOp fIx (mVar 0) (mOp fAdd (mVar 1) (mCall fLen (mCons (mVar 3) (mNil))))))) (mIfS (mTst (mOp fGt (mCall
    fLen (mCons (mVar 3) (mNil))) (mK (.int 16)))) (mRaise "InvalidOctets" "at" (mVar 1)) (mNext)))) (mSeq (mIfS (mOr (mTst (mOp (fEq false) (mVar 3) (mK (.str "")))) (mTst (mOp (fEq true) (mCallF 2
    c_octet_at (mCons (mVar 0) (mCons (mOp fAdd (mVar 1) (mCall fLen (mCons (mVar 3) (mNil)))) (mNil)))) (mK (.int 0))))) (mRaise "InvalidOctets" "at" (mVar 1)) (mNext)) (mRet (mTup (mCons (mVar 3)
    (mCons (mOp fAdd (mOp fAdd (mVar 1) (mCall fLen (mCons (mVar 3) (mNil)))) (mK (.int 1))) (mNil))))))))
theorem w_get_key {P : Program} {w : World} {K : PySem.W.Frag} {mg : Str → Option Value} {base : Heap} {ad : Nat → Addr} {fd : Nat → FuncData} {tb : Nat → Addr × Addr} (T : Tx P w K mg ad fd tb)
    {c_signs_by_octets : List D → AH → Res D} (G_signs_by_octets : FnD P w K mg base 1 (ad 7) (fd 7) ["signs"] c_signs_by_octets) {c_octet_at : List D → AH → Res D} (G_octet_at : FnD P w K mg base 1
    (ad 1) (fd 1) ["octets", "at"] c_octet_at) :
    FnD P w K mg base 2 (ad 8) (fd 8) ["octets", "at"] (m_get_key c_signs_by_octets c_octet_at) :=
  have nd := sc_get_key.nd
FnD.of T.F_get_key sc_get_key fun cdv hcd A outer s H E hr gd tk hp => s_cons (s_par2 (i := 2) (j := 3) rfl nd rfl rfl (by decide) rfl rfl (a_cons (d_call G_signs_by_octets (hr.mono (by decide)) gd tk
    T.g_signs_by_octets T.F_signs_by_octets.kp T.b_signs_by_octets (a_cons (d_gstr T.c_KEY_SIGNS) (a_nil))) (a_cons (d_str) (a_nil))) (by rfl)) (s_cons (s_while hp (t_dinN (units64 hr) (d_call
    G_octet_at (hr.mono (by decide)) gd tk T.g_octet_at T.F_octet_at.kp T.b_octet_at (a_cons (d_var 0) (a_cons (d_add (d_var 1) (d_len T.z_len (a_cons (d_var 3) (a_nil)))) (a_nil)))) (d_var 2)) (s_cons
    (ia_aug (i := 3) nd (d_dget hr.units (d_var 2) (d_ix (d_var 0) (d_add (d_var 1) (d_len T.z_len (a_cons (d_var 3) (a_nil))))))) (s_one (s_if (t_gt (d_len T.z_len (a_cons (d_var 3) (a_nil))) (d_gint
    T.c_LONGEST_KEY.choose_spec)) (s_one (s_raise rfl tk T.E_InvalidOctets (hr.mono (by decide)) T.g_InvalidOctets T.K_InvalidOctets.nm T.K_InvalidOctets.kp T.K_InvalidOctets.ec.hs T.K_InvalidOctets.ty
    T.z_super (d_var 1))) (s_nil))))) (s_cons (s_if (PW.pt (w_or (t_eq hr.units (d_var 3) (d_str)) (w_or1 (t_ne hr.units (d_call G_octet_at (hr.mono (by decide)) gd tk T.g_octet_at T.F_octet_at.kp
    T.b_octet_at (a_cons (d_var 0) (a_cons (d_add (d_var 1) (d_len T.z_len (a_cons (d_var 3) (a_nil)))) (a_nil)))) (d_int))))) (s_one (s_raise rfl tk T.E_InvalidOctets (hr.mono (by decide))
    T.g_InvalidOctets T.K_InvalidOctets.nm T.K_InvalidOctets.kp T.K_InvalidOctets.ec.hs T.K_InvalidOctets.ty T.z_super (d_var 1))) (s_nil)) (s_one (s_ret (d_tup (a_cons (d_var 3) (a_cons (d_add (d_add
    (d_var 1) (d_len T.z_len (a_cons (d_var 3) (a_nil)))) (d_int)) (a_nil))))))))
noncomputable def m_get_text (c_get_number : List D → AH → Res D) (c_signs_by_octets : List D → AH → Res D) (c_octet_at : List D → AH → Res D) : List D → AH → Res D := mFun 7 (mSeq (mAsg (.tp [.nm 2,
    .nm 3]) (mCallF 2 c_get_number (mCons (mVar 0) (mCons (mVar 1) (mNil))))) (mSeq (mIfS (mTst (mOp fGt (mVar 2) (mK (.int 32)))) (mRaise "InvalidOctets" "at" (mVar 1)) (mNext)) (mSeq (mPar2 4 5
    (mCons (mCallF 1 c_signs_by_octets (mCons (mK (.str " -./0123456789:ABCDEFGHIJKLMNOPQRSTUVWXYZ_abcdefghijklmnopqrstuvwxyz")) (mNil))) (mCons (mK (.str "")) (mNil)))) (mSeq (mWhile (mTst (mOp fLt
    (mCall fLen (mCons (mVar 5) (mNil))) (mVar 2))) (mSeq (mSet 6 (mCallF 2 c_octet_at (mCons (mVar 0) (mCons (mVar 3) (mNil))))) (mSeq (mIfS (mTst (mOp (fDInN true) (mVar 6) (mVar 4))) (mRaise
    "InvalidOctets" "at" (mVar 3)) (mNext)) (mSeq (mAug 5 fAug (mOp fDGet (mVar 4) (mVar 6))) (mAug 3 fAug (mK (.int 1))))))) (mRet (mTup (mCons (mVar 5) (mCons (mVar 3) (mNil)))))))))
theorem w_get_text {P : Program} {w : World} {K : PySem.W.Frag} {mg : Str → Option Value} {base : Heap} {ad : Nat → Addr} {fd : Nat → FuncData} {tb : Nat → Addr × Addr} (T : Tx P w K mg ad fd tb)
    {c_get_number : List D → AH → Res D} (G_get_number : FnD P w K mg base 2 (ad 3) (fd 3) ["octets", "at"] c_get_number) {c_signs_by_octets : List D → AH → Res D} (G_signs_by_octets : FnD P w K mg
    base 1 (ad 7) (fd 7) ["signs"] c_signs_by_octets) {c_octet_at : List D → AH → Res D} (G_octet_at : FnD P w K mg base 1 (ad 1) (fd 1) ["octets", "at"] c_octet_at) :
    FnD P w K mg base 3 (ad 9) (fd 9) ["octets", "at"] (m_get_text c_get_number c_signs_by_octets c_octet_at) :=
  have nd := sc_get_text.nd
FnD.of T.F_get_text sc_get_text fun cdv hcd A outer s H E hr gd tk hp => s_cons (s_asg (t := .tp [.nm 2, .nm 3]) (d_call G_get_number (hr.mono (by decide)) gd tk T.g_get_number T.F_get_number.kp
    T.b_get_number (a_cons (d_var 0) (a_cons (d_var 1) (a_nil)))) (tg_tp (ts := [.nm 2, .nm 3]) rfl (tgs_cons (tg_nm (i := 2) nd) (tgs_cons (tg_nm (i := 3) nd) (tgs_nil))))) (s_cons (s_if (t_gt (d_var
    2) (d_gint T.c_LONGEST_TEXT.choose_spec)) (s_one (s_raise rfl tk T.E_InvalidOctets (hr.mono (by decide)) T.g_InvalidOctets T.K_InvalidOctets.nm T.K_InvalidOctets.kp T.K_InvalidOctets.ec.hs
    T.K_InvalidOctets.ty T.z_super (d_var 1))) (s_nil)) (s_cons (s_par2 (i := 4) (j := 5) rfl nd rfl rfl (by decide) rfl rfl (a_cons (d_call G_signs_by_octets (hr.mono (by decide)) gd tk
    T.g_signs_by_octets T.F_signs_by_octets.kp T.b_signs_by_octets (a_cons (d_gstr T.c_TEXT_SIGNS) (a_nil))) (a_cons (d_str) (a_nil))) (by rfl)) (s_cons (s_while hp (t_lt (d_len T.z_len (a_cons (d_var
    5) (a_nil))) (d_var 2)) (s_cons (s_set (i := 6) nd (d_call G_octet_at (hr.mono (by decide)) gd tk T.g_octet_at T.F_octet_at.kp T.b_octet_at (a_cons (d_var 0) (a_cons (d_var 3) (a_nil))))) (s_cons
    (s_if (t_dninN (units64 hr) (d_var 6) (d_var 4)) (s_one (s_raise rfl tk T.E_InvalidOctets (hr.mono (by decide)) T.g_InvalidOctets T.K_InvalidOctets.nm T.K_InvalidOctets.kp T.K_InvalidOctets.ec.hs
    T.K_InvalidOctets.ty T.z_super (d_var 3))) (s_nil)) (s_cons (ia_aug (i := 5) nd (d_dget hr.units (d_var 4) (d_var 6))) (s_one (ia_aug (i := 3) nd (d_int))))))) (s_one (s_ret (d_tup (a_cons (d_var
    5) (a_cons (d_var 3) (a_nil)))))))))
noncomputable def m_get_value (c_octet_at : List D → AH → Res D) (c_get_integer : List D → AH → Res D) (c_get_text : List D → AH → Res D) : List D → AH → Res D := mFun 5 (mSeq (mSet 2 (mCallF 2
    c_octet_at (mCons (mVar 0) (mCons (mVar 1) (mNil))))) (mSeq (mIfS (mTst (mOp (fEq false) (mVar 2) (mK (.int 0)))) (mRet (mTup (mCons (mK .non) (mCons (mOp fAdd (mVar 1) (mK (.int 1))) (mNil)))))
    (mNext)) (mSeq (mIfS (mTst (mOp (fEq false) (mVar 2) (mK (.int 2)))) (mRet (mCallF 2 c_get_text (mCons (mVar 0) (mCons (mOp fAdd (mVar 1) (mK (.int 1))) (mNil))))) (mNext)) (mSeq (mIfS (mTst (mOp
    (fEq true) (mVar 2) (mK (.int 1)))) (mRaise "InvalidOctets" "at" (mVar 1)) (mNext)) (mSeq (mAsg (.tp [.nm 3, .nm 4]) (mCallF 2 c_get_integer (mCons (mVar 0) (mCons (mOp fAdd (mVar 1) (mK (.int 1)))
    (mNil))))) (mSeq (mIfS (mNot (mTst (mChn fLe fLe (mNeg (mK (.int 1000000000000000000))) (mVar 3) (mK (.int 1000000000000000000))))) (mRaise "InvalidOctets" "at" (mOp fAdd (mVar 1) (mK (.int 1))))
    (mNext)) (mRet (mTup (mCons (mVar 3) (mCons (mVar 4) (mNil)))))))))))
theorem w_get_value {P : Program} {w : World} {K : PySem.W.Frag} {mg : Str → Option Value} {base : Heap} {ad : Nat → Addr} {fd : Nat → FuncData} {tb : Nat → Addr × Addr} (T : Tx P w K mg ad fd tb)
    {c_octet_at : List D → AH → Res D} (G_octet_at : FnD P w K mg base 1 (ad 1) (fd 1) ["octets", "at"] c_octet_at) {c_get_integer : List D → AH → Res D} (G_get_integer : FnD P w K mg base 3 (ad 5) (fd
    5) ["octets", "at"] c_get_integer) {c_get_text : List D → AH → Res D} (G_get_text : FnD P w K mg base 3 (ad 9) (fd 9) ["octets", "at"] c_get_text) :
    FnD P w K mg base 4 (ad 10) (fd 10) ["octets", "at"] (m_get_value c_octet_at c_get_integer c_get_text) :=
  have nd := sc_get_value.nd
FnD.of T.F_get_value sc_get_value fun cdv hcd A outer s H E hr gd tk hp => s_cons (s_set (i := 2) nd (d_call G_octet_at (hr.mono (by decide)) gd tk T.g_octet_at T.F_octet_at.kp T.b_octet_at (a_cons
    (d_var 0) (a_cons (d_var 1) (a_nil))))) (s_cons (s_if (t_eq hr.units (d_var 2) (d_gint T.c_NONE_TAG.choose_spec)) (s_one (s_ret (d_tup (a_cons (d_non) (a_cons (d_add (d_var 1) (d_int)) (a_nil))))))
    (s_nil)) (s_cons (s_if (t_eq hr.units (d_var 2) (d_gint T.c_TEXT_TAG.choose_spec)) (s_one (s_ret (d_call G_get_text (hr.mono (by decide)) gd tk T.g_get_text T.F_get_text.kp T.b_get_text (a_cons
    (d_var 0) (a_cons (d_add (d_var 1) (d_int)) (a_nil)))))) (s_nil)) (s_cons (s_if (t_ne hr.units (d_var 2) (d_gint T.c_INTEGER_TAG.choose_spec)) (s_one (s_raise rfl tk T.E_InvalidOctets (hr.mono
    (by decide)) T.g_InvalidOctets T.K_InvalidOctets.nm T.K_InvalidOctets.kp T.K_InvalidOctets.ec.hs T.K_InvalidOctets.ty T.z_super (d_var 1))) (s_nil)) (s_cons (s_asg (t := .tp [.nm 3, .nm 4]) (d_call
    G_get_integer (hr.mono (by decide)) gd tk T.g_get_integer T.F_get_integer.kp T.b_get_integer (a_cons (d_var 0) (a_cons (d_add (d_var 1) (d_int)) (a_nil)))) (tg_tp (ts := [.nm 3, .nm 4]) rfl
    (tgs_cons (tg_nm (i := 3) nd) (tgs_cons (tg_nm (i := 4) nd) (tgs_nil))))) (s_cons (s_if (t_not (t_chn op_le op_le fCmp_ok fCmp_ok (d_neg (d_gint T.c_GREATEST.choose_spec)) (d_var 3) (d_gint
    T.c_GREATEST.choose_spec))) (s_one (s_raise rfl tk T.E_InvalidOctets (hr.mono (by decide)) T.g_InvalidOctets T.K_InvalidOctets.nm T.K_InvalidOctets.kp T.K_InvalidOctets.ec.hs T.K_InvalidOctets.ty
    T.z_super (d_add (d_var 1) (d_int)))) (s_nil)) (s_one (s_ret (d_tup (a_cons (d_var 3) (a_cons (d_var 4) (a_nil)))))))))))
noncomputable def m_get_pairs (c_get_number : List D → AH → Res D) (c_get_key : List D → AH → Res D) (c_get_value : List D → AH → Res D) : List D → AH → Res D := mFun 9 (mSeq (mAsg (.tp [.nm 3, .nm 4])
    (mCallF 2 c_get_number (mCons (mVar 0) (mCons (mVar 1) (mNil))))) (mSeq (mSet 5 (mNew (mNil))) (mSeq (mWhile (mTst (mOp fLt (mCall fLen (mCons (mVar 5) (mNil))) (mVar 3))) (mSeq (mAsg (.tp [.nm 6,
    .nm 7]) (mCallF 2 c_get_key (mCons (mVar 0) (mCons (mVar 4) (mNil))))) (mSeq (mIfS (mAnd (mTst (mOp (fEq true) (mVar 5) (mLst (mNil)))) (mTst (mOp fLeX (mVar 6) (mOp fIx (mOp fIx (mVar 5) (mNeg (mK
    (.int 1)))) (mK (.int 0)))))) (mRaise "InvalidOctets" "at" (mVar 4)) (mNext)) (mSeq (mAsg (.tp [.nm 8, .nm 4]) (mCallF 2 c_get_value (mCons (mVar 0) (mCons (mVar 7) (mNil))))) (mSeq (mIfS (mAnd
    (mTst (mVar 2)) (mTst (mOp (fIsN false) (mVar 8) (mK .non)))) (mRaise "InvalidOctets" "at" (mVar 7)) (mNext)) (mDrop (mMet fApp (mVar 5) (mCons (mTup (mCons (mVar 6) (mCons (mVar 8) (mNil))))
    (mNil))))))))) (mRet (mTup (mCons (mCall fTup (mCons (mVar 5) (mNil))) (mCons (mVar 4) (mNil))))))))
theorem w_get_pairs {P : Program} {w : World} {K : PySem.W.Frag} {mg : Str → Option Value} {base : Heap} {ad : Nat → Addr} {fd : Nat → FuncData} {tb : Nat → Addr × Addr} (T : Tx P w K mg ad fd tb)
    {c_get_number : List D → AH → Res D} (G_get_number : FnD P w K mg base 2 (ad 3) (fd 3) ["octets", "at"] c_get_number) {c_get_key : List D → AH → Res D} (G_get_key : FnD P w K mg base 2 (ad 8) (fd
    8) ["octets", "at"] c_get_key) {c_get_value : List D → AH → Res D} (G_get_value : FnD P w K mg base 4 (ad 10) (fd 10) ["octets", "at"] c_get_value) :
    FnD P w K mg base 5 (ad 11) (fd 11) ["octets", "at", "is_whole"] (m_get_pairs c_get_number c_get_key c_get_value) :=
  have nd := sc_get_pairs.nd
FnD.of T.F_get_pairs sc_get_pairs fun cdv hcd A outer s H E hr gd tk hp => s_cons (s_asg (t := .tp [.nm 3, .nm 4]) (d_call G_get_number (hr.mono (by decide)) gd tk T.g_get_number T.F_get_number.kp
    T.b_get_number (a_cons (d_var 0) (a_cons (d_var 1) (a_nil)))) (tg_tp (ts := [.nm 3, .nm 4]) rfl (tgs_cons (tg_nm (i := 3) nd) (tgs_cons (tg_nm (i := 4) nd) (tgs_nil))))) (s_cons (s_set (i := 5) nd
    (d_new (a_nil))) (s_cons (s_while hp (t_lt (d_len T.z_len (a_cons (d_var 5) (a_nil))) (d_var 3)) (s_cons (s_asg (t := .tp [.nm 6, .nm 7]) (d_call G_get_key (hr.mono (by decide)) gd tk T.g_get_key
    T.F_get_key.kp T.b_get_key (a_cons (d_var 0) (a_cons (d_var 4) (a_nil)))) (tg_tp (ts := [.nm 6, .nm 7]) rfl (tgs_cons (tg_nm (i := 6) nd) (tgs_cons (tg_nm (i := 7) nd) (tgs_nil))))) (s_cons (s_if
    (PW.pt (w_and (t_ne hr.units (d_var 5) (d_lst (a_nil))) (w_and1 (t_leX (d_var 6) (d_ix (d_ix (d_var 5) (d_neg (d_int))) (d_int)))))) (s_one (s_raise rfl tk T.E_InvalidOctets (hr.mono (by decide))
    T.g_InvalidOctets T.K_InvalidOctets.nm T.K_InvalidOctets.kp T.K_InvalidOctets.ec.hs T.K_InvalidOctets.ty T.z_super (d_var 4))) (s_nil)) (s_cons (s_asg (t := .tp [.nm 8, .nm 4]) (d_call G_get_value
    (hr.mono (by decide)) gd tk T.g_get_value T.F_get_value.kp T.b_get_value (a_cons (d_var 0) (a_cons (d_var 7) (a_nil)))) (tg_tp (ts := [.nm 8, .nm 4]) rfl (tgs_cons (tg_nm (i := 8) nd) (tgs_cons
    (tg_nm (i := 4) nd) (tgs_nil))))) (s_cons (s_if (PW.pt (w_and (t_val (d_var 2)) (w_and1 (t_is (d_var 8) (d_non))))) (s_one (s_raise rfl tk T.E_InvalidOctets (hr.mono (by decide)) T.g_InvalidOctets
    T.K_InvalidOctets.nm T.K_InvalidOctets.kp T.K_InvalidOctets.ec.hs T.K_InvalidOctets.ty T.z_super (d_var 7))) (s_nil)) (s_one (s_expr (d_app (d_var 5) (a_cons (d_tup (a_cons (d_var 6) (a_cons (d_var
    8) (a_nil)))) (a_nil)))))))))) (s_one (s_ret (d_tup (a_cons (d_tuple T.z_tuple (a_cons (d_var 5) (a_nil))) (a_cons (d_var 4) (a_nil))))))))
noncomputable def m_get_writes (c_get_pairs : List D → AH → Res D) : List D → AH → Res D := mFun 2 (mRet (mCallF 3 c_get_pairs (mCons (mVar 0) (mCons (mVar 1) (mCons (mK (.bl false)) (mNil))))))
theorem w_get_writes {P : Program} {w : World} {K : PySem.W.Frag} {mg : Str → Option Value} {base : Heap} {ad : Nat → Addr} {fd : Nat → FuncData} {tb : Nat → Addr × Addr} (T : Tx P w K mg ad fd tb)
    {c_get_pairs : List D → AH → Res D} (G_get_pairs : FnD P w K mg base 5 (ad 11) (fd 11) ["octets", "at", "is_whole"] c_get_pairs) :
    FnD P w K mg base 6 (ad 12) (fd 12) ["octets", "at"] (m_get_writes c_get_pairs) :=
  have nd := sc_get_writes.nd
FnD.of T.F_get_writes sc_get_writes fun cdv hcd A outer s H E hr gd tk hp => s_one (s_ret (d_call G_get_pairs (hr.mono (by decide)) gd tk T.g_get_pairs T.F_get_pairs.kp T.b_get_pairs (a_cons (d_var 0)
    (a_cons (d_var 1) (a_cons (d_bl) (a_nil))))))
noncomputable def m_get_entries (c_get_pairs : List D → AH → Res D) : List D → AH → Res D := mFun 2 (mRet (mCallF 3 c_get_pairs (mCons (mVar 0) (mCons (mVar 1) (mCons (mK (.bl true)) (mNil))))))
theorem w_get_entries {P : Program} {w : World} {K : PySem.W.Frag} {mg : Str → Option Value} {base : Heap} {ad : Nat → Addr} {fd : Nat → FuncData} {tb : Nat → Addr × Addr} (T : Tx P w K mg ad fd tb)
    {c_get_pairs : List D → AH → Res D} (G_get_pairs : FnD P w K mg base 5 (ad 11) (fd 11) ["octets", "at", "is_whole"] c_get_pairs) :
    FnD P w K mg base 6 (ad 13) (fd 13) ["octets", "at"] (m_get_entries c_get_pairs) :=
  have nd := sc_get_entries.nd
FnD.of T.F_get_entries sc_get_entries fun cdv hcd A outer s H E hr gd tk hp => s_one (s_ret (d_call G_get_pairs (hr.mono (by decide)) gd tk T.g_get_pairs T.F_get_pairs.kp T.b_get_pairs (a_cons (d_var
    0) (a_cons (d_var 1) (a_cons (d_bl) (a_nil))))))
noncomputable def m_get_bound (c_octet_at : List D → AH → Res D) (c_get_key : List D → AH → Res D) : List D → AH → Res D := mFun 3 (mSeq (mSet 2 (mCallF 2 c_octet_at (mCons (mVar 0) (mCons (mVar 1)
    (mNil))))) (mSeq (mIfS (mTst (mOp (fEq false) (mVar 2) (mK (.int 0)))) (mRet (mTup (mCons (mK .non) (mCons (mOp fAdd (mVar 1) (mK (.int 1))) (mNil))))) (mNext)) (mSeq (mIfS (mTst (mOp (fEq true)
    (mVar 2) (mK (.int 1)))) (mRaise "InvalidOctets" "at" (mVar 1)) (mNext)) (mRet (mCallF 2 c_get_key (mCons (mVar 0) (mCons (mOp fAdd (mVar 1) (mK (.int 1))) (mNil))))))))
theorem w_get_bound {P : Program} {w : World} {K : PySem.W.Frag} {mg : Str → Option Value} {base : Heap} {ad : Nat → Addr} {fd : Nat → FuncData} {tb : Nat → Addr × Addr} (T : Tx P w K mg ad fd tb)
    {c_octet_at : List D → AH → Res D} (G_octet_at : FnD P w K mg base 1 (ad 1) (fd 1) ["octets", "at"] c_octet_at) {c_get_key : List D → AH → Res D} (G_get_key : FnD P w K mg base 2 (ad 8) (fd 8)
    ["octets", "at"] c_get_key) :
    FnD P w K mg base 3 (ad 14) (fd 14) ["octets", "at"] (m_get_bound c_octet_at c_get_key) :=
  have nd := sc_get_bound.nd
FnD.of T.F_get_bound sc_get_bound fun cdv hcd A outer s H E hr gd tk hp => s_cons (s_set (i := 2) nd (d_call G_octet_at (hr.mono (by decide)) gd tk T.g_octet_at T.F_octet_at.kp T.b_octet_at (a_cons
    (d_var 0) (a_cons (d_var 1) (a_nil))))) (s_cons (s_if (t_eq hr.units (d_var 2) (d_int)) (s_one (s_ret (d_tup (a_cons (d_non) (a_cons (d_add (d_var 1) (d_int)) (a_nil)))))) (s_nil)) (s_cons (s_if
    (t_ne hr.units (d_var 2) (d_int)) (s_one (s_raise rfl tk T.E_InvalidOctets (hr.mono (by decide)) T.g_InvalidOctets T.K_InvalidOctets.nm T.K_InvalidOctets.kp T.K_InvalidOctets.ec.hs
    T.K_InvalidOctets.ty T.z_super (d_var 1))) (s_nil)) (s_one (s_ret (d_call G_get_key (hr.mono (by decide)) gd tk T.g_get_key T.F_get_key.kp T.b_get_key (a_cons (d_var 0) (a_cons (d_add (d_var 1)
    (d_int)) (a_nil))))))))
noncomputable def m_get_range (c_get_bound : List D → AH → Res D) : List D → AH → Res D := mFun 6 (mSeq (mAsg (.tp [.nm 2, .nm 3]) (mCallF 2 c_get_bound (mCons (mVar 0) (mCons (mVar 1) (mNil))))) (mSeq
    (mAsg (.tp [.nm 4, .nm 5]) (mCallF 2 c_get_bound (mCons (mVar 0) (mCons (mVar 3) (mNil))))) (mRet (mTup (mCons (mTup (mCons (mVar 2) (mCons (mVar 4) (mNil)))) (mCons (mVar 5) (mNil)))))))
theorem w_get_range {P : Program} {w : World} {K : PySem.W.Frag} {mg : Str → Option Value} {base : Heap} {ad : Nat → Addr} {fd : Nat → FuncData} {tb : Nat → Addr × Addr} (T : Tx P w K mg ad fd tb)
    {c_get_bound : List D → AH → Res D} (G_get_bound : FnD P w K mg base 3 (ad 14) (fd 14) ["octets", "at"] c_get_bound) :
    FnD P w K mg base 4 (ad 15) (fd 15) ["octets", "at"] (m_get_range c_get_bound) :=
  have nd := sc_get_range.nd
FnD.of T.F_get_range sc_get_range fun cdv hcd A outer s H E hr gd tk hp => s_cons (s_asg (t := .tp [.nm 2, .nm 3]) (d_call G_get_bound (hr.mono (by decide)) gd tk T.g_get_bound T.F_get_bound.kp
    T.b_get_bound (a_cons (d_var 0) (a_cons (d_var 1) (a_nil)))) (tg_tp (ts := [.nm 2, .nm 3]) rfl (tgs_cons (tg_nm (i := 2) nd) (tgs_cons (tg_nm (i := 3) nd) (tgs_nil))))) (s_cons (s_asg (t := .tp
    [.nm 4, .nm 5]) (d_call G_get_bound (hr.mono (by decide)) gd tk T.g_get_bound T.F_get_bound.kp T.b_get_bound (a_cons (d_var 0) (a_cons (d_var 3) (a_nil)))) (tg_tp (ts := [.nm 4, .nm 5]) rfl
    (tgs_cons (tg_nm (i := 4) nd) (tgs_cons (tg_nm (i := 5) nd) (tgs_nil))))) (s_one (s_ret (d_tup (a_cons (d_tup (a_cons (d_var 2) (a_cons (d_var 4) (a_nil)))) (a_cons (d_var 5) (a_nil)))))))
noncomputable def m_read_whole (c_get_number : List D → AH → Res D) (c_get_integer : List D → AH → Res D) (c_is_text : List D → AH → Res D) : List D → AH → Res D := mFun 5 (mSeq (mIfS (mOr (mNot (mTst
    (mCallF 1 c_is_text (mCons (mVar 0) (mNil))))) (mTst (mOp (fKIn "GETTERS" [("number", .cl "get_number"), ("integer", .cl "get_integer"), ("numbers", .cl "get_numbers"), ("key", .cl "get_key"),
    ("text", .cl "get_text"), ("value", .cl "get_value"), ("writes", .cl "get_writes"), ("entries", .cl "get_entries"), ("range", .cl "get_range")] true) (mVar 0) (mK (.cl "GETTERS"))))) (mRaise
    "NoName" "name" (mVar 0)) (mNext)) (mSeq (mSet 2 (mOp (fKIx "GETTERS" [("number", .cl "get_number"), ("integer", .cl "get_integer"), ("numbers", .cl "get_numbers"), ("key", .cl "get_key"), ("text",
    .cl "get_text"), ("value", .cl "get_value"), ("writes", .cl "get_writes"), ("entries", .cl "get_entries"), ("range", .cl "get_range")]) (mK (.cl "GETTERS")) (mVar 0))) (mSeq (mAsg (.tp [.nm 3, .nm
    4]) (mCallL 2 2 [("get_number", c_get_number), ("get_integer", c_get_integer)] (mCons (mVar 1) (mCons (mK (.int 0)) (mNil))))) (mSeq (mIfS (mTst (mOp (fEq true) (mVar 4) (mCall fLen (mCons (mVar 1)
    (mNil))))) (mRaise "InvalidOctets" "at" (mVar 4)) (mNext)) (mRet (mVar 3))))))
theorem w_read_whole {P : Program} {w : World} {K : PySem.W.Frag} {mg : Str → Option Value} {base : Heap} {ad : Nat → Addr} {fd : Nat → FuncData} {tb : Nat → Addr × Addr} (T : Tx P w K mg ad fd tb)
    {c_get_number : List D → AH → Res D} (G_get_number : FnD P w K mg base 2 (ad 3) (fd 3) ["octets", "at"] c_get_number) {c_get_integer : List D → AH → Res D} (G_get_integer : FnD P w K mg base 3 (ad
    5) (fd 5) ["octets", "at"] c_get_integer) {c_is_text : List D → AH → Res D} (G_is_text : FnD P w K mg base 1 (ad 0) (fd 0) ["value"] c_is_text) :
    FnD P w K mg base 4 (ad 16) (fd 16) ["word", "octets"] (m_read_whole c_get_number c_get_integer c_is_text) :=
  have nd := sc_read_whole.nd
FnD.of T.F_read_whole sc_read_whole fun cdv hcd A outer s H E hr gd tk hp => s_cons (s_if (PW.pt (w_or (t_not (t_val (d_call G_is_text (hr.mono (by decide)) gd tk T.g_is_text T.F_is_text.kp T.b_is_text
    (a_cons (d_var 0) (a_nil))))) (w_or1 (t_notInK T.t_GETTERS (d_var 0) (d_tab T.t_GETTERS))))) (s_one (s_raise rfl tk T.E_NoName (hr.mono (by decide)) T.g_NoName T.K_NoName.nm T.K_NoName.kp
    T.K_NoName.ec.hs T.K_NoName.ty T.z_super (d_var 0))) (s_nil)) (s_cons (s_set (i := 2) nd (d_ixK T.t_GETTERS (d_tab T.t_GETTERS) (d_var 0))) (s_cons (s_asg (t := .tp [.nm 3, .nm 4]) (d_callL (.cons
    T.v_get_number G_get_number (hr.mono (by decide)) T.F_get_number.kp T.b_get_number rfl (.cons T.v_get_integer G_get_integer (hr.mono (by decide)) T.F_get_integer.kp T.b_get_integer rfl (.nil))) gd
    tk (a_cons (d_var 1) (a_cons (d_int) (a_nil)))) (tg_tp (ts := [.nm 3, .nm 4]) rfl (tgs_cons (tg_nm (i := 3) nd) (tgs_cons (tg_nm (i := 4) nd) (tgs_nil))))) (s_cons (s_if (t_ne hr.units (d_var 4)
    (d_len T.z_len (a_cons (d_var 1) (a_nil)))) (s_one (s_raise rfl tk T.E_InvalidOctets (hr.mono (by decide)) T.g_InvalidOctets T.K_InvalidOctets.nm T.K_InvalidOctets.kp T.K_InvalidOctets.ec.hs
    T.K_InvalidOctets.ty T.z_super (d_var 4))) (s_nil)) (s_one (s_ret (d_var 3))))))
noncomputable def m__law_heap : List D → AH → Res D := mFun 5 (mSeq (mSet 2 (mLc false (mSq (mSl (mVar 0) (mNone) (mSome (mK (.int 63))))) (.nm 4) (mYes) (mCall fAbs (mCons (mCall fInt (mCons (mVar 4)
    (mNil))) (mNil))) [4])) (mSeq (mSet 3 (mOp fAdd (mK (.int 52387)) (mOp fMulA (mK (.int 811)) (mVar 1)))) (mSeq (mFor (mSq (mVar 2)) (.nm 4) (mSet 3 (mOp fMod (mCall fInt (mCons (mOp fAdd (mOp fAdd
    (mOp fMulA (mVar 3) (mK (.int 48271))) (mOp fMod (mVar 4) (mK (.int 2147483549)))) (mK (.int 29))) (mNil))) (mK (.int 2147483647))))) (mRet (mNew (mCons (mRev true (mLc false (mSq (mVar 2)) (.nm 4)
    (mTst (mOp fGe (mVar 4) (mOp fPow (mK (.int 10)) (mK (.int 18))))) (mVar 4) [4])) (mCons (mVar 3) (mNil))))))))
theorem w__law_heap {P : Program} {w : World} {K : PySem.W.Frag} {mg : Str → Option Value} {base : Heap} {ad : Nat → Addr} {fd : Nat → FuncData} {tb : Nat → Addr × Addr} (T : Tx P w K mg ad fd tb) :
    FnD P w K mg base 1 (ad 17) (fd 17) ["_law_script", "_law_base"] (m__law_heap) :=
  have nd := sc__law_heap.nd
FnD.of T.F__law_heap sc__law_heap fun cdv hcd A outer s H E hr gd tk hp => s_cons (s_setLc (i := 2) (t := .nm 4) false [("_law_cell", 4)] rfl nd rfl rfl (sw_true rfl rfl rfl (by decide +kernel)) (i_sq
    (d_sl (d_var 0) (o_none) (o_some (d_int)))) (blkOk_by (N := nm__law_heap) (sc := defScope x__law_heap) (by decide +kernel)) (fun _ _ _ _ _ => tg_nm (i := 4) nd) (fun _ _ _ _ _ => l_nil) (fun _ _ _
    _ _ => d_abs T.z_abs (a_cons (d_intf T.z_int (a_cons (d_var 4) (a_nil))) (a_nil))) (sl := [4]) (by decide)) (s_cons (s_set (i := 3) nd (d_add (d_int) (d_mulA (d_int) (d_var 1)))) (s_cons (s_for hp
    rfl (i_sq (d_var 2)) (tg_nm (i := 4) nd) (s_one (s_set (i := 3) nd (d_mod (d_intf T.z_int (a_cons (d_add (d_add (d_mulA (d_var 3) (d_int)) (d_mod (d_var 4) (d_int))) (d_int)) (a_nil))) (d_int)))))
    (s_one (s_ret (d_new (a_cons (d_rev true (d_lc (t := .nm 4) false [("_law_cell", 4)] rfl nd (i_sq (d_var 2)) (blkOk_by (N := nm__law_heap) (sc := defScope x__law_heap) (by decide +kernel)) (fun _ _
    _ _ _ => tg_nm (i := 4) nd) (fun _ _ _ _ _ => l_one (t_ge (d_var 4) (d_pow (d_int) (d_int)))) (fun _ _ _ _ _ => d_var 4) (sl := [4]) (by decide))) (a_cons (d_var 3) (a_nil))))))))
noncomputable def m__law_draw : List D → AH → Res D := mFun 3 (mSeq (mWhile (mAnd (mTst (mOp (fEq true) (mOp fIx (mVar 0) (mK (.int 0))) (mLst (mNil)))) (mTst (mOp (fEq false) (mOp fIx (mOp fIx (mVar
    0) (mK (.int 0))) (mNeg (mK (.int 1)))) (mK (.int 0))))) (mDrop (mPop (mOp fIx (mVar 0) (mK (.int 0)))))) (mSeq (mIfS (mTst (mOp (fEq true) (mOp fIx (mVar 0) (mK (.int 0))) (mLst (mNil)))) (mSeq
    (mSet 2 (mCall fInt (mCons (mPop (mOp fIx (mVar 0) (mK (.int 0)))) (mNil)))) (mSeq (mDrop (mMet fApp (mOp fIx (mVar 0) (mK (.int 0))) (mCons (mOp fDiv (mVar 2) (mVar 1)) (mNil)))) (mRet (mOp fMod
    (mVar 2) (mVar 1))))) (mNext)) (mSeq (mSto (mOp fMod (mCall fInt (mCons (mOp fAdd (mOp fMulA (mOp fIx (mVar 0) (mK (.int 1))) (mK (.int 48271))) (mK (.int 13))) (mNil))) (mK (.int 2147483647)))
    (mVar 0) (mK (.int 1))) (mRet (mOp fMod (mCall fInt (mCons (mOp fDiv (mOp fIx (mVar 0) (mK (.int 1))) (mK (.int 64))) (mNil))) (mVar 1))))))
theorem w__law_draw {P : Program} {w : World} {K : PySem.W.Frag} {mg : Str → Option Value} {base : Heap} {ad : Nat → Addr} {fd : Nat → FuncData} {tb : Nat → Addr × Addr} (T : Tx P w K mg ad fd tb) :
    FnD P w K mg base 1 (ad 18) (fd 18) ["_law_heap_here", "_law_many"] (m__law_draw) :=
  have nd := sc__law_draw.nd
FnD.of T.F__law_draw sc__law_draw fun cdv hcd A outer s H E hr gd tk hp => s_cons (s_while hp (PW.pt (w_and (t_ne hr.units (d_ix (d_var 0) (d_int)) (d_lst (a_nil))) (w_and1 (t_eq hr.units (d_ix (d_ix
    (d_var 0) (d_int)) (d_neg (d_int))) (d_int))))) (s_one (s_expr (d_pop (d_ix (d_var 0) (d_int)))))) (s_cons (s_if (t_ne hr.units (d_ix (d_var 0) (d_int)) (d_lst (a_nil))) (s_cons (s_set (i := 2) nd
    (d_intf T.z_int (a_cons (d_pop (d_ix (d_var 0) (d_int))) (a_nil)))) (s_cons (s_expr (d_app (d_ix (d_var 0) (d_int)) (a_cons (d_div (d_var 2) (d_var 1)) (a_nil)))) (s_one (s_ret (d_mod (d_var 2)
    (d_var 1)))))) (s_nil)) (s_cons (s_setI (d_mod (d_intf T.z_int (a_cons (d_add (d_mulA (d_ix (d_var 0) (d_int)) (d_int)) (d_int)) (a_nil))) (d_int)) (pg_sub (d_var 0) (d_int) set_list)) (s_one
    (s_ret (d_mod (d_intf T.z_int (a_cons (d_div (d_ix (d_var 0) (d_int)) (d_int)) (a_nil))) (d_var 1))))))
noncomputable def m__law_pick (c__law_draw : List D → AH → Res D) : List D → AH → Res D := mFun 2 (mRet (mOp fIx (mVar 1) (mCallF 2 c__law_draw (mCons (mVar 0) (mCons (mCall fLen (mCons (mVar 1)
    (mNil))) (mNil))))))
theorem w__law_pick {P : Program} {w : World} {K : PySem.W.Frag} {mg : Str → Option Value} {base : Heap} {ad : Nat → Addr} {fd : Nat → FuncData} {tb : Nat → Addr × Addr} (T : Tx P w K mg ad fd tb)
    {c__law_draw : List D → AH → Res D} (G__law_draw : FnD P w K mg base 1 (ad 18) (fd 18) ["_law_heap_here", "_law_many"] c__law_draw) :
    FnD P w K mg base 2 (ad 19) (fd 19) ["_law_heap_here", "_law_some"] (m__law_pick c__law_draw) :=
  have nd := sc__law_pick.nd
FnD.of T.F__law_pick sc__law_pick fun cdv hcd A outer s H E hr gd tk hp => s_one (s_ret (d_ix (d_var 1) (d_call G__law_draw (hr.mono (by decide)) gd tk T.g__law_draw T.F__law_draw.kp T.b__law_draw
    (a_cons (d_var 0) (a_cons (d_len T.z_len (a_cons (d_var 1) (a_nil))) (a_nil))))))
noncomputable def m__law_number_at : List D → AH → Res D := mFun 7 (mSeq (mPar3 2 3 4 (mCons (mK (.int 0)) (mCons (mVar 1) (mCons (mK (.int 1)) (mNil))))) (mSeq (mFor (mR1 (mCons (mK (.int 9)) (mNil)))
    (.nm 5) (mSeq (mIfS (mTst (mOp fGe (mVar 3) (mCall fLen (mCons (mVar 0) (mNil))))) (mRet (mTup (mCons (mK .non) (mCons (mVar 1) (mNil))))) (mNext)) (mSeq (mSet 6 (mOp fIx (mVar 0) (mVar 3))) (mSeq
    (mPar2 2 3 (mCons (mOp fAdd (mVar 2) (mOp fMulA (mVar 4) (mIf (mTst (mOp fGt (mVar 6) (mK (.int 127)))) (mOp fSub (mVar 6) (mK (.int 128))) (mVar 6)))) (mCons (mOp fAdd (mVar 3) (mK (.int 1)))
    (mNil)))) (mSeq (mIfS (mTst (mOp fLt (mVar 6) (mK (.int 128)))) (mRet (mIf (mAnd (mTst (mOp (fEq false) (mVar 6) (mK (.int 0)))) (mTst (mOp fGt (mVar 5) (mK (.int 0))))) (mTup (mCons (mK .non)
    (mCons (mVar 1) (mNil)))) (mTup (mCons (mVar 2) (mCons (mVar 3) (mNil)))))) (mNext)) (mSet 4 (mOp fMulA (mK (.int 128)) (mVar 4)))))))) (mRet (mTup (mCons (mK .non) (mCons (mVar 1) (mNil)))))))
theorem w__law_number_at {P : Program} {w : World} {K : PySem.W.Frag} {mg : Str → Option Value} {base : Heap} {ad : Nat → Addr} {fd : Nat → FuncData} {tb : Nat → Addr × Addr} (T : Tx P w K mg ad fd tb)
    :
    FnD P w K mg base 1 (ad 20) (fd 20) ["_law_octets_here", "_law_at"] (m__law_number_at) :=
  have nd := sc__law_number_at.nd
FnD.of T.F__law_number_at sc__law_number_at fun cdv hcd A outer s H E hr gd tk hp => s_cons (s_par3 (i := 2) (j := 3) (l := 4) rfl nd rfl rfl rfl (by decide) (by decide) (by decide) rfl rfl rfl (a_cons
    (d_int) (a_cons (d_var 1) (a_cons (d_int) (a_nil)))) (by rfl)) (s_cons (s_for hp rfl (i_r1 T.z_range (a_cons (d_int) (a_nil))) (tg_nm (i := 5) nd) (s_cons (s_if (t_ge (d_var 3) (d_len T.z_len
    (a_cons (d_var 0) (a_nil)))) (s_one (s_ret (d_tup (a_cons (d_non) (a_cons (d_var 1) (a_nil)))))) (s_nil)) (s_cons (s_set (i := 6) nd (d_ix (d_var 0) (d_var 3))) (s_cons (s_par2 (i := 2) (j := 3)
    rfl nd rfl rfl (by decide) rfl rfl (a_cons (d_add (d_var 2) (d_mulA (d_var 4) (d_if (t_gt (d_var 6) (d_int)) (d_sub (d_var 6) (d_int)) (d_var 6)))) (a_cons (d_add (d_var 3) (d_int)) (a_nil)))
    (by rfl)) (s_cons (s_if (t_lt (d_var 6) (d_int)) (s_one (s_ret (d_if (PW.pt (w_and (t_eq hr.units (d_var 6) (d_int)) (w_and1 (t_gt (d_var 5) (d_int))))) (d_tup (a_cons (d_non) (a_cons (d_var 1)
    (a_nil)))) (d_tup (a_cons (d_var 2) (a_cons (d_var 3) (a_nil))))))) (s_nil)) (s_one (s_set (i := 4) nd (d_mulA (d_int) (d_var 4))))))))) (s_one (s_ret (d_tup (a_cons (d_non) (a_cons (d_var 1)
    (a_nil)))))))
noncomputable def mb__law_heard (mw : ME) : MS := mTry (mRet (mLst (mCons (mK (.str "told")) (mCons (mw) (mNil))))) [⟨"InvalidOctets", ["InvalidOctets"], ["NoName"], some 1, fun C a d => mRet (mLst
    (mCons (mK (.str "bytes")) (mCons (mXf C ["InvalidOctets"] a d "at" (mVar 1)) (mCons (mCall (fIsx C ["InvalidOctets"] [] (.cl "StoreError") a d) (mCons (mVar 1) (mCons (mK (.cl "StoreError"))
    (mNil)))) (mNil)))))⟩, ⟨"NoName", ["NoName"], ["InvalidOctets"], some 1, fun C a d => mRet (mLst (mCons (mK (.str "name")) (mCons (mXf C ["NoName"] a d "name" (mVar 1)) (mCons (mAndV (mCall (fIsx C
    ["NoName"] [] (.ty "KeyError") a d) (mCons (mVar 1) (mCons (mK (.ty "KeyError")) (mNil)))) (mNotV (mCall (fIsx C [] ["NoName"] (.cl "StoreError") a d) (mCons (mVar 1) (mCons (mK (.cl "StoreError"))
    (mNil)))))) (mNil)))))⟩]
theorem wb__law_heard {P : Program} {w : World} {K : PySem.W.Frag} {mg : Str → Option Value} {base : Heap} {ad : Nat → Addr} {fd : Nat → FuncData} {tb : Nat → Addr × Addr} (T : Tx P w K mg ad fd tb)
    (cdv : Value) (A : Around) (outer : List PySem.Env) (s : Shared) (H : Hp) (E : XK) (mw : ME) (tk : Takes (cxOf (L2.CX P w) P w K mg base nm__law_heard "_law_heard" (defScope x__law_heard) (ad 21)
    cdv A outer s H E) (fun c d _ H' => E c d H')) (hr : Room 0 (A.deeper (envOfC "_law_heard" (defScope x__law_heard) s.heap.objs.size (ad 21) cdv))) (gd : A.guards = some []) (work : ∀ (W : WX) (pn :
    List (Addr × Obj)) (xe : Value → Shared → Prop) (p1 p2 : Pos), Takes ((cxOf (L2.CX P w) P w K mg base nm__law_heard "_law_heard" (defScope x__law_heard) (ad 21) cdv A outer s H E).tr pn xe) W → DE
    ((cxOf (L2.CX P w) P w K mg base nm__law_heard "_law_heard" (defScope x__law_heard) (ad 21) cdv A outer s H E).tr pn xe) W (.Call (.Name "_law_work" p1) [] [] p2) mw) :
DSs (cxOf (L2.CX P w) P w K mg base nm__law_heard "_law_heard" (defScope x__law_heard) (ad 21) cdv A outer s H E) (fun c d _ H' => E c d H') (defBody x__law_heard) (mb__law_heard mw) :=
  have nd := sc__law_heard.nd
s_one (s_try rfl rfl nd tk (fun W pn xe tk hp => s_one (s_ret (d_lst (a_cons (d_str) (a_cons (work _ _ _ _ _ tk) (a_nil)))))) (.cons (hdF_own T.K_InvalidOctets (subF_cons T.K_InvalidOctets
    T.u_InvalidOctets_InvalidOctets (subF_nil)) (subF_cons T.K_NoName T.u_NoName_InvalidOctets (subF_nil))) (.cons (hdF_own T.K_NoName (subF_cons T.K_NoName T.u_NoName_NoName (subF_nil)) (subF_cons
    T.K_InvalidOctets T.u_InvalidOctets_NoName (subF_nil))) (HsM.nil))) (.named (i := 1) rfl rfl ⟨by rfl, by decide, .inl T.g_InvalidOctets⟩ (suite_ok fun a oe cls d pn C hz hf hC => s_one (s_ret
    (d_lst (a_cons (d_str) (a_cons (d_xf (xfF_cons T.K_InvalidOctets T.n_InvalidOctets_at (xfF_nil)) hC hz hf (d_var 1)) (a_cons (d_isx (.inl ⟨_, rfl, T.K_StoreError.nm, _, rfl⟩) (subF_cons
    T.K_InvalidOctets T.u_InvalidOctets_StoreError (subF_nil)) (subF_nil) (fun _ _ h => T.K_StoreError.kit h) hC hz hf T.z_isinstance (a_cons (d_var 1) (a_cons (d_cl T.K_StoreError.nm T.g_StoreError)
    (a_nil)))) (a_nil))))))) (.named (i := 1) rfl rfl ⟨by rfl, by decide, .inl T.g_NoName⟩ (suite_ok fun a oe cls d pn C hz hf hC => s_one (s_ret (d_lst (a_cons (d_str) (a_cons (d_xf (xfF_cons
    T.K_NoName T.n_NoName_name (xfF_nil)) hC hz hf (d_var 1)) (a_cons (d_andV (d_isx (.inr ⟨_, rfl, rfl⟩) (subF_cons T.K_NoName T.u_NoName_KeyError (subF_nil)) (subF_nil) (fun _ _ h => kitC_ty
    (by decide +kernel) h) hC hz hf T.z_isinstance (a_cons (d_var 1) (a_cons (d_ty T.z_KeyError PyProof.Rows.Boot.«KeyError») (a_nil)))) (d_one (d_notV (d_isx (.inl ⟨_, rfl, T.K_StoreError.nm, _, rfl⟩)
    (subF_nil) (subF_cons T.K_NoName T.u_NoName_StoreError (subF_nil)) (fun _ _ h => T.K_StoreError.kit h) hC hz hf T.z_isinstance (a_cons (d_var 1) (a_cons (d_cl T.K_StoreError.nm T.g_StoreError)
    (a_nil))))))) (a_nil))))))) (HsOk.nil))))
noncomputable def m__law_octets (c__law_pick : List D → AH → Res D) (c__law_draw : List D → AH → Res D) : List D → AH → Res D := mFun 3 (mRet (mCall fTup (mCons (mLc false (mR1 (mCons (mVar 1) (mNil)))
    (.nm 2) (mYes) (mCallF 2 c__law_pick (mCons (mVar 0) (mCons (mLst (mCons (mK (.int 0)) (mCons (mK (.int 1)) (mCons (mK (.int 127)) (mCons (mK (.int 128)) (mCons (mK (.int 129)) (mCons (mK (.int
    255)) (mCons (mCallF 2 c__law_draw (mCons (mVar 0) (mCons (mK (.int 256)) (mNil)))) (mNil))))))))) (mNil)))) [2]) (mNil))))
theorem w__law_octets {P : Program} {w : World} {K : PySem.W.Frag} {mg : Str → Option Value} {base : Heap} {ad : Nat → Addr} {fd : Nat → FuncData} {tb : Nat → Addr × Addr} (T : Tx P w K mg ad fd tb)
    {c__law_pick : List D → AH → Res D} (G__law_pick : FnD P w K mg base 2 (ad 19) (fd 19) ["_law_heap_here", "_law_some"] c__law_pick) {c__law_draw : List D → AH → Res D} (G__law_draw : FnD P w K mg
    base 1 (ad 18) (fd 18) ["_law_heap_here", "_law_many"] c__law_draw) :
    FnD P w K mg base 3 (ad 22) (fd 22) ["_law_heap_here", "_law_many"] (m__law_octets c__law_pick c__law_draw) :=
  have nd := sc__law_octets.nd
FnD.of T.F__law_octets sc__law_octets fun cdv hcd A outer s H E hr gd tk hp => s_one (s_ret (d_tuple T.z_tuple (a_cons (d_lc (t := .nm 2) false [("_law_turn", 2)] rfl nd (i_r1 T.z_range (a_cons (d_var
    1) (a_nil))) (blkOk_by (N := nm__law_octets) (sc := defScope x__law_octets) (by decide +kernel)) (fun _ _ _ _ _ => tg_nm (i := 2) nd) (fun _ _ _ _ _ => l_nil) (fun _ _ _ _ _ => d_call G__law_pick
    (hr.mono (by decide)) gd takes0 T.g__law_pick T.F__law_pick.kp T.b__law_pick (a_cons (d_var 0) (a_cons (d_lst (a_cons (d_int) (a_cons (d_int) (a_cons (d_int) (a_cons (d_int) (a_cons (d_int) (a_cons
    (d_int) (a_cons (d_call G__law_draw (hr.mono (by decide)) gd takes0 T.g__law_draw T.F__law_draw.kp T.b__law_draw (a_cons (d_var 0) (a_cons (d_int) (a_nil)))) (a_nil))))))))) (a_nil)))) (sl := [2])
    (by decide)) (a_nil))))
noncomputable def m__law_figures : List D → AH → Res D := mFun 2 (mSeq (mSet 1 (mNew (mNil))) (mSeq (mWhile (mTst (mOp fGt (mVar 0) (mK (.int 127)))) (mSeq (mDrop (mMet fApp (mVar 1) (mCons (mOp fAdd
    (mK (.int 128)) (mOp fMod (mCall fInt (mCons (mVar 0) (mNil))) (mK (.int 128)))) (mNil)))) (mSet 0 (mOp fDiv (mVar 0) (mK (.int 128)))))) (mRet (mCall fTup (mCons (mOp fAddR (mVar 1) (mLst (mCons
    (mVar 0) (mNil)))) (mNil))))))
theorem w__law_figures {P : Program} {w : World} {K : PySem.W.Frag} {mg : Str → Option Value} {base : Heap} {ad : Nat → Addr} {fd : Nat → FuncData} {tb : Nat → Addr × Addr} (T : Tx P w K mg ad fd tb) :
    FnD P w K mg base 1 (ad 23) (fd 23) ["_law_number"] (m__law_figures) :=
  have nd := sc__law_figures.nd
FnD.of T.F__law_figures sc__law_figures fun cdv hcd A outer s H E hr gd tk hp => s_cons (s_set (i := 1) nd (d_new (a_nil))) (s_cons (s_while hp (t_gt (d_var 0) (d_int)) (s_cons (s_expr (d_app (d_var 1)
    (a_cons (d_add (d_int) (d_mod (d_intf T.z_int (a_cons (d_var 0) (a_nil))) (d_int))) (a_nil)))) (s_one (s_set (i := 0) nd (d_div (d_var 0) (d_int)))))) (s_one (s_ret (d_tuple T.z_tuple (a_cons
    (d_addR (d_var 1) (d_lst (a_cons (d_var 0) (a_nil)))) (a_nil))))))
noncomputable def m__law_there_and_back (c__law_figures : List D → AH → Res D) (c_get_integer : List D → AH → Res D) (c__law_draw : List D → AH → Res D) (c__law_pick : List D → AH → Res D)
    (c__law_octets : List D → AH → Res D) (c_put_number : List D → AH → Res D) (c_get_number : List D → AH → Res D) (c_read_whole : List D → AH → Res D) (c_put_integer : List D → AH → Res D) : List D →
    AH → Res D := mFun 10 (mSeq (mSet 1 (mK (.int 1))) (mSeq (mFor (mR1 (mCons (mCallF 2 c__law_draw (mCons (mVar 0) (mCons (mK (.int 10)) (mNil)))) (mNil))) (.nm 2) (mSet 1 (mOp fMulA (mK (.int 128))
    (mVar 1)))) (mSeq (mSet 3 (mK (.int 9223372036854775807))) (mSeq (mSet 4 (mCall fMin2 (mCons (mVar 3) (mCons (mCallF 2 c__law_pick (mCons (mVar 0) (mCons (mLst (mCons (mCallF 2 c__law_draw (mCons
    (mVar 0) (mCons (mK (.int 200)) (mNil)))) (mCons (mCall fMax2 (mCons (mK (.int 0)) (mCons (mOp fSub (mVar 1) (mK (.int 1))) (mNil)))) (mCons (mVar 1) (mCons (mOp fAdd (mVar 1) (mK (.int 1))) (mCons
    (mVar 3) (mCons (mCallF 2 c__law_draw (mCons (mVar 0) (mCons (mVar 3) (mNil)))) (mNil)))))))) (mNil)))) (mNil))))) (mSeq (mPar2 5 6 (mCons (mCallF 2 c__law_octets (mCons (mVar 0) (mCons (mCallF 2
    c__law_draw (mCons (mVar 0) (mCons (mK (.int 4)) (mNil)))) (mNil)))) (mCons (mCallF 2 c__law_octets (mCons (mVar 0) (mCons (mCallF 2 c__law_draw (mCons (mVar 0) (mCons (mK (.int 4)) (mNil))))
    (mNil)))) (mNil)))) (mSeq (mSet 7 (mCallF 1 c__law_figures (mCons (mVar 4) (mNil)))) (mSeq (mIfS (mOr (mTst (mOp (fEq true) (mCall fRepr (mCons (mCallF 1 c_put_number (mCons (mVar 4) (mNil)))
    (mNil))) (mCall fRepr (mCons (mVar 7) (mNil))))) (mTst (mOp (fEq true) (mCallK 0 1 1 [0] c_put_number mNil (mCons (mVar 4) (mNil))) (mVar 7)))) (mRet (mK (.bl false))) (mNext)) (mSeq (mIfS (mTst
    (mOp (fEq true) (mCall fRepr (mCons (mCallF 2 c_get_number (mCons (mOp fAdd (mOp fAdd (mVar 5) (mVar 7)) (mVar 6)) (mCons (mCall fLen (mCons (mVar 5) (mNil))) (mNil)))) (mNil))) (mCall fRepr (mCons
    (mTup (mCons (mVar 4) (mCons (mOp fAdd (mCall fLen (mCons (mVar 5) (mNil))) (mCall fLen (mCons (mVar 7) (mNil)))) (mNil)))) (mNil))))) (mRet (mK (.bl false))) (mNext)) (mSeq (mIfS (mOr (mTst (mOp
    (fEq true) (mCall fRepr (mCons (mCallF 2 c_read_whole (mCons (mK (.str "number")) (mCons (mVar 7) (mNil)))) (mNil))) (mCall fRepr (mCons (mVar 4) (mNil))))) (mTst (mOp (fEq true) (mCallK 0 2 2 [1,
    0] c_read_whole mNil (mCons (mVar 7) (mCons (mK (.str "number")) (mNil)))) (mVar 4)))) (mRet (mK (.bl false))) (mNext)) (mSeq (mSet 8 (mIf (mTst (mOp (fEq false) (mOp fMod (mCall fInt (mCons (mVar
    4) (mNil))) (mK (.int 2))) (mK (.int 0)))) (mOp fDiv (mVar 4) (mK (.int 2))) (mOp fSub (mOp fSub (mK (.int 0)) (mOp fDiv (mVar 4) (mK (.int 2)))) (mK (.int 1))))) (mSeq (mIfS (mOr (mTst (mOp (fEq
    true) (mCall fRepr (mCons (mCallF 1 c_put_integer (mCons (mVar 8) (mNil))) (mNil))) (mCall fRepr (mCons (mVar 7) (mNil))))) (mTst (mOp (fEq true) (mCallK 0 1 1 [0] c_put_integer mNil (mCons (mVar
    8) (mNil))) (mVar 7)))) (mRet (mK (.bl false))) (mNext)) (mSeq (mSet 9 (mCallK 0 2 2 [1, 0] c_get_integer mNil (mCons (mCall fLen (mCons (mVar 5) (mNil))) (mCons (mOp fAdd (mOp fAdd (mVar 5) (mVar
    7)) (mVar 6)) (mNil))))) (mRet (mAndV (mOp (fEq false) (mCall fRepr (mCons (mVar 9) (mNil))) (mCall fRepr (mCons (mTup (mCons (mVar 8) (mCons (mOp fAdd (mCall fLen (mCons (mVar 5) (mNil))) (mCall
    fLen (mCons (mVar 7) (mNil)))) (mNil)))) (mNil)))) (mOp (fEq false) (mCallF 2 c_read_whole (mCons (mK (.str "integer")) (mCons (mVar 7) (mNil)))) (mVar 8))))))))))))))))
theorem w__law_there_and_back {P : Program} {w : World} {K : PySem.W.Frag} {mg : Str → Option Value} {base : Heap} {ad : Nat → Addr} {fd : Nat → FuncData} {tb : Nat → Addr × Addr} (T : Tx P w K mg ad
    fd tb) {c__law_figures : List D → AH → Res D} (G__law_figures : FnD P w K mg base 1 (ad 23) (fd 23) ["_law_number"] c__law_figures) {c_get_integer : List D → AH → Res D} (G_get_integer : FnD P w K
    mg base 3 (ad 5) (fd 5) ["octets", "at"] c_get_integer) {c__law_draw : List D → AH → Res D} (G__law_draw : FnD P w K mg base 1 (ad 18) (fd 18) ["_law_heap_here", "_law_many"] c__law_draw)
    {c__law_pick : List D → AH → Res D} (G__law_pick : FnD P w K mg base 2 (ad 19) (fd 19) ["_law_heap_here", "_law_some"] c__law_pick) {c__law_octets : List D → AH → Res D} (G__law_octets : FnD P w K
    mg base 3 (ad 22) (fd 22) ["_law_heap_here", "_law_many"] c__law_octets) {c_put_number : List D → AH → Res D} (G_put_number : FnD P w K mg base 1 (ad 2) (fd 2) ["number"] c_put_number)
    {c_get_number : List D → AH → Res D} (G_get_number : FnD P w K mg base 2 (ad 3) (fd 3) ["octets", "at"] c_get_number) {c_read_whole : List D → AH → Res D} (G_read_whole : FnD P w K mg base 4 (ad
    16) (fd 16) ["word", "octets"] c_read_whole) {c_put_integer : List D → AH → Res D} (G_put_integer : FnD P w K mg base 2 (ad 4) (fd 4) ["integer"] c_put_integer) :
    FnD P w K mg base 5 (ad 24) (fd 24) ["_law_heap_here"] (m__law_there_and_back c__law_figures c_get_integer c__law_draw c__law_pick c__law_octets c_put_number c_get_number c_read_whole c_put_integer) :=
  have nd := sc__law_there_and_back.nd
FnD.of T.F__law_there_and_back sc__law_there_and_back fun cdv hcd A outer s H E hr gd tk hp => s_cons (s_set (i := 1) nd (d_int)) (s_cons (s_for hp rfl (i_r1 T.z_range (a_cons (d_call G__law_draw
    (hr.mono (by decide)) gd tk T.g__law_draw T.F__law_draw.kp T.b__law_draw (a_cons (d_var 0) (a_cons (d_int) (a_nil)))) (a_nil))) (tg_nm (i := 2) nd) (s_one (s_set (i := 1) nd (d_mulA (d_int) (d_var
    1))))) (s_cons (s_set (i := 3) nd (d_int)) (s_cons (s_set (i := 4) nd (d_min2 T.z_min (a_cons (d_var 3) (a_cons (d_call G__law_pick (hr.mono (by decide)) gd tk T.g__law_pick T.F__law_pick.kp
    T.b__law_pick (a_cons (d_var 0) (a_cons (d_lst (a_cons (d_call G__law_draw (hr.mono (by decide)) gd tk T.g__law_draw T.F__law_draw.kp T.b__law_draw (a_cons (d_var 0) (a_cons (d_int) (a_nil))))
    (a_cons (d_max2 T.z_max (a_cons (d_int) (a_cons (d_sub (d_var 1) (d_int)) (a_nil)))) (a_cons (d_var 1) (a_cons (d_add (d_var 1) (d_int)) (a_cons (d_var 3) (a_cons (d_call G__law_draw (hr.mono
    (by decide)) gd tk T.g__law_draw T.F__law_draw.kp T.b__law_draw (a_cons (d_var 0) (a_cons (d_var 3) (a_nil)))) (a_nil)))))))) (a_nil)))) (a_nil))))) (s_cons (s_par2 (i := 5) (j := 6) rfl nd rfl rfl
    (by decide) rfl rfl (a_cons (d_call G__law_octets (hr.mono (by decide)) gd tk T.g__law_octets T.F__law_octets.kp T.b__law_octets (a_cons (d_var 0) (a_cons (d_call G__law_draw (hr.mono (by decide))
    gd tk T.g__law_draw T.F__law_draw.kp T.b__law_draw (a_cons (d_var 0) (a_cons (d_int) (a_nil)))) (a_nil)))) (a_cons (d_call G__law_octets (hr.mono (by decide)) gd tk T.g__law_octets
    T.F__law_octets.kp T.b__law_octets (a_cons (d_var 0) (a_cons (d_call G__law_draw (hr.mono (by decide)) gd tk T.g__law_draw T.F__law_draw.kp T.b__law_draw (a_cons (d_var 0) (a_cons (d_int)
    (a_nil)))) (a_nil)))) (a_nil))) (by rfl)) (s_cons (s_set (i := 7) nd (d_call G__law_figures (hr.mono (by decide)) gd tk T.g__law_figures T.F__law_figures.kp T.b__law_figures (a_cons (d_var 4)
    (a_nil)))) (s_cons (s_if (PW.pt (w_or (t_ne hr.units (d_repr gd hr.units T.z_repr (a_cons (d_call G_put_number (hr.mono (by decide)) gd tk T.g_put_number T.F_put_number.kp T.b_put_number (a_cons
    (d_var 4) (a_nil))) (a_nil))) (d_repr gd hr.units T.z_repr (a_cons (d_var 7) (a_nil)))) (w_or1 (t_ne hr.units (d_callK0 (ks := ["number"]) (pm := [0]) G_put_number (hr.mono (by decide)) gd tk
    T.g_put_number T.F_put_number.kp T.k_put_number_number (k_cons (d_var 4) (k_nil))) (d_var 7))))) (s_one (s_ret (d_bl))) (s_nil)) (s_cons (s_if (t_ne hr.units (d_repr gd hr.units T.z_repr (a_cons
    (d_call G_get_number (hr.mono (by decide)) gd tk T.g_get_number T.F_get_number.kp T.b_get_number (a_cons (d_add (d_add (d_var 5) (d_var 7)) (d_var 6)) (a_cons (d_len T.z_len (a_cons (d_var 5)
    (a_nil))) (a_nil)))) (a_nil))) (d_repr gd hr.units T.z_repr (a_cons (d_tup (a_cons (d_var 4) (a_cons (d_add (d_len T.z_len (a_cons (d_var 5) (a_nil))) (d_len T.z_len (a_cons (d_var 7) (a_nil))))
    (a_nil)))) (a_nil)))) (s_one (s_ret (d_bl))) (s_nil)) (s_cons (s_if (PW.pt (w_or (t_ne hr.units (d_repr gd hr.units T.z_repr (a_cons (d_call G_read_whole (hr.mono (by decide)) gd tk T.g_read_whole
    T.F_read_whole.kp T.b_read_whole (a_cons (d_str) (a_cons (d_var 7) (a_nil)))) (a_nil))) (d_repr gd hr.units T.z_repr (a_cons (d_var 4) (a_nil)))) (w_or1 (t_ne hr.units (d_callK0 (ks := ["octets",
    "word"]) (pm := [1, 0]) G_read_whole (hr.mono (by decide)) gd tk T.g_read_whole T.F_read_whole.kp T.k_read_whole_octets_word (k_cons (d_var 7) (k_cons (d_str) (k_nil)))) (d_var 4))))) (s_one (s_ret
    (d_bl))) (s_nil)) (s_cons (s_set (i := 8) nd (d_if (t_eq hr.units (d_mod (d_intf T.z_int (a_cons (d_var 4) (a_nil))) (d_int)) (d_int)) (d_div (d_var 4) (d_int)) (d_sub (d_sub (d_int) (d_div (d_var
    4) (d_int))) (d_int)))) (s_cons (s_if (PW.pt (w_or (t_ne hr.units (d_repr gd hr.units T.z_repr (a_cons (d_call G_put_integer (hr.mono (by decide)) gd tk T.g_put_integer T.F_put_integer.kp
    T.b_put_integer (a_cons (d_var 8) (a_nil))) (a_nil))) (d_repr gd hr.units T.z_repr (a_cons (d_var 7) (a_nil)))) (w_or1 (t_ne hr.units (d_callK0 (ks := ["integer"]) (pm := [0]) G_put_integer
    (hr.mono (by decide)) gd tk T.g_put_integer T.F_put_integer.kp T.k_put_integer_integer (k_cons (d_var 8) (k_nil))) (d_var 7))))) (s_one (s_ret (d_bl))) (s_nil)) (s_cons (s_set (i := 9) nd (d_callK0
    (ks := ["at", "octets"]) (pm := [1, 0]) G_get_integer (hr.mono (by decide)) gd tk T.g_get_integer T.F_get_integer.kp T.k_get_integer_at_octets (k_cons (d_len T.z_len (a_cons (d_var 5) (a_nil)))
    (k_cons (d_add (d_add (d_var 5) (d_var 7)) (d_var 6)) (k_nil))))) (s_one (s_ret (d_andV (d_eq hr.units (d_repr gd hr.units T.z_repr (a_cons (d_var 9) (a_nil))) (d_repr gd hr.units T.z_repr (a_cons
    (d_tup (a_cons (d_var 8) (a_cons (d_add (d_len T.z_len (a_cons (d_var 5) (a_nil))) (d_len T.z_len (a_cons (d_var 7) (a_nil)))) (a_nil)))) (a_nil)))) (d_one (d_eq hr.units (d_call G_read_whole
    (hr.mono (by decide)) gd tk T.g_read_whole T.F_read_whole.kp T.b_read_whole (a_cons (d_str) (a_cons (d_var 7) (a_nil)))) (d_var 8)))))))))))))))))
noncomputable def m__law_any_octets (P__law_any_octets : Addr) (c__law_octets : List D → AH → Res D) (c__law_draw : List D → AH → Res D) (c__law_number_at : List D → AH → Res D) (c__law_pick : List D →
    AH → Res D) (c_put_number : List D → AH → Res D) (c_get_number : List D → AH → Res D) (c_get_integer : List D → AH → Res D) (c_read_whole : List D → AH → Res D) : List D → AH → Res D := mFun 7
    (mSeq (mSet 1 (mCallF 2 c__law_octets (mCons (mVar 0) (mCons (mCallF 2 c__law_pick (mCons (mVar 0) (mCons (mLst (mCons (mK (.int 0)) (mCons (mK (.int 1)) (mCons (mK (.int 2)) (mCons (mK (.int 3))
    (mCons (mK (.int 9)) (mCons (mK (.int 10)) (mCons (mK (.int 12)) (mNil))))))))) (mNil)))) (mNil))))) (mSeq (mIfS (mTst (mOp (fEq false) (mCallF 2 c__law_draw (mCons (mVar 0) (mCons (mK (.int 4))
    (mNil)))) (mK (.int 0)))) (mSet 1 (mOp fAdd (mCall fTup (mCons (mLc false (mSq (mVar 1)) (.nm 6) (mYes) (mOp fAdd (mK (.int 128)) (mOp fMod (mCall fInt (mCons (mVar 6) (mNil))) (mK (.int 128))))
    [6]) (mNil))) (mCallF 2 c__law_octets (mCons (mVar 0) (mCons (mK (.int 1)) (mNil)))))) (mNext)) (mSeq (mSet 2 (mCallF 2 c__law_draw (mCons (mVar 0) (mCons (mOp fAdd (mCall fLen (mCons (mVar 1)
    (mNil))) (mK (.int 1))) (mNil))))) (mSeq (mAsg (.tp [.nm 3, .nm 4]) (mCallF 2 c__law_number_at (mCons (mVar 1) (mCons (mVar 2) (mNil))))) (mSeq (mSet 5 (mIf (mTst (mOp (fIsN false) (mVar 3) (mK
    .non))) (mLst (mCons (mK (.str "bytes")) (mCons (mVar 2) (mCons (mK (.bl true)) (mNil))))) (mLst (mCons (mK (.str "told")) (mCons (mTup (mCons (mVar 3) (mCons (mVar 4) (mNil)))) (mNil)))))) (mSeq
    (mIfS (mTst (mOp (fEq true) (mLam 0 P__law_any_octets (lamQ "_law_any_octets") 2 (mb__law_heard) (mCallF 2 c_get_number (mCons (mVar 1) (mCons (mVar 2) (mNil))))) (mVar 5))) (mRet (mK (.bl false)))
    (mNext)) (mSeq (mIfS (mTst (mOp (fEq true) (mLam 0 P__law_any_octets (lamQ "_law_any_octets") 2 (mb__law_heard) (mCallK 0 2 2 [1, 0] c_get_number mNil (mCons (mVar 2) (mCons (mVar 1) (mNil)))))
    (mVar 5))) (mRet (mK (.bl false))) (mNext)) (mSeq (mIfS (mAnd (mTst (mOp (fIsN true) (mVar 3) (mK .non))) (mTst (mOp (fEq true) (mCallF 1 c_put_number (mCons (mVar 3) (mNil))) (mSl (mVar 1) (mSome
    (mVar 2)) (mSome (mVar 4)))))) (mRet (mK (.bl false))) (mNext)) (mSeq (mIfS (mTst (mOp (fIsN true) (mVar 3) (mK .non))) (mSet 5 (mLst (mCons (mK (.str "told")) (mCons (mTup (mCons (mIf (mTst (mOp
    (fEq false) (mOp fMod (mCall fInt (mCons (mVar 3) (mNil))) (mK (.int 2))) (mK (.int 0)))) (mOp fDiv (mVar 3) (mK (.int 2))) (mOp fSub (mK (.int 0)) (mOp fDiv (mOp fAdd (mVar 3) (mK (.int 1))) (mK
    (.int 2))))) (mCons (mVar 4) (mNil)))) (mNil))))) (mNext)) (mSeq (mIfS (mTst (mOp (fEq true) (mLam 0 P__law_any_octets (lamQ "_law_any_octets") 2 (mb__law_heard) (mCallF 2 c_get_integer (mCons
    (mVar 1) (mCons (mVar 2) (mNil))))) (mVar 5))) (mRet (mK (.bl false))) (mNext)) (mSeq (mAsg (.tp [.nm 3, .nm 4]) (mCallF 2 c__law_number_at (mCons (mVar 1) (mCons (mK (.int 0)) (mNil))))) (mSeq
    (mSet 5 (mIf (mAnd (mTst (mOp (fIsN true) (mVar 3) (mK .non))) (mTst (mOp (fEq false) (mVar 4) (mCall fLen (mCons (mVar 1) (mNil)))))) (mLst (mCons (mK (.str "told")) (mCons (mVar 3) (mNil))))
    (mLst (mCons (mK (.str "bytes")) (mCons (mVar 4) (mCons (mK (.bl true)) (mNil))))))) (mRet (mOp (fEq false) (mLam 0 P__law_any_octets (lamQ "_law_any_octets") 2 (mb__law_heard) (mCallF 2
    c_read_whole (mCons (mK (.str "number")) (mCons (mVar 1) (mNil))))) (mVar 5)))))))))))))))
theorem w__law_any_octets {P : Program} {w : World} {K : PySem.W.Frag} {mg : Str → Option Value} {base : Heap} {ad : Nat → Addr} {fd : Nat → FuncData} {tb : Nat → Addr × Addr} (T : Tx P w K mg ad fd
    tb) {c__law_octets : List D → AH → Res D} (G__law_octets : FnD P w K mg base 3 (ad 22) (fd 22) ["_law_heap_here", "_law_many"] c__law_octets) {c__law_draw : List D → AH → Res D} (G__law_draw : FnD
    P w K mg base 1 (ad 18) (fd 18) ["_law_heap_here", "_law_many"] c__law_draw) {c__law_number_at : List D → AH → Res D} (G__law_number_at : FnD P w K mg base 1 (ad 20) (fd 20) ["_law_octets_here",
    "_law_at"] c__law_number_at) {c__law_pick : List D → AH → Res D} (G__law_pick : FnD P w K mg base 2 (ad 19) (fd 19) ["_law_heap_here", "_law_some"] c__law_pick) {c_put_number : List D → AH → Res D}
    (G_put_number : FnD P w K mg base 1 (ad 2) (fd 2) ["number"] c_put_number) {c_get_number : List D → AH → Res D} (G_get_number : FnD P w K mg base 2 (ad 3) (fd 3) ["octets", "at"] c_get_number)
    {c_get_integer : List D → AH → Res D} (G_get_integer : FnD P w K mg base 3 (ad 5) (fd 5) ["octets", "at"] c_get_integer) {c_read_whole : List D → AH → Res D} (G_read_whole : FnD P w K mg base 4 (ad
    16) (fd 16) ["word", "octets"] c_read_whole) (tb__law_any_octets : LamX.TabB base mg (tb 0).1 (tb 0).2) :
    FnD P w K mg base 7 (ad 25) (fd 25) ["_law_heap_here"] (m__law_any_octets (tb 0).2 c__law_octets c__law_draw c__law_number_at c__law_pick c_put_number c_get_number c_get_integer c_read_whole) :=
  have nd := sc__law_any_octets.nd
FnD.of T.F__law_any_octets sc__law_any_octets fun cdv hcd A outer s H E hr gd tk hp => s_cons (s_set (i := 1) nd (d_call G__law_octets (hr.mono (by decide)) gd tk T.g__law_octets T.F__law_octets.kp
    T.b__law_octets (a_cons (d_var 0) (a_cons (d_call G__law_pick (hr.mono (by decide)) gd tk T.g__law_pick T.F__law_pick.kp T.b__law_pick (a_cons (d_var 0) (a_cons (d_lst (a_cons (d_int) (a_cons
    (d_int) (a_cons (d_int) (a_cons (d_int) (a_cons (d_int) (a_cons (d_int) (a_cons (d_int) (a_nil))))))))) (a_nil)))) (a_nil))))) (s_cons (s_if (t_eq hr.units (d_call G__law_draw (hr.mono (by decide))
    gd tk T.g__law_draw T.F__law_draw.kp T.b__law_draw (a_cons (d_var 0) (a_cons (d_int) (a_nil)))) (d_int)) (s_one (s_set (i := 1) nd (d_add (d_tuple T.z_tuple (a_cons (d_lc (t := .nm 6) false
    [("_law_octet", 6)] rfl nd (i_sq (d_var 1)) (blkOk_by (N := nm__law_any_octets) (sc := defScope x__law_any_octets) (by decide +kernel)) (fun _ _ _ _ _ => tg_nm (i := 6) nd) (fun _ _ _ _ _ => l_nil)
    (fun _ _ _ _ _ => d_add (d_int) (d_mod (d_intf T.z_int (a_cons (d_var 6) (a_nil))) (d_int))) (sl := [6]) (by decide)) (a_nil))) (d_call G__law_octets (hr.mono (by decide)) gd tk T.g__law_octets
    T.F__law_octets.kp T.b__law_octets (a_cons (d_var 0) (a_cons (d_int) (a_nil))))))) (s_nil)) (s_cons (s_set (i := 2) nd (d_call G__law_draw (hr.mono (by decide)) gd tk T.g__law_draw T.F__law_draw.kp
    T.b__law_draw (a_cons (d_var 0) (a_cons (d_add (d_len T.z_len (a_cons (d_var 1) (a_nil))) (d_int)) (a_nil))))) (s_cons (s_asg (t := .tp [.nm 3, .nm 4]) (d_call G__law_number_at (hr.mono
    (by decide)) gd tk T.g__law_number_at T.F__law_number_at.kp T.b__law_number_at (a_cons (d_var 1) (a_cons (d_var 2) (a_nil)))) (tg_tp (ts := [.nm 3, .nm 4]) rfl (tgs_cons (tg_nm (i := 3) nd)
    (tgs_cons (tg_nm (i := 4) nd) (tgs_nil))))) (s_cons (s_set (i := 5) nd (d_if (t_is (d_var 3) (d_non)) (d_lst (a_cons (d_str) (a_cons (d_var 2) (a_cons (d_bl) (a_nil))))) (d_lst (a_cons (d_str)
    (a_cons (d_tup (a_cons (d_var 3) (a_cons (d_var 4) (a_nil)))) (a_nil)))))) (s_cons (s_if (t_ne hr.units (d_lam (k := 2) T.F__law_heard T.g__law_heard T.F__law_heard.kp T.b__law_heard sc__law_heard
    (hr.mono (by decide)) gd tk (fun cdv s H E mw tk hr work => wb__law_heard T  cdv _ _ s H E mw tk (hr.mono (by decide)) gd work) tb__law_any_octets (hcd.symm.trans T.o__law_any_octets) (LamX.lamS_by
    (sc := defScope x__law_any_octets) (by decide +kernel)) rfl (fun _ _ _ _ _ => rfl) (fun A outer s H E f c hr gd tk => d_call G_get_number (hr.mono (by decide)) gd tk T.g_get_number
    T.F_get_number.kp T.b_get_number (a_cons (d_var 1) (a_cons (d_var 2) (a_nil)))) rfl (.inl rfl) rfl) (d_var 5)) (s_one (s_ret (d_bl))) (s_nil)) (s_cons (s_if (t_ne hr.units (d_lam (k := 2)
    T.F__law_heard T.g__law_heard T.F__law_heard.kp T.b__law_heard sc__law_heard (hr.mono (by decide)) gd tk (fun cdv s H E mw tk hr work => wb__law_heard T  cdv _ _ s H E mw tk (hr.mono (by decide))
    gd work) tb__law_any_octets (hcd.symm.trans T.o__law_any_octets) (LamX.lamS_by (sc := defScope x__law_any_octets) (by decide +kernel)) rfl (fun _ _ _ _ _ => rfl) (fun A outer s H E f c hr gd tk =>
    d_callK0 (ks := ["at", "octets"]) (pm := [1, 0]) G_get_number (hr.mono (by decide)) gd tk T.g_get_number T.F_get_number.kp T.k_get_number_at_octets (k_cons (d_var 2) (k_cons (d_var 1) (k_nil))))
    rfl (.inl rfl) rfl) (d_var 5)) (s_one (s_ret (d_bl))) (s_nil)) (s_cons (s_if (PW.pt (w_and (t_isnt (d_var 3) (d_non)) (w_and1 (t_ne hr.units (d_call G_put_number (hr.mono (by decide)) gd tk
    T.g_put_number T.F_put_number.kp T.b_put_number (a_cons (d_var 3) (a_nil))) (d_sl (d_var 1) (o_some (d_var 2)) (o_some (d_var 4))))))) (s_one (s_ret (d_bl))) (s_nil)) (s_cons (s_if (t_isnt (d_var
    3) (d_non)) (s_one (s_set (i := 5) nd (d_lst (a_cons (d_str) (a_cons (d_tup (a_cons (d_if (t_eq hr.units (d_mod (d_intf T.z_int (a_cons (d_var 3) (a_nil))) (d_int)) (d_int)) (d_div (d_var 3)
    (d_int)) (d_sub (d_int) (d_div (d_add (d_var 3) (d_int)) (d_int)))) (a_cons (d_var 4) (a_nil)))) (a_nil)))))) (s_nil)) (s_cons (s_if (t_ne hr.units (d_lam (k := 3) T.F__law_heard T.g__law_heard
    T.F__law_heard.kp T.b__law_heard sc__law_heard (hr.mono (by decide)) gd tk (fun cdv s H E mw tk hr work => wb__law_heard T  cdv _ _ s H E mw tk (hr.mono (by decide)) gd work) tb__law_any_octets
    (hcd.symm.trans T.o__law_any_octets) (LamX.lamS_by (sc := defScope x__law_any_octets) (by decide +kernel)) rfl (fun _ _ _ _ _ => rfl) (fun A outer s H E f c hr gd tk => d_call G_get_integer
    (hr.mono (by decide)) gd tk T.g_get_integer T.F_get_integer.kp T.b_get_integer (a_cons (d_var 1) (a_cons (d_var 2) (a_nil)))) rfl (.inl rfl) rfl) (d_var 5)) (s_one (s_ret (d_bl))) (s_nil)) (s_cons
    (s_asg (t := .tp [.nm 3, .nm 4]) (d_call G__law_number_at (hr.mono (by decide)) gd tk T.g__law_number_at T.F__law_number_at.kp T.b__law_number_at (a_cons (d_var 1) (a_cons (d_int) (a_nil)))) (tg_tp
    (ts := [.nm 3, .nm 4]) rfl (tgs_cons (tg_nm (i := 3) nd) (tgs_cons (tg_nm (i := 4) nd) (tgs_nil))))) (s_cons (s_set (i := 5) nd (d_if (PW.pt (w_and (t_isnt (d_var 3) (d_non)) (w_and1 (t_eq hr.units
    (d_var 4) (d_len T.z_len (a_cons (d_var 1) (a_nil))))))) (d_lst (a_cons (d_str) (a_cons (d_var 3) (a_nil)))) (d_lst (a_cons (d_str) (a_cons (d_var 4) (a_cons (d_bl) (a_nil))))))) (s_one (s_ret
    (d_eq hr.units (d_lam (k := 4) T.F__law_heard T.g__law_heard T.F__law_heard.kp T.b__law_heard sc__law_heard (hr.mono (by decide)) gd tk (fun cdv s H E mw tk hr work => wb__law_heard T  cdv _ _ s H
    E mw tk (hr.mono (by decide)) gd work) tb__law_any_octets (hcd.symm.trans T.o__law_any_octets) (LamX.lamS_by (sc := defScope x__law_any_octets) (by decide +kernel)) rfl (fun _ _ _ _ _ => rfl) (fun
    A outer s H E f c hr gd tk => d_call G_read_whole (hr.mono (by decide)) gd tk T.g_read_whole T.F_read_whole.kp T.b_read_whole (a_cons (d_str) (a_cons (d_var 1) (a_nil)))) rfl (.inl rfl) rfl) (d_var
    5)))))))))))))))
noncomputable def m_law (P_law : Addr) (c__law_heap : List D → AH → Res D) (c__law_pick : List D → AH → Res D) (c__law_there_and_back : List D → AH → Res D) (c__law_any_octets : List D → AH → Res D)
    (c_read_whole : List D → AH → Res D) : List D → AH → Res D := mFun 4 (mSeq (mSet 1 (mCallF 2 c__law_heap (mCons (mVar 0) (mCons (mK (.int 2)) (mNil))))) (mSeq (mFor (mR1 (mCons (mK (.int 8))
    (mNil))) (.nm 2) (mIfS (mOr (mNot (mTst (mCallF 1 c__law_there_and_back (mCons (mVar 1) (mNil))))) (mOr (mNot (mTst (mCallF 1 c__law_any_octets (mCons (mVar 1) (mNil))))) (mNot (mTst (mCallF 1
    c__law_any_octets (mCons (mVar 1) (mNil))))))) (mRet (mK (.bl false))) (mNext))) (mSeq (mSet 3 (mCallF 2 c__law_pick (mCons (mVar 1) (mCons (mLst (mCons (mK (.str "numbr")) (mCons (mK (.str ""))
    (mCons (mK .non) (mCons (mK (.int 0)) (mCons (mK (.str "Number")) (mCons (mTup (mCons (mK (.str "number")) (mNil))) (mCons (mLst (mCons (mK (.str "number")) (mNil))) (mCons (mK (.bl true)) (mCons
    (mK (.str "number ")) (mCons (mK (.str "frame")) (mNil)))))))))))) (mNil))))) (mRet (mOp (fEq false) (mLam 1 P_law (lamQ "law") 2 (mb__law_heard) (mCallF 2 c_read_whole (mCons (mVar 3) (mCons (mTup
    (mCons (mK (.int 0)) (mNil))) (mNil))))) (mLst (mCons (mK (.str "name")) (mCons (mVar 3) (mCons (mK (.bl true)) (mNil))))))))))
theorem w_law {P : Program} {w : World} {K : PySem.W.Frag} {mg : Str → Option Value} {base : Heap} {ad : Nat → Addr} {fd : Nat → FuncData} {tb : Nat → Addr × Addr} (T : Tx P w K mg ad fd tb)
    {c__law_heap : List D → AH → Res D} (G__law_heap : FnD P w K mg base 1 (ad 17) (fd 17) ["_law_script", "_law_base"] c__law_heap) {c__law_pick : List D → AH → Res D} (G__law_pick : FnD P w K mg base
    2 (ad 19) (fd 19) ["_law_heap_here", "_law_some"] c__law_pick) {c__law_there_and_back : List D → AH → Res D} (G__law_there_and_back : FnD P w K mg base 5 (ad 24) (fd 24) ["_law_heap_here"]
    c__law_there_and_back) {c__law_any_octets : List D → AH → Res D} (G__law_any_octets : FnD P w K mg base 7 (ad 25) (fd 25) ["_law_heap_here"] c__law_any_octets) {c_read_whole : List D → AH → Res D}
    (G_read_whole : FnD P w K mg base 4 (ad 16) (fd 16) ["word", "octets"] c_read_whole) (tb_law : LamX.TabB base mg (tb 1).1 (tb 1).2) :
    FnD P w K mg base 8 (ad 26) (fd 26) ["_law_script"] (m_law (tb 1).2 c__law_heap c__law_pick c__law_there_and_back c__law_any_octets c_read_whole) :=
  have nd := sc_law.nd
FnD.of T.F_law sc_law fun cdv hcd A outer s H E hr gd tk hp => s_cons (s_set (i := 1) nd (d_call G__law_heap (hr.mono (by decide)) gd tk T.g__law_heap T.F__law_heap.kp T.b__law_heap (a_cons (d_var 0)
    (a_cons (d_int) (a_nil))))) (s_cons (s_for hp rfl (i_r1 T.z_range (a_cons (d_int) (a_nil))) (tg_nm (i := 2) nd) (s_one (s_if (PW.pt (w_or (t_not (t_val (d_call G__law_there_and_back (hr.mono
    (by decide)) gd tk T.g__law_there_and_back T.F__law_there_and_back.kp T.b__law_there_and_back (a_cons (d_var 1) (a_nil))))) (w_or (t_not (t_val (d_call G__law_any_octets (hr.mono (by decide)) gd tk
    T.g__law_any_octets T.F__law_any_octets.kp T.b__law_any_octets (a_cons (d_var 1) (a_nil))))) (w_or1 (t_not (t_val (d_call G__law_any_octets (hr.mono (by decide)) gd tk T.g__law_any_octets
    T.F__law_any_octets.kp T.b__law_any_octets (a_cons (d_var 1) (a_nil))))))))) (s_one (s_ret (d_bl))) (s_nil)))) (s_cons (s_set (i := 3) nd (d_call G__law_pick (hr.mono (by decide)) gd tk
    T.g__law_pick T.F__law_pick.kp T.b__law_pick (a_cons (d_var 1) (a_cons (d_lst (a_cons (d_str) (a_cons (d_str) (a_cons (d_non) (a_cons (d_int) (a_cons (d_str) (a_cons (d_tup (a_cons (d_str)
    (a_nil))) (a_cons (d_lst (a_cons (d_str) (a_nil))) (a_cons (d_bl) (a_cons (d_str) (a_cons (d_str) (a_nil)))))))))))) (a_nil))))) (s_one (s_ret (d_eq hr.units (d_lam (k := 4) T.F__law_heard
    T.g__law_heard T.F__law_heard.kp T.b__law_heard sc__law_heard (hr.mono (by decide)) gd tk (fun cdv s H E mw tk hr work => wb__law_heard T  cdv _ _ s H E mw tk (hr.mono (by decide)) gd work) tb_law
    (hcd.symm.trans T.o_law) (LamX.lamS_by (sc := defScope x_law) (by decide +kernel)) rfl (fun _ _ _ _ _ => rfl) (fun A outer s H E f c hr gd tk => d_call G_read_whole (hr.mono (by decide)) gd tk
    T.g_read_whole T.F_read_whole.kp T.b_read_whole (a_cons (d_var 3) (a_cons (d_tup (a_cons (d_int) (a_nil))) (a_nil)))) rfl (.inl rfl) rfl) (d_lst (a_cons (d_str) (a_cons (d_var 3) (a_cons (d_bl)
    (a_nil))))))))))
/-! ### the facts, gathered -/
theorem tx_mk {P : Program} {w : World} {K : PySem.W.Frag} {h : Heap} {mg : Str → Option Value} (X : K.In h) (G : h.Ns mainGlobals mg) {f0 f1 f2 f3 f4 f5 f6 f7 f8 f9 f10 f11 f12 f13 f14 f15 f16 f17 f18 f19 f20 f21 f22 f23 f24 f25 f26 f27 f28 f29 f31 f32 : Addr} {P0 P1 : Addr}
    {oc0 kV0 dc0 pm0 cd0 ct0 : Value} {od0 an0 : Option Addr} {sl0 : Array (Option Value)}
    (a0 : PySem.W.nsIn K mainGlobals "is_text" = some (some (.ref f0)))
    (l0 : K.lookup f0 = some ⟨oc0, od0, .func (PySem.W.fnOf "is_text" "is_text" (defArgs x_is_text) (defBody x_is_text) (defScope x_is_text) .none kV0 dc0 pm0 an0 cd0 ct0), sl0⟩)
    (c0 : PySem.W.codeIn K cd0 "is_text" = true)
    (k0 : PySem.W.keepIn K (.ref f0) = true)
    {oc1 kV1 dc1 pm1 cd1 ct1 : Value} {od1 an1 : Option Addr} {sl1 : Array (Option Value)}
    (a1 : PySem.W.nsIn K mainGlobals "octet_at" = some (some (.ref f1)))
    (l1 : K.lookup f1 = some ⟨oc1, od1, .func (PySem.W.fnOf "octet_at" "octet_at" (defArgs x_octet_at) (defBody x_octet_at) (defScope x_octet_at) .none kV1 dc1 pm1 an1 cd1 ct1), sl1⟩)
    (c1 : PySem.W.codeIn K cd1 "octet_at" = true)
    (k1 : PySem.W.keepIn K (.ref f1) = true)
    {oc2 kV2 dc2 pm2 cd2 ct2 : Value} {od2 an2 : Option Addr} {sl2 : Array (Option Value)}
    (a2 : PySem.W.nsIn K mainGlobals "put_number" = some (some (.ref f2)))
    (l2 : K.lookup f2 = some ⟨oc2, od2, .func (PySem.W.fnOf "put_number" "put_number" (defArgs x_put_number) (defBody x_put_number) (defScope x_put_number) .none kV2 dc2 pm2 an2 cd2 ct2), sl2⟩)
    (c2 : PySem.W.codeIn K cd2 "put_number" = true)
    (k2 : PySem.W.keepIn K (.ref f2) = true)
    {oc3 kV3 dc3 pm3 cd3 ct3 : Value} {od3 an3 : Option Addr} {sl3 : Array (Option Value)}
    (a3 : PySem.W.nsIn K mainGlobals "get_number" = some (some (.ref f3)))
    (l3 : K.lookup f3 = some ⟨oc3, od3, .func (PySem.W.fnOf "get_number" "get_number" (defArgs x_get_number) (defBody x_get_number) (defScope x_get_number) .none kV3 dc3 pm3 an3 cd3 ct3), sl3⟩)
    (c3 : PySem.W.codeIn K cd3 "get_number" = true)
    (k3 : PySem.W.keepIn K (.ref f3) = true)
    {oc4 kV4 dc4 pm4 cd4 ct4 : Value} {od4 an4 : Option Addr} {sl4 : Array (Option Value)}
    (a4 : PySem.W.nsIn K mainGlobals "put_integer" = some (some (.ref f4)))
    (l4 : K.lookup f4 = some ⟨oc4, od4, .func (PySem.W.fnOf "put_integer" "put_integer" (defArgs x_put_integer) (defBody x_put_integer) (defScope x_put_integer) .none kV4 dc4 pm4 an4 cd4 ct4), sl4⟩)
    (c4 : PySem.W.codeIn K cd4 "put_integer" = true)
    (k4 : PySem.W.keepIn K (.ref f4) = true)
    {oc5 kV5 dc5 pm5 cd5 ct5 : Value} {od5 an5 : Option Addr} {sl5 : Array (Option Value)}
    (a5 : PySem.W.nsIn K mainGlobals "get_integer" = some (some (.ref f5)))
    (l5 : K.lookup f5 = some ⟨oc5, od5, .func (PySem.W.fnOf "get_integer" "get_integer" (defArgs x_get_integer) (defBody x_get_integer) (defScope x_get_integer) .none kV5 dc5 pm5 an5 cd5 ct5), sl5⟩)
    (c5 : PySem.W.codeIn K cd5 "get_integer" = true)
    (k5 : PySem.W.keepIn K (.ref f5) = true)
    {oc6 kV6 dc6 pm6 cd6 ct6 : Value} {od6 an6 : Option Addr} {sl6 : Array (Option Value)}
    (a6 : PySem.W.nsIn K mainGlobals "get_numbers" = some (some (.ref f6)))
    (l6 : K.lookup f6 = some ⟨oc6, od6, .func (PySem.W.fnOf "get_numbers" "get_numbers" (defArgs x_get_numbers) (defBody x_get_numbers) (defScope x_get_numbers) .none kV6 dc6 pm6 an6 cd6 ct6), sl6⟩)
    (c6 : PySem.W.codeIn K cd6 "get_numbers" = true)
    (k6 : PySem.W.keepIn K (.ref f6) = true)
    {oc7 kV7 dc7 pm7 cd7 ct7 : Value} {od7 an7 : Option Addr} {sl7 : Array (Option Value)}
    (a7 : PySem.W.nsIn K mainGlobals "signs_by_octets" = some (some (.ref f7)))
    (l7 : K.lookup f7 = some ⟨oc7, od7, .func (PySem.W.fnOf "signs_by_octets" "signs_by_octets" (defArgs x_signs_by_octets) (defBody x_signs_by_octets) (defScope x_signs_by_octets) .none kV7 dc7 pm7 an7 cd7 ct7), sl7⟩)
    (c7 : PySem.W.codeIn K cd7 "signs_by_octets" = true)
    (k7 : PySem.W.keepIn K (.ref f7) = true)
    {oc8 kV8 dc8 pm8 cd8 ct8 : Value} {od8 an8 : Option Addr} {sl8 : Array (Option Value)}
    (a8 : PySem.W.nsIn K mainGlobals "get_key" = some (some (.ref f8)))
    (l8 : K.lookup f8 = some ⟨oc8, od8, .func (PySem.W.fnOf "get_key" "get_key" (defArgs x_get_key) (defBody x_get_key) (defScope x_get_key) .none kV8 dc8 pm8 an8 cd8 ct8), sl8⟩)
    (c8 : PySem.W.codeIn K cd8 "get_key" = true)
    (k8 : PySem.W.keepIn K (.ref f8) = true)
    {oc9 kV9 dc9 pm9 cd9 ct9 : Value} {od9 an9 : Option Addr} {sl9 : Array (Option Value)}
    (a9 : PySem.W.nsIn K mainGlobals "get_text" = some (some (.ref f9)))
    (l9 : K.lookup f9 = some ⟨oc9, od9, .func (PySem.W.fnOf "get_text" "get_text" (defArgs x_get_text) (defBody x_get_text) (defScope x_get_text) .none kV9 dc9 pm9 an9 cd9 ct9), sl9⟩)
    (c9 : PySem.W.codeIn K cd9 "get_text" = true)
    (k9 : PySem.W.keepIn K (.ref f9) = true)
    {oc10 kV10 dc10 pm10 cd10 ct10 : Value} {od10 an10 : Option Addr} {sl10 : Array (Option Value)}
    (a10 : PySem.W.nsIn K mainGlobals "get_value" = some (some (.ref f10)))
    (l10 : K.lookup f10 = some ⟨oc10, od10, .func (PySem.W.fnOf "get_value" "get_value" (defArgs x_get_value) (defBody x_get_value) (defScope x_get_value) .none kV10 dc10 pm10 an10 cd10 ct10), sl10⟩)
    (c10 : PySem.W.codeIn K cd10 "get_value" = true)
    (k10 : PySem.W.keepIn K (.ref f10) = true)
    {oc11 kV11 dc11 pm11 cd11 ct11 : Value} {od11 an11 : Option Addr} {sl11 : Array (Option Value)}
    (a11 : PySem.W.nsIn K mainGlobals "get_pairs" = some (some (.ref f11)))
    (l11 : K.lookup f11 = some ⟨oc11, od11, .func (PySem.W.fnOf "get_pairs" "get_pairs" (defArgs x_get_pairs) (defBody x_get_pairs) (defScope x_get_pairs) .none kV11 dc11 pm11 an11 cd11 ct11), sl11⟩)
    (c11 : PySem.W.codeIn K cd11 "get_pairs" = true)
    (k11 : PySem.W.keepIn K (.ref f11) = true)
    {oc12 kV12 dc12 pm12 cd12 ct12 : Value} {od12 an12 : Option Addr} {sl12 : Array (Option Value)}
    (a12 : PySem.W.nsIn K mainGlobals "get_writes" = some (some (.ref f12)))
    (l12 : K.lookup f12 = some ⟨oc12, od12, .func (PySem.W.fnOf "get_writes" "get_writes" (defArgs x_get_writes) (defBody x_get_writes) (defScope x_get_writes) .none kV12 dc12 pm12 an12 cd12 ct12), sl12⟩)
    (c12 : PySem.W.codeIn K cd12 "get_writes" = true)
    (k12 : PySem.W.keepIn K (.ref f12) = true)
    {oc13 kV13 dc13 pm13 cd13 ct13 : Value} {od13 an13 : Option Addr} {sl13 : Array (Option Value)}
    (a13 : PySem.W.nsIn K mainGlobals "get_entries" = some (some (.ref f13)))
    (l13 : K.lookup f13 = some ⟨oc13, od13, .func (PySem.W.fnOf "get_entries" "get_entries" (defArgs x_get_entries) (defBody x_get_entries) (defScope x_get_entries) .none kV13 dc13 pm13 an13 cd13 ct13), sl13⟩)
    (c13 : PySem.W.codeIn K cd13 "get_entries" = true)
    (k13 : PySem.W.keepIn K (.ref f13) = true)
    {oc14 kV14 dc14 pm14 cd14 ct14 : Value} {od14 an14 : Option Addr} {sl14 : Array (Option Value)}
    (a14 : PySem.W.nsIn K mainGlobals "get_bound" = some (some (.ref f14)))
    (l14 : K.lookup f14 = some ⟨oc14, od14, .func (PySem.W.fnOf "get_bound" "get_bound" (defArgs x_get_bound) (defBody x_get_bound) (defScope x_get_bound) .none kV14 dc14 pm14 an14 cd14 ct14), sl14⟩)
    (c14 : PySem.W.codeIn K cd14 "get_bound" = true)
    (k14 : PySem.W.keepIn K (.ref f14) = true)
    {oc15 kV15 dc15 pm15 cd15 ct15 : Value} {od15 an15 : Option Addr} {sl15 : Array (Option Value)}
    (a15 : PySem.W.nsIn K mainGlobals "get_range" = some (some (.ref f15)))
    (l15 : K.lookup f15 = some ⟨oc15, od15, .func (PySem.W.fnOf "get_range" "get_range" (defArgs x_get_range) (defBody x_get_range) (defScope x_get_range) .none kV15 dc15 pm15 an15 cd15 ct15), sl15⟩)
    (c15 : PySem.W.codeIn K cd15 "get_range" = true)
    (k15 : PySem.W.keepIn K (.ref f15) = true)
    {oc16 kV16 dc16 pm16 cd16 ct16 : Value} {od16 an16 : Option Addr} {sl16 : Array (Option Value)}
    (a16 : PySem.W.nsIn K mainGlobals "read_whole" = some (some (.ref f16)))
    (l16 : K.lookup f16 = some ⟨oc16, od16, .func (PySem.W.fnOf "read_whole" "read_whole" (defArgs x_read_whole) (defBody x_read_whole) (defScope x_read_whole) .none kV16 dc16 pm16 an16 cd16 ct16), sl16⟩)
    (c16 : PySem.W.codeIn K cd16 "read_whole" = true)
    (k16 : PySem.W.keepIn K (.ref f16) = true)
    {oc17 kV17 dc17 pm17 cd17 ct17 : Value} {od17 an17 : Option Addr} {sl17 : Array (Option Value)}
    (a17 : PySem.W.nsIn K mainGlobals "_law_heap" = some (some (.ref f17)))
    (l17 : K.lookup f17 = some ⟨oc17, od17, .func (PySem.W.fnOf "_law_heap" "_law_heap" (defArgs x__law_heap) (defBody x__law_heap) (defScope x__law_heap) .none kV17 dc17 pm17 an17 cd17 ct17), sl17⟩)
    (c17 : PySem.W.codeIn K cd17 "_law_heap" = true)
    (k17 : PySem.W.keepIn K (.ref f17) = true)
    {oc18 kV18 dc18 pm18 cd18 ct18 : Value} {od18 an18 : Option Addr} {sl18 : Array (Option Value)}
    (a18 : PySem.W.nsIn K mainGlobals "_law_draw" = some (some (.ref f18)))
    (l18 : K.lookup f18 = some ⟨oc18, od18, .func (PySem.W.fnOf "_law_draw" "_law_draw" (defArgs x__law_draw) (defBody x__law_draw) (defScope x__law_draw) .none kV18 dc18 pm18 an18 cd18 ct18), sl18⟩)
    (c18 : PySem.W.codeIn K cd18 "_law_draw" = true)
    (k18 : PySem.W.keepIn K (.ref f18) = true)
    {oc19 kV19 dc19 pm19 cd19 ct19 : Value} {od19 an19 : Option Addr} {sl19 : Array (Option Value)}
    (a19 : PySem.W.nsIn K mainGlobals "_law_pick" = some (some (.ref f19)))
    (l19 : K.lookup f19 = some ⟨oc19, od19, .func (PySem.W.fnOf "_law_pick" "_law_pick" (defArgs x__law_pick) (defBody x__law_pick) (defScope x__law_pick) .none kV19 dc19 pm19 an19 cd19 ct19), sl19⟩)
    (c19 : PySem.W.codeIn K cd19 "_law_pick" = true)
    (k19 : PySem.W.keepIn K (.ref f19) = true)
    {oc20 kV20 dc20 pm20 cd20 ct20 : Value} {od20 an20 : Option Addr} {sl20 : Array (Option Value)}
    (a20 : PySem.W.nsIn K mainGlobals "_law_number_at" = some (some (.ref f20)))
    (l20 : K.lookup f20 = some ⟨oc20, od20, .func (PySem.W.fnOf "_law_number_at" "_law_number_at" (defArgs x__law_number_at) (defBody x__law_number_at) (defScope x__law_number_at) .none kV20 dc20 pm20 an20 cd20 ct20), sl20⟩)
    (c20 : PySem.W.codeIn K cd20 "_law_number_at" = true)
    (k20 : PySem.W.keepIn K (.ref f20) = true)
    {oc21 kV21 dc21 pm21 cd21 ct21 : Value} {od21 an21 : Option Addr} {sl21 : Array (Option Value)}
    (a21 : PySem.W.nsIn K mainGlobals "_law_heard" = some (some (.ref f21)))
    (l21 : K.lookup f21 = some ⟨oc21, od21, .func (PySem.W.fnOf "_law_heard" "_law_heard" (defArgs x__law_heard) (defBody x__law_heard) (defScope x__law_heard) .none kV21 dc21 pm21 an21 cd21 ct21), sl21⟩)
    (c21 : PySem.W.codeIn K cd21 "_law_heard" = true)
    (k21 : PySem.W.keepIn K (.ref f21) = true)
    {oc22 kV22 dc22 pm22 cd22 ct22 : Value} {od22 an22 : Option Addr} {sl22 : Array (Option Value)}
    (a22 : PySem.W.nsIn K mainGlobals "_law_octets" = some (some (.ref f22)))
    (l22 : K.lookup f22 = some ⟨oc22, od22, .func (PySem.W.fnOf "_law_octets" "_law_octets" (defArgs x__law_octets) (defBody x__law_octets) (defScope x__law_octets) .none kV22 dc22 pm22 an22 cd22 ct22), sl22⟩)
    (c22 : PySem.W.codeIn K cd22 "_law_octets" = true)
    (k22 : PySem.W.keepIn K (.ref f22) = true)
    {oc23 kV23 dc23 pm23 cd23 ct23 : Value} {od23 an23 : Option Addr} {sl23 : Array (Option Value)}
    (a23 : PySem.W.nsIn K mainGlobals "_law_figures" = some (some (.ref f23)))
    (l23 : K.lookup f23 = some ⟨oc23, od23, .func (PySem.W.fnOf "_law_figures" "_law_figures" (defArgs x__law_figures) (defBody x__law_figures) (defScope x__law_figures) .none kV23 dc23 pm23 an23 cd23 ct23), sl23⟩)
    (c23 : PySem.W.codeIn K cd23 "_law_figures" = true)
    (k23 : PySem.W.keepIn K (.ref f23) = true)
    {oc24 kV24 dc24 pm24 cd24 ct24 : Value} {od24 an24 : Option Addr} {sl24 : Array (Option Value)}
    (a24 : PySem.W.nsIn K mainGlobals "_law_there_and_back" = some (some (.ref f24)))
    (l24 : K.lookup f24 = some ⟨oc24, od24, .func (PySem.W.fnOf "_law_there_and_back" "_law_there_and_back" (defArgs x__law_there_and_back) (defBody x__law_there_and_back) (defScope x__law_there_and_back) .none kV24 dc24 pm24 an24 cd24 ct24), sl24⟩)
    (c24 : PySem.W.codeIn K cd24 "_law_there_and_back" = true)
    (k24 : PySem.W.keepIn K (.ref f24) = true)
    {oc25 kV25 dc25 pm25 ct25 : Value} {od25 an25 : Option Addr} {sl25 : Array (Option Value)} {cc25 : Addr}
    (a25 : PySem.W.nsIn K mainGlobals "_law_any_octets" = some (some (.ref f25)))
    (l25 : K.lookup f25 = some ⟨oc25, od25, .func (PySem.W.fnOf "_law_any_octets" "_law_any_octets" (defArgs x__law_any_octets) (defBody x__law_any_octets) (defScope x__law_any_octets) .none kV25 dc25 pm25 an25 (.ref cc25) ct25), sl25⟩)
    (c25 : PySem.W.codeIn K (.ref cc25) "_law_any_octets" = true)
    (k25 : PySem.W.keepIn K (.ref f25) = true)
    {oc26 kV26 dc26 pm26 ct26 : Value} {od26 an26 : Option Addr} {sl26 : Array (Option Value)} {cc26 : Addr}
    (a26 : PySem.W.nsIn K mainGlobals "law" = some (some (.ref f26)))
    (l26 : K.lookup f26 = some ⟨oc26, od26, .func (PySem.W.fnOf "law" "law" (defArgs x_law) (defBody x_law) (defScope x_law) .none kV26 dc26 pm26 an26 (.ref cc26) ct26), sl26⟩)
    (c26 : PySem.W.codeIn K (.ref cc26) "law" = true)
    (k26 : PySem.W.keepIn K (.ref f26) = true)
    (sp : PySem.W.specialIn K (.builtin "object.__class__") "__get__" = some (some (.builtin "getset_descriptor.__get__")))
    (tp : PySem.W.takesIn K (.builtin "object.__class__") = some true)
    (tq : PySem.W.nsIn K cStatics "thirdparty.any" = some none)
    (tr : (P.main.scope.names.lookup ("super" : Str)).isSome = false)
    (ea27 : PySem.W.nsIn K mainGlobals "StoreError" = some (some (.ref f27)))
    (eb27 : PySem.W.findIn K (.ref f27) "__getattribute__" = some (some (.builtin "BaseException.__getattribute__")))
    (ec27 : PySem.W.findIn K (.ref f27) "__getattr__" = some none)
    (ed27 : PySem.W.subIn K (.ref f27) (.type "BaseException") = some true)
    (ee27 : PySem.W.hasDictIn K f27 = true)
    (ef27 : PySem.W.findIn K (.ref f27) "__class__" = some (some (.builtin "object.__class__")))
    (eg27 : PySem.W.mroIn K f27 (.type "object") = some true)
    (eh27 : PySem.W.typeIn K (.ref f27) = some (.type "type"))
    (ei27 : PySem.W.keepIn K (.ref f27) = true)
    (ej27 : PySem.W.subIn K (.ref f27) (.ref f27) = some true)
    (ea28 : PySem.W.nsIn K mainGlobals "InvalidOctets" = some (some (.ref f28)))
    (eb28 : PySem.W.findIn K (.ref f28) "__getattribute__" = some (some (.builtin "BaseException.__getattribute__")))
    (ec28 : PySem.W.findIn K (.ref f28) "__getattr__" = some none)
    (ed28 : PySem.W.subIn K (.ref f28) (.type "BaseException") = some true)
    (ee28 : PySem.W.hasDictIn K f28 = true)
    (ef28 : PySem.W.findIn K (.ref f28) "__class__" = some (some (.builtin "object.__class__")))
    (eg28 : PySem.W.mroIn K f28 (.type "object") = some true)
    (eh28 : PySem.W.typeIn K (.ref f28) = some (.type "type"))
    (ei28 : PySem.W.keepIn K (.ref f28) = true)
    (ej28 : PySem.W.subIn K (.ref f28) (.ref f28) = some true)
    (ea29 : PySem.W.nsIn K mainGlobals "NoName" = some (some (.ref f29)))
    (eb29 : PySem.W.findIn K (.ref f29) "__getattribute__" = some (some (.builtin "BaseException.__getattribute__")))
    (ec29 : PySem.W.findIn K (.ref f29) "__getattr__" = some none)
    (ed29 : PySem.W.subIn K (.ref f29) (.type "BaseException") = some true)
    (ee29 : PySem.W.hasDictIn K f29 = true)
    (ef29 : PySem.W.findIn K (.ref f29) "__class__" = some (some (.builtin "object.__class__")))
    (eg29 : PySem.W.mroIn K f29 (.type "object") = some true)
    (eh29 : PySem.W.typeIn K (.ref f29) = some (.type "type"))
    (ei29 : PySem.W.keepIn K (.ref f29) = true)
    (ej29 : PySem.W.subIn K (.ref f29) (.ref f29) = some true)
    (en28_at : PySem.W.findIn K (.ref f28) "at" = some none)
    (en29_name : PySem.W.findIn K (.ref f29) "name" = some none)
    (eu28_28 : PySem.W.subIn K (.ref f28) (.ref f28) = some true)
    (eu28_29 : PySem.W.subIn K (.ref f28) (.ref f29) = some false)
    (eu28_27 : PySem.W.subIn K (.ref f28) (.ref f27) = some true)
    (eu29_28 : PySem.W.subIn K (.ref f29) (.ref f28) = some false)
    (eu29_29 : PySem.W.subIn K (.ref f29) (.ref f29) = some true)
    (eu29_27 : PySem.W.subIn K (.ref f29) (.ref f27) = some false)
    (et29_KeyError : PySem.W.subIn K (.ref f29) (.type "KeyError") = some true)
    {nm28 qn28 : Str} {N28 : Addr} {bs28 bm28 : List Value} {sn28 : List Str} {sb28 : List Value} {ab28 : Bool} {cl28 : Option Bool} {dd28 : Option Addr} {ka28 kb28 kc28 kd28 ke28 : Option Value}
    {oc28 kV28 dc28 pm28 ct28 ccl28 cel28 : Value} {od28 an28 cdd28 cld28 : Option Addr} {sl28 ccs28 csl28 : Array (Option Value)} {qual28 file28 : Str} {cda28 cc28 : Addr} {vs28 : Array Value} {tf28 : Tok}
    (xa28 : K.lookup f28 = some (excClassObj nm28 qn28 f28 N28 bs28 bm28 true sn28 sb28 ab28 cl28 dd28 ka28 kb28 kc28 kd28 ke28 "Exception.__new__"))
    (xb28 : ErE.Line [.type "Exception", .type "BaseException", .type "object"] bm28)
    (xc28 : PySem.W.findIn K (.ref f28) "__setattr__" = some (some (.builtin "object.__setattr__")))
    (xd28 : PySem.W.findIn K (.ref f28) "__init__" = some (some (.ref f31)))
    (xe28 : PySem.W.typeIn K (.ref f31) = some (.type "function"))
    (xf28 : PySem.W.ks_superIn K f28 f28 "__init__" = some (some (.builtin "Exception.__init__")))
    (xg28 : PySem.W.subIn K (.ref f28) (.type "Exception") = some true)
    (xh28 : K.lookup f31 = some ⟨oc28, od28, .func (PySem.W.ksFn "__init__" qual28 (defArgs (methAt x_InvalidOctets 0)) (defBody (methAt x_InvalidOctets 0)) (defScope (methAt x_InvalidOctets 0)) .none kV28 dc28 pm28 an28 (.ref cda28) ct28 cc28), sl28⟩)
    (xi28 : PySem.W.codeIn K (.ref cda28) qual28 = true)
    (xj28 : K.lookup cda28 = some ⟨ccl28, cdd28, .fields vs28, ccs28⟩)
    (xk28 : vs28[2]? = some (.str file28 tf28))
    (xl28 : ((P.main.file : Str) == file28) = true)
    (xm28 : K.lookup cc28 = some ⟨cel28, cld28, .cell (some (.ref f28)), csl28⟩)
    {nm29 qn29 : Str} {N29 : Addr} {bs29 bm29 : List Value} {sn29 : List Str} {sb29 : List Value} {ab29 : Bool} {cl29 : Option Bool} {dd29 : Option Addr} {ka29 kb29 kc29 kd29 ke29 : Option Value}
    {oc29 kV29 dc29 pm29 ct29 ccl29 cel29 : Value} {od29 an29 cdd29 cld29 : Option Addr} {sl29 ccs29 csl29 : Array (Option Value)} {qual29 file29 : Str} {cda29 cc29 : Addr} {vs29 : Array Value} {tf29 : Tok}
    (xa29 : K.lookup f29 = some (excClassObj nm29 qn29 f29 N29 bs29 bm29 true sn29 sb29 ab29 cl29 dd29 ka29 kb29 kc29 kd29 ke29 "LookupError.__new__"))
    (xb29 : ErE.Line [.type "KeyError", .type "LookupError", .type "Exception", .type "BaseException", .type "object"] bm29)
    (xc29 : PySem.W.findIn K (.ref f29) "__setattr__" = some (some (.builtin "object.__setattr__")))
    (xd29 : PySem.W.findIn K (.ref f29) "__init__" = some (some (.ref f32)))
    (xe29 : PySem.W.typeIn K (.ref f32) = some (.type "function"))
    (xf29 : PySem.W.ks_superIn K f29 f29 "__init__" = some (some (.builtin "KeyError.__init__")))
    (xg29 : PySem.W.subIn K (.ref f29) (.type "KeyError") = some true)
    (xh29 : K.lookup f32 = some ⟨oc29, od29, .func (PySem.W.ksFn "__init__" qual29 (defArgs (methAt x_NoName 0)) (defBody (methAt x_NoName 0)) (defScope (methAt x_NoName 0)) .none kV29 dc29 pm29 an29 (.ref cda29) ct29 cc29), sl29⟩)
    (xi29 : PySem.W.codeIn K (.ref cda29) qual29 = true)
    (xj29 : K.lookup cda29 = some ⟨ccl29, cdd29, .fields vs29, ccs29⟩)
    (xk29 : vs29[2]? = some (.str file29 tf29))
    (xl29 : ((P.main.file : Str) == file29) = true)
    (xm29 : K.lookup cc29 = some ⟨cel29, cld29, .cell (some (.ref f29)), csl29⟩)
    (z0 : PySem.W.nsIn K mainGlobals "KeyError" = some none)
    (z1 : PySem.W.nsIn K mainGlobals "abs" = some none)
    (z2 : PySem.W.nsIn K mainGlobals "int" = some none)
    (z3 : PySem.W.nsIn K mainGlobals "isinstance" = some none)
    (z4 : PySem.W.nsIn K mainGlobals "len" = some none)
    (z5 : PySem.W.nsIn K mainGlobals "max" = some none)
    (z6 : PySem.W.nsIn K mainGlobals "min" = some none)
    (z7 : PySem.W.nsIn K mainGlobals "ord" = some none)
    (z8 : PySem.W.nsIn K mainGlobals "range" = some none)
    (z9 : PySem.W.nsIn K mainGlobals "repr" = some none)
    (z10 : PySem.W.nsIn K mainGlobals "str" = some none)
    (z11 : PySem.W.nsIn K mainGlobals "super" = some none)
    (z12 : PySem.W.nsIn K mainGlobals "tuple" = some none)
    {t0 : Tok} (u0 : PySem.W.nsIn K mainGlobals "KEY_SIGNS" = some (some (.str "0123456789_abcdefghijklmnopqrstuvwxyz" t0)))
    {t1 : Tok} (u1 : PySem.W.nsIn K mainGlobals "TEXT_SIGNS" = some (some (.str " -./0123456789:ABCDEFGHIJKLMNOPQRSTUVWXYZ_abcdefghijklmnopqrstuvwxyz" t1)))
    {t2 : Tok} (u2 : PySem.W.nsIn K mainGlobals "LONGEST_KEY" = some (some (.int 16 t2)))
    {t3 : Tok} (u3 : PySem.W.nsIn K mainGlobals "LONGEST_TEXT" = some (some (.int 32 t3)))
    {t4 : Tok} (u4 : PySem.W.nsIn K mainGlobals "GREATEST" = some (some (.int 1000000000000000000 t4)))
    {t5 : Tok} (u5 : PySem.W.nsIn K mainGlobals "MOST_OCTETS" = some (some (.int 9 t5)))
    {t6 : Tok} (u6 : PySem.W.nsIn K mainGlobals "NONE_TAG" = some (some (.int 0 t6)))
    {t7 : Tok} (u7 : PySem.W.nsIn K mainGlobals "INTEGER_TAG" = some (some (.int 1 t7)))
    {t8 : Tok} (u8 : PySem.W.nsIn K mainGlobals "TEXT_TAG" = some (some (.int 2 t8)))
    {kd0 : Addr} {ks0 : Array DictEntry} {kn0 : Nat}
    {kv0_0 : Addr}
    {kv0_1 : Addr}
    {kv0_2 : Addr}
    {kv0_3 : Addr}
    {kv0_4 : Addr}
    {kv0_5 : Addr}
    {kv0_6 : Addr}
    {kv0_7 : Addr}
    {kv0_8 : Addr}
    (ka0 : PySem.W.nsIn K mainGlobals "GETTERS" = some (some (.ref kd0)))
    (kb0 : K.lookup kd0 = some { cls := .type "dict", data := .dict ks0 kn0 })
    (kc0 : (kd0 == sysModules) = false)
    (kw0_0 : PySem.W.nsIn K mainGlobals "get_number" = some (some (.ref kv0_0)))
    (kw0_1 : PySem.W.nsIn K mainGlobals "get_integer" = some (some (.ref kv0_1)))
    (kw0_2 : PySem.W.nsIn K mainGlobals "get_numbers" = some (some (.ref kv0_2)))
    (kw0_3 : PySem.W.nsIn K mainGlobals "get_key" = some (some (.ref kv0_3)))
    (kw0_4 : PySem.W.nsIn K mainGlobals "get_text" = some (some (.ref kv0_4)))
    (kw0_5 : PySem.W.nsIn K mainGlobals "get_value" = some (some (.ref kv0_5)))
    (kw0_6 : PySem.W.nsIn K mainGlobals "get_writes" = some (some (.ref kv0_6)))
    (kw0_7 : PySem.W.nsIn K mainGlobals "get_entries" = some (some (.ref kv0_7)))
    (kw0_8 : PySem.W.nsIn K mainGlobals "get_range" = some (some (.ref kv0_8)))
    (ke0 : TabE w.params ks0.toList [("number", .ref kv0_0), ("integer", .ref kv0_1), ("numbers", .ref kv0_2), ("key", .ref kv0_3), ("text", .ref kv0_4), ("value", .ref kv0_5), ("writes", .ref kv0_6), ("entries", .ref kv0_7), ("range", .ref kv0_8)])
    : Tx P w K mg (fun i => [f0, f1, f2, f3, f4, f5, f6, f7, f8, f9, f10, f11, f12, f13, f14, f15, f16, f17, f18, f19, f20, f21, f22, f23, f24, f25, f26, f27, f28, f29, 0, f31, f32].getD i 0) (fun i => [PySem.W.fnOf "is_text" "is_text" (defArgs x_is_text) (defBody x_is_text) (defScope x_is_text) .none kV0 dc0 pm0 an0 cd0 ct0,
      PySem.W.fnOf "octet_at" "octet_at" (defArgs x_octet_at) (defBody x_octet_at) (defScope x_octet_at) .none kV1 dc1 pm1 an1 cd1 ct1,
      PySem.W.fnOf "put_number" "put_number" (defArgs x_put_number) (defBody x_put_number) (defScope x_put_number) .none kV2 dc2 pm2 an2 cd2 ct2,
      PySem.W.fnOf "get_number" "get_number" (defArgs x_get_number) (defBody x_get_number) (defScope x_get_number) .none kV3 dc3 pm3 an3 cd3 ct3,
      PySem.W.fnOf "put_integer" "put_integer" (defArgs x_put_integer) (defBody x_put_integer) (defScope x_put_integer) .none kV4 dc4 pm4 an4 cd4 ct4,
      PySem.W.fnOf "get_integer" "get_integer" (defArgs x_get_integer) (defBody x_get_integer) (defScope x_get_integer) .none kV5 dc5 pm5 an5 cd5 ct5,
      PySem.W.fnOf "get_numbers" "get_numbers" (defArgs x_get_numbers) (defBody x_get_numbers) (defScope x_get_numbers) .none kV6 dc6 pm6 an6 cd6 ct6,
      PySem.W.fnOf "signs_by_octets" "signs_by_octets" (defArgs x_signs_by_octets) (defBody x_signs_by_octets) (defScope x_signs_by_octets) .none kV7 dc7 pm7 an7 cd7 ct7,
      PySem.W.fnOf "get_key" "get_key" (defArgs x_get_key) (defBody x_get_key) (defScope x_get_key) .none kV8 dc8 pm8 an8 cd8 ct8,
      PySem.W.fnOf "get_text" "get_text" (defArgs x_get_text) (defBody x_get_text) (defScope x_get_text) .none kV9 dc9 pm9 an9 cd9 ct9,
      PySem.W.fnOf "get_value" "get_value" (defArgs x_get_value) (defBody x_get_value) (defScope x_get_value) .none kV10 dc10 pm10 an10 cd10 ct10,
      PySem.W.fnOf "get_pairs" "get_pairs" (defArgs x_get_pairs) (defBody x_get_pairs) (defScope x_get_pairs) .none kV11 dc11 pm11 an11 cd11 ct11,
      PySem.W.fnOf "get_writes" "get_writes" (defArgs x_get_writes) (defBody x_get_writes) (defScope x_get_writes) .none kV12 dc12 pm12 an12 cd12 ct12,
      PySem.W.fnOf "get_entries" "get_entries" (defArgs x_get_entries) (defBody x_get_entries) (defScope x_get_entries) .none kV13 dc13 pm13 an13 cd13 ct13,
      PySem.W.fnOf "get_bound" "get_bound" (defArgs x_get_bound) (defBody x_get_bound) (defScope x_get_bound) .none kV14 dc14 pm14 an14 cd14 ct14,
      PySem.W.fnOf "get_range" "get_range" (defArgs x_get_range) (defBody x_get_range) (defScope x_get_range) .none kV15 dc15 pm15 an15 cd15 ct15,
      PySem.W.fnOf "read_whole" "read_whole" (defArgs x_read_whole) (defBody x_read_whole) (defScope x_read_whole) .none kV16 dc16 pm16 an16 cd16 ct16,
      PySem.W.fnOf "_law_heap" "_law_heap" (defArgs x__law_heap) (defBody x__law_heap) (defScope x__law_heap) .none kV17 dc17 pm17 an17 cd17 ct17,
      PySem.W.fnOf "_law_draw" "_law_draw" (defArgs x__law_draw) (defBody x__law_draw) (defScope x__law_draw) .none kV18 dc18 pm18 an18 cd18 ct18,
      PySem.W.fnOf "_law_pick" "_law_pick" (defArgs x__law_pick) (defBody x__law_pick) (defScope x__law_pick) .none kV19 dc19 pm19 an19 cd19 ct19,
      PySem.W.fnOf "_law_number_at" "_law_number_at" (defArgs x__law_number_at) (defBody x__law_number_at) (defScope x__law_number_at) .none kV20 dc20 pm20 an20 cd20 ct20,
      PySem.W.fnOf "_law_heard" "_law_heard" (defArgs x__law_heard) (defBody x__law_heard) (defScope x__law_heard) .none kV21 dc21 pm21 an21 cd21 ct21,
      PySem.W.fnOf "_law_octets" "_law_octets" (defArgs x__law_octets) (defBody x__law_octets) (defScope x__law_octets) .none kV22 dc22 pm22 an22 cd22 ct22,
      PySem.W.fnOf "_law_figures" "_law_figures" (defArgs x__law_figures) (defBody x__law_figures) (defScope x__law_figures) .none kV23 dc23 pm23 an23 cd23 ct23,
      PySem.W.fnOf "_law_there_and_back" "_law_there_and_back" (defArgs x__law_there_and_back) (defBody x__law_there_and_back) (defScope x__law_there_and_back) .none kV24 dc24 pm24 an24 cd24 ct24,
      PySem.W.fnOf "_law_any_octets" "_law_any_octets" (defArgs x__law_any_octets) (defBody x__law_any_octets) (defScope x__law_any_octets) .none kV25 dc25 pm25 an25 (.ref cc25) ct25,
      PySem.W.fnOf "law" "law" (defArgs x_law) (defBody x_law) (defScope x_law) .none kV26 dc26 pm26 an26 (.ref cc26) ct26].getD i default) (fun i => [(cc25, P0), (cc26, P1)].getD i (0, 0)) where
  g_is_text := PySem.W.mg_of X G a0
  F_is_text := fun_mk (st := x_is_text) l0 c0 k0
  b_is_text := (fun_mk (st := x_is_text) l0 c0 k0).binds (ps := ["value"]) fun _ _ _ _ _ _ us hl => match us, hl with | [_], _ => rfl
  g_octet_at := PySem.W.mg_of X G a1
  F_octet_at := fun_mk (st := x_octet_at) l1 c1 k1
  b_octet_at := (fun_mk (st := x_octet_at) l1 c1 k1).binds (ps := ["octets", "at"]) fun _ _ _ _ _ _ us hl => match us, hl with | [_, _], _ => rfl
  g_put_number := PySem.W.mg_of X G a2
  F_put_number := fun_mk (st := x_put_number) l2 c2 k2
  b_put_number := (fun_mk (st := x_put_number) l2 c2 k2).binds (ps := ["number"]) fun _ _ _ _ _ _ us hl => match us, hl with | [_], _ => rfl
  g_get_number := PySem.W.mg_of X G a3
  F_get_number := fun_mk (st := x_get_number) l3 c3 k3
  b_get_number := (fun_mk (st := x_get_number) l3 c3 k3).binds (ps := ["octets", "at"]) fun _ _ _ _ _ _ us hl => match us, hl with | [_, _], _ => rfl
  g_put_integer := PySem.W.mg_of X G a4
  F_put_integer := fun_mk (st := x_put_integer) l4 c4 k4
  b_put_integer := (fun_mk (st := x_put_integer) l4 c4 k4).binds (ps := ["integer"]) fun _ _ _ _ _ _ us hl => match us, hl with | [_], _ => rfl
  g_get_integer := PySem.W.mg_of X G a5
  F_get_integer := fun_mk (st := x_get_integer) l5 c5 k5
  b_get_integer := (fun_mk (st := x_get_integer) l5 c5 k5).binds (ps := ["octets", "at"]) fun _ _ _ _ _ _ us hl => match us, hl with | [_, _], _ => rfl
  g_get_numbers := PySem.W.mg_of X G a6
  F_get_numbers := fun_mk (st := x_get_numbers) l6 c6 k6
  b_get_numbers := (fun_mk (st := x_get_numbers) l6 c6 k6).binds (ps := ["octets", "at"]) fun _ _ _ _ _ _ us hl => match us, hl with | [_, _], _ => rfl
  g_signs_by_octets := PySem.W.mg_of X G a7
  F_signs_by_octets := fun_mk (st := x_signs_by_octets) l7 c7 k7
  b_signs_by_octets := (fun_mk (st := x_signs_by_octets) l7 c7 k7).binds (ps := ["signs"]) fun _ _ _ _ _ _ us hl => match us, hl with | [_], _ => rfl
  g_get_key := PySem.W.mg_of X G a8
  F_get_key := fun_mk (st := x_get_key) l8 c8 k8
  b_get_key := (fun_mk (st := x_get_key) l8 c8 k8).binds (ps := ["octets", "at"]) fun _ _ _ _ _ _ us hl => match us, hl with | [_, _], _ => rfl
  g_get_text := PySem.W.mg_of X G a9
  F_get_text := fun_mk (st := x_get_text) l9 c9 k9
  b_get_text := (fun_mk (st := x_get_text) l9 c9 k9).binds (ps := ["octets", "at"]) fun _ _ _ _ _ _ us hl => match us, hl with | [_, _], _ => rfl
  g_get_value := PySem.W.mg_of X G a10
  F_get_value := fun_mk (st := x_get_value) l10 c10 k10
  b_get_value := (fun_mk (st := x_get_value) l10 c10 k10).binds (ps := ["octets", "at"]) fun _ _ _ _ _ _ us hl => match us, hl with | [_, _], _ => rfl
  g_get_pairs := PySem.W.mg_of X G a11
  F_get_pairs := fun_mk (st := x_get_pairs) l11 c11 k11
  b_get_pairs := (fun_mk (st := x_get_pairs) l11 c11 k11).binds (ps := ["octets", "at", "is_whole"]) fun _ _ _ _ _ _ us hl => match us, hl with | [_, _, _], _ => rfl
  g_get_writes := PySem.W.mg_of X G a12
  F_get_writes := fun_mk (st := x_get_writes) l12 c12 k12
  b_get_writes := (fun_mk (st := x_get_writes) l12 c12 k12).binds (ps := ["octets", "at"]) fun _ _ _ _ _ _ us hl => match us, hl with | [_, _], _ => rfl
  g_get_entries := PySem.W.mg_of X G a13
  F_get_entries := fun_mk (st := x_get_entries) l13 c13 k13
  b_get_entries := (fun_mk (st := x_get_entries) l13 c13 k13).binds (ps := ["octets", "at"]) fun _ _ _ _ _ _ us hl => match us, hl with | [_, _], _ => rfl
  g_get_bound := PySem.W.mg_of X G a14
  F_get_bound := fun_mk (st := x_get_bound) l14 c14 k14
  b_get_bound := (fun_mk (st := x_get_bound) l14 c14 k14).binds (ps := ["octets", "at"]) fun _ _ _ _ _ _ us hl => match us, hl with | [_, _], _ => rfl
  g_get_range := PySem.W.mg_of X G a15
  F_get_range := fun_mk (st := x_get_range) l15 c15 k15
  b_get_range := (fun_mk (st := x_get_range) l15 c15 k15).binds (ps := ["octets", "at"]) fun _ _ _ _ _ _ us hl => match us, hl with | [_, _], _ => rfl
  g_read_whole := PySem.W.mg_of X G a16
  F_read_whole := fun_mk (st := x_read_whole) l16 c16 k16
  b_read_whole := (fun_mk (st := x_read_whole) l16 c16 k16).binds (ps := ["word", "octets"]) fun _ _ _ _ _ _ us hl => match us, hl with | [_, _], _ => rfl
  g__law_heap := PySem.W.mg_of X G a17
  F__law_heap := fun_mk (st := x__law_heap) l17 c17 k17
  b__law_heap := (fun_mk (st := x__law_heap) l17 c17 k17).binds (ps := ["_law_script", "_law_base"]) fun _ _ _ _ _ _ us hl => match us, hl with | [_, _], _ => rfl
  g__law_draw := PySem.W.mg_of X G a18
  F__law_draw := fun_mk (st := x__law_draw) l18 c18 k18
  b__law_draw := (fun_mk (st := x__law_draw) l18 c18 k18).binds (ps := ["_law_heap_here", "_law_many"]) fun _ _ _ _ _ _ us hl => match us, hl with | [_, _], _ => rfl
  g__law_pick := PySem.W.mg_of X G a19
  F__law_pick := fun_mk (st := x__law_pick) l19 c19 k19
  b__law_pick := (fun_mk (st := x__law_pick) l19 c19 k19).binds (ps := ["_law_heap_here", "_law_some"]) fun _ _ _ _ _ _ us hl => match us, hl with | [_, _], _ => rfl
  g__law_number_at := PySem.W.mg_of X G a20
  F__law_number_at := fun_mk (st := x__law_number_at) l20 c20 k20
  b__law_number_at := (fun_mk (st := x__law_number_at) l20 c20 k20).binds (ps := ["_law_octets_here", "_law_at"]) fun _ _ _ _ _ _ us hl => match us, hl with | [_, _], _ => rfl
  g__law_heard := PySem.W.mg_of X G a21
  F__law_heard := fun_mk (st := x__law_heard) l21 c21 k21
  b__law_heard := (fun_mk (st := x__law_heard) l21 c21 k21).binds (ps := ["_law_work"]) fun _ _ _ _ _ _ us hl => match us, hl with | [_], _ => rfl
  g__law_octets := PySem.W.mg_of X G a22
  F__law_octets := fun_mk (st := x__law_octets) l22 c22 k22
  b__law_octets := (fun_mk (st := x__law_octets) l22 c22 k22).binds (ps := ["_law_heap_here", "_law_many"]) fun _ _ _ _ _ _ us hl => match us, hl with | [_, _], _ => rfl
  g__law_figures := PySem.W.mg_of X G a23
  F__law_figures := fun_mk (st := x__law_figures) l23 c23 k23
  b__law_figures := (fun_mk (st := x__law_figures) l23 c23 k23).binds (ps := ["_law_number"]) fun _ _ _ _ _ _ us hl => match us, hl with | [_], _ => rfl
  g__law_there_and_back := PySem.W.mg_of X G a24
  F__law_there_and_back := fun_mk (st := x__law_there_and_back) l24 c24 k24
  b__law_there_and_back := (fun_mk (st := x__law_there_and_back) l24 c24 k24).binds (ps := ["_law_heap_here"]) fun _ _ _ _ _ _ us hl => match us, hl with | [_], _ => rfl
  g__law_any_octets := PySem.W.mg_of X G a25
  F__law_any_octets := fun_mk (st := x__law_any_octets) l25 c25 k25
  b__law_any_octets := (fun_mk (st := x__law_any_octets) l25 c25 k25).binds (ps := ["_law_heap_here"]) fun _ _ _ _ _ _ us hl => match us, hl with | [_], _ => rfl
  o__law_any_octets := rfl
  g_law := PySem.W.mg_of X G a26
  F_law := fun_mk (st := x_law) l26 c26 k26
  b_law := (fun_mk (st := x_law) l26 c26 k26).binds (ps := ["_law_script"]) fun _ _ _ _ _ _ us hl => match us, hl with | [_], _ => rfl
  o_law := rfl
  g_StoreError := PySem.W.mg_of X G ea27
  K_StoreError := excK_mk ea27 eb27 ec27 ed27 ee27 ef27 sp tp eg27 eh27 ei27 ej27
  g_InvalidOctets := PySem.W.mg_of X G ea28
  K_InvalidOctets := excK_mk ea28 eb28 ec28 ed28 ee28 ef28 sp tp eg28 eh28 ei28 ej28
  E_InvalidOctets := errC_mk (st := methAt x_InvalidOctets 0) (x := "at") ErE.base_Exception xa28 xb28 xc28 xd28 xe28 en28_at xf28 xg28 tq xh28 xi28 xj28 xk28 xl28 xm28 tr rfl (by decide +kernel) rfl (fun _ _ _ _ _ _ _ _ _ _ _ _ h => by subst h; exact .of_eq rfl) rfl
  g_NoName := PySem.W.mg_of X G ea29
  K_NoName := excK_mk ea29 eb29 ec29 ed29 ee29 ef29 sp tp eg29 eh29 ei29 ej29
  E_NoName := errC_mk (st := methAt x_NoName 0) (x := "name") ErE.base_KeyError xa29 xb29 xc29 xd29 xe29 en29_name xf29 xg29 tq xh29 xi29 xj29 xk29 xl29 xm29 tr rfl (by decide +kernel) rfl (fun _ _ _ _ _ _ _ _ _ _ _ _ h => by subst h; exact .of_eq rfl) rfl
  n_InvalidOctets_at := en28_at
  n_NoName_name := en29_name
  u_InvalidOctets_InvalidOctets := eu28_28
  u_InvalidOctets_NoName := eu28_29
  u_InvalidOctets_StoreError := eu28_27
  u_NoName_InvalidOctets := eu29_28
  u_NoName_NoName := eu29_29
  u_NoName_StoreError := eu29_27
  u_NoName_KeyError := et29_KeyError
  k_get_integer_at_octets := fun s us ws _ hu hw => match us, ws, hu, hw with | [], [_, _], _, _ => BindsTo.of_eq (by first | rfl | with_unfolding_all rfl)
  k_get_number_at_octets := fun s us ws _ hu hw => match us, ws, hu, hw with | [], [_, _], _, _ => BindsTo.of_eq (by first | rfl | with_unfolding_all rfl)
  k_put_integer_integer := fun s us ws _ hu hw => match us, ws, hu, hw with | [], [_], _, _ => BindsTo.of_eq (by first | rfl | with_unfolding_all rfl)
  k_put_number_number := fun s us ws _ hu hw => match us, ws, hu, hw with | [], [_], _, _ => BindsTo.of_eq (by first | rfl | with_unfolding_all rfl)
  k_read_whole_octets_word := fun s us ws _ hu hw => match us, ws, hu, hw with | [], [_, _], _, _ => BindsTo.of_eq (by first | rfl | with_unfolding_all rfl)
  z_KeyError := PySem.W.mg_none_of X G z0
  z_abs := PySem.W.mg_none_of X G z1
  z_int := PySem.W.mg_none_of X G z2
  z_isinstance := PySem.W.mg_none_of X G z3
  z_len := PySem.W.mg_none_of X G z4
  z_max := PySem.W.mg_none_of X G z5
  z_min := PySem.W.mg_none_of X G z6
  z_ord := PySem.W.mg_none_of X G z7
  z_range := PySem.W.mg_none_of X G z8
  z_repr := PySem.W.mg_none_of X G z9
  z_str := PySem.W.mg_none_of X G z10
  z_super := PySem.W.mg_none_of X G z11
  z_tuple := PySem.W.mg_none_of X G z12
  c_KEY_SIGNS := ⟨_, PySem.W.mg_of X G u0⟩
  c_TEXT_SIGNS := ⟨_, PySem.W.mg_of X G u1⟩
  c_LONGEST_KEY := ⟨_, PySem.W.mg_of X G u2⟩
  c_LONGEST_TEXT := ⟨_, PySem.W.mg_of X G u3⟩
  c_GREATEST := ⟨_, PySem.W.mg_of X G u4⟩
  c_MOST_OCTETS := ⟨_, PySem.W.mg_of X G u5⟩
  c_NONE_TAG := ⟨_, PySem.W.mg_of X G u6⟩
  c_INTEGER_TAG := ⟨_, PySem.W.mg_of X G u7⟩
  c_TEXT_TAG := ⟨_, PySem.W.mg_of X G u8⟩
  t_GETTERS := ⟨_, _, _, _, PySem.W.mg_of X G ka0, by unfold clsV; rw [ka0]; rfl, kb0, kc0, ke0, .fn (by unfold clsV; rw [kw0_0]; rfl) (.fn (by unfold clsV; rw [kw0_1]; rfl) (.fn (by unfold clsV; rw [kw0_2]; rfl) (.fn (by unfold clsV; rw [kw0_3]; rfl) (.fn (by unfold clsV; rw [kw0_4]; rfl) (.fn (by unfold clsV; rw [kw0_5]; rfl) (.fn (by unfold clsV; rw [kw0_6]; rfl) (.fn (by unfold clsV; rw [kw0_7]; rfl) (.fn (by unfold clsV; rw [kw0_8]; rfl) (.nil)))))))))⟩
  v_get_integer := by unfold clsV; rw [a5]; rfl
  v_get_number := by unfold clsV; rw [a3]; rfl
end K02
end
section
set_option maxHeartbeats 2000000
namespace K02
open PySem PySem.Spec PyProof.Rows L2 DM JR
noncomputable abbrev rwM : List D → AH → Res D := m_read_whole f_get_number f_get_integer f_is_text
section
variable {n : Nat} {P : Addr} {q : Str} {me : ME} {ρ : DM.Env} {A A1 : AH}
theorem heard_told {d : D} (hT : A[n]? = some (.tab P q)) (h : me ρ A = .ok d A1) : mLam n P q 2 mb__law_heard me ρ A = .ok (.lst [.str "told", d]) A1 := by
  refine lam_at hT fun x => ?_
  refine fun_rt ?_
  refine try_rt ?_
  have hw : mWork x q me 0 [some (.fnv x.1 x.2.1 q x.2.2 ρ), none] A = .ok d A1 := by rw [work_at]; exact h
  simp only [EVa, List.getElem?_cons_zero, List.getElem?_cons_succ, List.set_cons_zero, List.set_cons_succ, bind_ok, lift_ok, List.length_cons, List.length_nil, Nat.reduceAdd, Nat.reduceLeDiff, ↓reduceIte, if_true, if_false, Bool.false_eq_true, ev_raise, and_self, List.map_cons, List.map_nil, List.replicate, List.cons_append, List.nil_append, Nat.reduceSub, hw]
theorem heard_bytes {p : Nat} (hT : A[n]? = some (.tab P q)) (h : me ρ A = .exc "InvalidOctets" (badO p) A1) : mLam n P q 2 mb__law_heard me ρ A = .ok (.lst [.str "bytes", .int (p : Int), .bl true]) A1 := by
  refine lam_at hT fun x => ?_
  refine fun_rt ?_
  refine (try_exc (C := "InvalidOctets") (fs := badO p) (ρ1 := [some (.fnv x.1 x.2.1 q x.2.2 ρ), none]) (A1 := A1) ?_).trans ?_
  · have hw : mWork x q me 0 [some (.fnv x.1 x.2.1 q x.2.2 ρ), none] A = .exc "InvalidOctets" (badO p) A1 := by rw [work_at]; exact h
    simp only [EVa, List.getElem?_cons_zero, List.getElem?_cons_succ, List.set_cons_zero, List.set_cons_succ, bind_ok, lift_ok, List.length_cons, List.length_nil, Nat.reduceAdd, Nat.reduceLeDiff, ↓reduceIte, if_true, if_false, Bool.false_eq_true, ev_raise, and_self, List.map_cons, List.map_nil, List.replicate, List.cons_append, List.nil_append, Nat.reduceSub, hw, bind_exc]
    rfl
  · refine exc_yes (by decide) fun a d => ?_
    rw [if_neg (by unfold badO; simp)]
    have e1 : mXf "InvalidOctets" ["InvalidOctets"] a (some d) "at" (mVar 1) [some (.fnv x.1 x.2.1 q x.2.2 ρ), some (.exv a (some d) ["at"] [.int (p : Int)])] A1 = .ok (.int (p : Int)) A1 := xf_at rfl (by decide) rfl
    have e2 : fIsx "InvalidOctets" ["InvalidOctets"] [] (.cl "StoreError") a (some d) [.exv a (some d) ["at"] [.int (p : Int)], .cl "StoreError"] A1 = .ok (.bl true) A1 := isx_yes (by decide)
    simp only [enterM, badO, List.map_cons, List.map_nil, List.replicate, Nat.reduceSub, List.length_cons, List.length_nil, List.cons_append, List.nil_append, List.set_cons_succ, List.set_cons_zero, Nat.reduceAdd]
    simp only [EVa, List.getElem?_cons_zero, List.getElem?_cons_succ, List.set_cons_zero, List.set_cons_succ, bind_ok, lift_ok, List.length_cons, List.length_nil, Nat.reduceAdd, Nat.reduceLeDiff, ↓reduceIte, if_true, if_false, Bool.false_eq_true, ev_raise, and_self, List.map_cons, List.map_nil, List.replicate, List.cons_append, List.nil_append, Nat.reduceSub, e1, e2]
    rfl
theorem heard_name {d : D} (hT : A[n]? = some (.tab P q)) (h : me ρ A = .exc "NoName" [("name", d)] A1) : mLam n P q 2 mb__law_heard me ρ A = .ok (.lst [.str "name", d, .bl true]) A1 := by
  refine lam_at hT fun x => ?_
  refine fun_rt ?_
  refine (try_exc (C := "NoName") (fs := [("name", d)]) (ρ1 := [some (.fnv x.1 x.2.1 q x.2.2 ρ), none]) (A1 := A1) ?_).trans ?_
  · have hw : mWork x q me 0 [some (.fnv x.1 x.2.1 q x.2.2 ρ), none] A = .exc "NoName" [("name", d)] A1 := by rw [work_at]; exact h
    simp only [EVa, List.getElem?_cons_zero, List.getElem?_cons_succ, List.set_cons_zero, List.set_cons_succ, bind_ok, lift_ok, List.length_cons, List.length_nil, Nat.reduceAdd, Nat.reduceLeDiff, ↓reduceIte, if_true, if_false, Bool.false_eq_true, ev_raise, and_self, List.map_cons, List.map_nil, List.replicate, List.cons_append, List.nil_append, Nat.reduceSub, hw, bind_exc]
    rfl
  · refine (exc_no (by decide) (by decide)).trans ?_
    refine exc_yes (by decide) fun a dd => ?_
    rw [if_neg (by simp)]
    have e1 : mXf "NoName" ["NoName"] a (some dd) "name" (mVar 1) [some (.fnv x.1 x.2.1 q x.2.2 ρ), some (.exv a (some dd) ["name"] [d])] A1 = .ok d A1 := xf_at rfl (by decide) rfl
    have e2 : fIsx "NoName" ["NoName"] [] (.ty "KeyError") a (some dd) [.exv a (some dd) ["name"] [d], .ty "KeyError"] A1 = .ok (.bl true) A1 := isx_yes (by decide)
    have e3 : fIsx "NoName" [] ["NoName"] (.cl "StoreError") a (some dd) [.exv a (some dd) ["name"] [d], .cl "StoreError"] A1 = .ok (.bl false) A1 := isx_no (by decide) (by decide)
    simp only [enterM, List.map_cons, List.map_nil, List.replicate, Nat.reduceSub, List.length_cons, List.length_nil, List.cons_append, List.nil_append, List.set_cons_succ, List.set_cons_zero, Nat.reduceAdd]
    simp only [EVa, List.getElem?_cons_zero, List.getElem?_cons_succ, List.set_cons_zero, List.set_cons_succ, bind_ok, lift_ok, List.length_cons, List.length_nil, Nat.reduceAdd, Nat.reduceLeDiff, ↓reduceIte, if_true, if_false, Bool.false_eq_true, ev_raise, and_self, List.map_cons, List.map_nil, List.replicate, List.cons_append, List.nil_append, Nat.reduceSub, e1, e2, e3, Bool.not_false]
    rfl
end
/-! ### read_whole -/
abbrev TB : List (Str × D) := [("number", .cl "get_number"), ("integer", .cl "get_integer"), ("numbers", .cl "get_numbers"), ("key", .cl "get_key"), ("text", .cl "get_text"), ("value", .cl "get_value"), ("writes", .cl "get_writes"), ("entries", .cl "get_entries"), ("range", .cl "get_range")]
noncomputable abbrev FL : FnL := [("get_number", f_get_number), ("get_integer", f_get_integer)]
section
variable {os : List Nat} {A : AH} {z C : Str} {g : List D → AH → Res D} {d : D}
theorem kin_text (hz : TB.lookup z = some d) : fKIn "GETTERS" TB true (.str z) (.cl "GETTERS") A = .ok (.bl false) A := by
  show (if ("GETTERS" : Str) = "GETTERS" then Res.ok (D.bl (if true = true then !(TB.lookup z).isSome else (TB.lookup z).isSome)) A else .no) = _
  rw [if_pos rfl, hz]
  rfl
theorem kix_text (hz : TB.lookup z = some d) : fKIx "GETTERS" TB (.cl "GETTERS") (.str z) A = .ok d A := by
  show (if ("GETTERS" : Str) = "GETTERS" then (match TB.lookup z with | some v => Res.ok v A | none => .no) else .no) = _
  rw [if_pos rfl, hz]
theorem is_text_str {x : Str} : f_is_text [.str x] A = .ok (.bl true) A := rfl
theorem callL_at {ρ : DM.Env} {ms : MA} {ds : List D} (h2 : ρ[2]? = some (some (.cl C))) (hg : FL.lookup C = some g) (hm : ms ρ A = .ok ds A) (hl : ds.length = 2) : mCallL 2 2 FL ms ρ A = g ds A := by
  unfold mCallL
  rw [h2]
  show (match FL.lookup C with | some g => _ | none => _) = _
  rw [hg]
  show (ms ρ A).bind _ = _
  rw [hm, bind_ok, if_pos hl]
theorem rw_ok (hz : TB.lookup z = some (.cl C)) (hg : FL.lookup C = some g) {x : D} {e : Nat} (h : g [.tup (dI os), .int 0] A = .ok (.tup [x, .int (e : Int)]) A) : rwM [.str z, .tup (dI os)] A = if e = os.length then .ok x A else .exc "InvalidOctets" (badO e) A := by
  have hl : fLen [.tup (dI os)] A = .ok (.int (os.length : Nat)) A := len_tup
  have s1 := kin_text (A := A) hz
  have s2 := kix_text (A := A) hz
  have s3 : mCallL 2 2 FL (mCons (mVar 1) (mCons (mK (.int 0)) (mNil))) [some (.str z), some (.tup (dI os)), some (.cl C), none, none] A = .ok (.tup [x, .int (e : Int)]) A := (callL_at rfl hg rfl rfl).trans h
  unfold rwM m_read_whole
  have run : ∀ {r : SRes}, (mSeq (mIfS (mTst (mOp (fEq true) (mVar 4) (mCall fLen (mCons (mVar 1) (mNil))))) (mRaise "InvalidOctets" "at" (mVar 4)) (mNext)) (mRet (mVar 3))) [some (.str z), some (.tup (dI os)), some (.cl C), some x, some (.int (e : Int))] A = r →
      (mSeq (mIfS (mOr (mNot (mTst (mCallF 1 f_is_text (mCons (mVar 0) (mNil))))) (mTst (mOp (fKIn "GETTERS" TB true) (mVar 0) (mK (.cl "GETTERS"))))) (mRaise "NoName" "name" (mVar 0)) (mNext)) (mSeq (mSet 2 (mOp (fKIx "GETTERS" TB) (mK (.cl "GETTERS")) (mVar 0))) (mSeq (mAsg (.tp [.nm 3, .nm 4]) (mCallL 2 2 FL (mCons (mVar 1) (mCons (mK (.int 0)) (mNil))))) (mSeq (mIfS (mTst (mOp (fEq true) (mVar 4) (mCall fLen (mCons (mVar 1) (mNil))))) (mRaise "InvalidOctets" "at" (mVar 4)) (mNext)) (mRet (mVar 3)))))) [some (.str z), some (.tup (dI os)), none, none, none] A = r := fun hh => by
    refine (seq_nx (ρ1 := [some (.str z), some (.tup (dI os)), none, none, none]) (A1 := A) ?_).trans ?_
    · simp only [EVa, List.getElem?_cons_zero, List.getElem?_cons_succ, List.set_cons_zero, List.set_cons_succ, bind_ok, lift_ok, List.length_cons, List.length_nil, Nat.reduceAdd, Nat.reduceLeDiff, ↓reduceIte, if_true, if_false, Bool.false_eq_true, ev_raise, and_self, List.map_cons, List.map_nil, List.replicate, List.cons_append, List.nil_append, Nat.reduceSub, is_text_str, s1, Bool.not_true]
    refine (seq_nx (ρ1 := [some (.str z), some (.tup (dI os)), some (.cl C), none, none]) (A1 := A) ?_).trans ?_
    · simp only [EVa, List.getElem?_cons_zero, List.getElem?_cons_succ, List.set_cons_zero, List.set_cons_succ, bind_ok, lift_ok, List.length_cons, List.length_nil, Nat.reduceAdd, Nat.reduceLeDiff, ↓reduceIte, if_true, if_false, Bool.false_eq_true, ev_raise, and_self, List.map_cons, List.map_nil, List.replicate, List.cons_append, List.nil_append, Nat.reduceSub, s2]
    refine (seq_nx (ρ1 := [some (.str z), some (.tup (dI os)), some (.cl C), some x, some (.int (e : Int))]) (A1 := A) ?_).trans hh
    rw [ev_asg, s3, lift_ok, bind_tp]
    rfl
  by_cases he : e = os.length
  · rw [if_pos he]
    refine fun_rt (run ?_)
    refine (seq_nx (ρ1 := [some (.str z), some (.tup (dI os)), some (.cl C), some x, some (.int (e : Int))]) (A1 := A) ?_).trans ?_
    · simp only [EVa, List.getElem?_cons_zero, List.getElem?_cons_succ, List.set_cons_zero, List.set_cons_succ, bind_ok, lift_ok, List.length_cons, List.length_nil, Nat.reduceAdd, Nat.reduceLeDiff, ↓reduceIte, if_true, if_false, Bool.false_eq_true, ev_raise, and_self, List.map_cons, List.map_nil, List.replicate, List.cons_append, List.nil_append, Nat.reduceSub, hl, ne_ii, decide_eq_true (show (e : Int) = (os.length : Int) by omega), Bool.not_true]
    · simp only [EVa, List.getElem?_cons_zero, List.getElem?_cons_succ, List.set_cons_zero, List.set_cons_succ, bind_ok, lift_ok, List.length_cons, List.length_nil, Nat.reduceAdd, Nat.reduceLeDiff, ↓reduceIte, if_true, if_false, Bool.false_eq_true, ev_raise, and_self, List.map_cons, List.map_nil, List.replicate, List.cons_append, List.nil_append, Nat.reduceSub]
  · rw [if_neg he]
    refine fun_exc (ρ1 := [some (.str z), some (.tup (dI os)), some (.cl C), some x, some (.int (e : Int))]) (run ?_)
    refine seq_exc ?_
    simp only [EVa, List.getElem?_cons_zero, List.getElem?_cons_succ, List.set_cons_zero, List.set_cons_succ, bind_ok, lift_ok, List.length_cons, List.length_nil, Nat.reduceAdd, Nat.reduceLeDiff, ↓reduceIte, if_true, if_false, Bool.false_eq_true, ev_raise, and_self, List.map_cons, List.map_nil, List.replicate, List.cons_append, List.nil_append, Nat.reduceSub, hl, ne_ii, decide_eq_false (show ¬ (e : Int) = (os.length : Int) by omega), Bool.not_false]
    rfl
theorem rw_exc (hz : TB.lookup z = some (.cl C)) (hg : FL.lookup C = some g) {p : Nat} (h : g [.tup (dI os), .int 0] A = .exc "InvalidOctets" (badO p) A) : rwM [.str z, .tup (dI os)] A = .exc "InvalidOctets" (badO p) A := by
  have s1 := kin_text (A := A) hz
  have s2 := kix_text (A := A) hz
  have s3 : mCallL 2 2 FL (mCons (mVar 1) (mCons (mK (.int 0)) (mNil))) [some (.str z), some (.tup (dI os)), some (.cl C), none, none] A = .exc "InvalidOctets" (badO p) A := (callL_at rfl hg rfl rfl).trans h
  unfold rwM m_read_whole
  refine fun_exc (ρ1 := [some (.str z), some (.tup (dI os)), some (.cl C), none, none]) ?_
  refine (seq_nx (ρ1 := [some (.str z), some (.tup (dI os)), none, none, none]) (A1 := A) ?_).trans ?_
  · simp only [EVa, List.getElem?_cons_zero, List.getElem?_cons_succ, List.set_cons_zero, List.set_cons_succ, bind_ok, lift_ok, List.length_cons, List.length_nil, Nat.reduceAdd, Nat.reduceLeDiff, ↓reduceIte, if_true, if_false, Bool.false_eq_true, ev_raise, and_self, List.map_cons, List.map_nil, List.replicate, List.cons_append, List.nil_append, Nat.reduceSub, is_text_str, s1, Bool.not_true]
  refine (seq_nx (ρ1 := [some (.str z), some (.tup (dI os)), some (.cl C), none, none]) (A1 := A) ?_).trans ?_
  · simp only [EVa, List.getElem?_cons_zero, List.getElem?_cons_succ, List.set_cons_zero, List.set_cons_succ, bind_ok, lift_ok, List.length_cons, List.length_nil, Nat.reduceAdd, Nat.reduceLeDiff, ↓reduceIte, if_true, if_false, Bool.false_eq_true, ev_raise, and_self, List.map_cons, List.map_nil, List.replicate, List.cons_append, List.nil_append, Nat.reduceSub, s2]
  refine seq_exc ?_
  rw [ev_asg, s3]
  rfl
theorem rw_number (ho : ∀ b ∈ os, b < 256) : rwM [.str "number", .tup (dI os)] A = match rdNum os with | some (n, k) => if k = os.length then .ok (.int (n : Int)) A else .exc "InvalidOctets" (badO k) A | none => .exc "InvalidOctets" (badO 0) A := by
  have g := get_number_sem (p := 0) (A := A) ho
  rw [List.drop_zero] at g
  cases h : rdNum os with
  | none => rw [h] at g; exact rw_exc (C := "get_number") rfl rfl g
  | some nk =>
    obtain ⟨n, k⟩ := nk
    rw [h] at g
    have g : f_get_number [.tup (dI os), .int 0] A = .ok (.tup [.int (n : Int), .int ((0 + k : Nat) : Int)]) A := g
    rw [Nat.zero_add] at g
    exact rw_ok (z := "number") (C := "get_number") (g := f_get_number) (e := k) rfl rfl g
theorem rw_integer (ho : ∀ b ∈ os, b < 256) : rwM [.str "integer", .tup (dI os)] A = match rdNum os with | some (n, k) => if k = os.length then .ok (.int (uz n)) A else .exc "InvalidOctets" (badO k) A | none => .exc "InvalidOctets" (badO 0) A := by
  have g := get_integer_sem (p := 0) (A := A) ho
  rw [List.drop_zero] at g
  cases h : rdNum os with
  | none => rw [h] at g; exact rw_exc (C := "get_integer") rfl rfl g
  | some nk =>
    obtain ⟨n, k⟩ := nk
    rw [h] at g
    have g : f_get_integer [.tup (dI os), .int 0] A = .ok (.tup [.int (uz n), .int ((0 + k : Nat) : Int)]) A := g
    rw [Nat.zero_add] at g
    exact rw_ok (z := "integer") (C := "get_integer") (g := f_get_integer) (e := k) rfl rfl g
def words : List D := [.str "numbr", .str "", .non, .int 0, .str "Number", .tup [.str "number"], .lst [.str "number"], .bl true, .str "number ", .str "frame"]
theorem rw_name (hd : d ∈ words) {t : D} : rwM [d, t] A = .exc "NoName" [("name", d)] A := by
  have key : (∃ x, d = .str x ∧ TB.lookup x = none) ∨ (f_is_text [d] A = .ok (.bl false) A) := by
    simp only [words, List.mem_cons, List.not_mem_nil, or_false] at hd
    rcases hd with rfl | rfl | rfl | rfl | rfl | rfl | rfl | rfl | rfl | rfl
    · exact .inl ⟨_, rfl, rfl⟩
    · exact .inl ⟨_, rfl, rfl⟩
    · exact .inr rfl
    · exact .inr rfl
    · exact .inl ⟨_, rfl, rfl⟩
    · exact .inr rfl
    · exact .inr rfl
    · exact .inr rfl
    · exact .inl ⟨_, rfl, rfl⟩
    · exact .inl ⟨_, rfl, rfl⟩
  unfold rwM m_read_whole
  refine fun_exc (ρ1 := [some d, some t, none, none, none]) ?_
  refine seq_exc ?_
  rcases key with ⟨x, rfl, hx⟩ | hx
  · have kx : fKIn "GETTERS" TB true (.str x) (.cl "GETTERS") A = .ok (.bl true) A := by
      show (if ("GETTERS" : Str) = "GETTERS" then Res.ok (D.bl (if true = true then !(TB.lookup x).isSome else (TB.lookup x).isSome)) A else .no) = _
      rw [if_pos rfl, hx]
      rfl
    simp only [EVa, List.getElem?_cons_zero, List.getElem?_cons_succ, List.set_cons_zero, List.set_cons_succ, bind_ok, lift_ok, List.length_cons, List.length_nil, Nat.reduceAdd, Nat.reduceLeDiff, ↓reduceIte, if_true, if_false, Bool.false_eq_true, ev_raise, and_self, List.map_cons, List.map_nil, List.replicate, List.cons_append, List.nil_append, Nat.reduceSub, is_text_str, kx, Bool.not_true]
  · simp only [EVa, List.getElem?_cons_zero, List.getElem?_cons_succ, List.set_cons_zero, List.set_cons_succ, bind_ok, lift_ok, List.length_cons, List.length_nil, Nat.reduceAdd, Nat.reduceLeDiff, ↓reduceIte, if_true, if_false, Bool.false_eq_true, ev_raise, and_self, List.map_cons, List.map_nil, List.replicate, List.cons_append, List.nil_append, Nat.reduceSub, hx, Bool.not_false]
end
end K02
end
section
set_option maxHeartbeats 1000000
namespace JR
open PySem PySem.Spec PyProof.Rows L2 DM
/-! ### is_disk of octets -/
/-! ### data shown -/
def ShdL (k w : Nat) (ds : List D) (ps : List PyData) : Prop := toPys ds = some ps ∧ ∀ p ∈ ps, FewB 20 k w p
theorem shl_nil {k w : Nat} : ShdL k w [] [] := ⟨rfl, fun _ h => nomatch h⟩
theorem shl_cons {k w k' w' : Nat} {d : D} {p : PyData} {ds : List D} {ps : List PyData} (h : Shd k' w' d p) (hk : k' ≤ k) (hw : w' ≤ w) (r : ShdL k w ds ps) : ShdL k w (d :: ds) (p :: ps) := by
  refine ⟨?_, fun q hq => (List.mem_cons.mp hq).elim (fun e => by rw [e]; exact h.2.mono hk hw) (r.2 q)⟩
  rw [toPys, h.1, r.1]
theorem shd_tup {k w : Nat} {ds : List D} {ps : List PyData} (h : ShdL k w ds ps) : Shd (k + 1) (ps.length * (w + 1)) (.tup ds) (.tuple ps) := ⟨by simp only [toPy, h.1, Option.map_some], fewB_tuple h.2⟩
theorem shd_lst {k w : Nat} {ds : List D} {ps : List PyData} (h : ShdL k w ds ps) : Shd (k + 1) (ps.length * (w + 1)) (.lst ds) (.list ps) := ⟨by simp only [toPy, h.1, Option.map_some], fewB_list h.2⟩
theorem shd_int {i : Int} (h : i.natAbs < 10 ^ 19) : Shd 0 64 (.int i) (.int i) := ⟨rfl, fewB_int (by decide) h⟩
theorem shd_word {x : Str} (h1 : ∀ c ∈ x.cps.toList, c < 128) (h2 : x.cps.toList.length ≤ 64) : Shd 0 64 (.str x) (.str x) := ⟨rfl, str_few h1 h2⟩
theorem shd_oct {os : List Nat} (h : ∀ b ∈ os, b < 256) : Shd 1 (os.length * 65) (.tup (dI os)) (.tuple (os.map fun n : Nat => .int (n : Int))) := by
  have := shd_tup (k := 0) (w := 64) (ds := dI os) (ps := os.map fun n : Nat => .int (n : Int)) (shd_all (f := fun n : Nat => D.int (n : Int)) (g := fun n : Nat => PyData.int (n : Int)) fun b hb => shd_int (by have := h b hb; omega))
  rwa [List.length_map] at this
theorem repr_shd {k w : Nat} {d : D} {p : PyData} {A : AH} (h : Shd k w d p) (hk : k ≤ 32) (hw : 22 * w + 20 ≤ 16777216) : fRepr [d] A = .ok (.str p.shown) A := repr_fewB (toPyA_of h.1) h.2 hk (by decide) hw
theorem eq_shd {k w : Nat} {d : D} {p : PyData} {A : AH} {neg : Bool} (h : Shd k w d p) (hk : k ≤ 64) (hs : notSc d = true) : fEq neg d d A = .ok (.bl (!neg)) A := by
  have s := h.2.shaped hk
  rw [eq_pyS (toPyA_of h.1) (toPyA_of h.1) hs s s, eqv_self p h.2.lay]
  cases neg <;> rfl
end JR
end
section
set_option maxHeartbeats 1000000
namespace JR
open PySem PySem.Spec PyProof.Rows L2 DM
/-! ### what is read is put as it stood -/
theorem rd_back : ∀ (j t tot : Nat) (os : List Nat) {n k : Nat}, (∀ b ∈ os, b < 256) → rdN j t tot os = some (n, k) → ∃ m r, os = nO m ++ r ∧ k = t + (nO m).length ∧ n = tot + m * 128 ^ t ∧ (0 < t → 0 < m)
  | 0, _, _, _, _, _, _, h => by cases h
  | _ + 1, _, _, [], _, _, _, h => by cases h
  | j + 1, t, tot, b :: r, n, k, ho, h => by
    have h : (if b = 0 ∧ 0 < t then none else if b < 128 then some (tot + b % 128 * 128 ^ t, t + 1) else rdN j (t + 1) (tot + b % 128 * 128 ^ t) r) = some (n, k) := h
    have hb := ho b List.mem_cons_self
    by_cases h0 : b = 0 ∧ 0 < t
    · rw [if_pos h0] at h; cases h
    rw [if_neg h0] at h
    by_cases hs : b < 128
    · rw [if_pos hs] at h
      cases h
      refine ⟨b, r, by rw [nO_small (by omega)]; rfl, by rw [nO_small (by omega)]; rfl, by rw [Nat.mod_eq_of_lt hs], fun ht => ?_⟩
      exact Nat.pos_of_ne_zero fun z => h0 ⟨z, ht⟩
    · rw [if_neg hs] at h
      obtain ⟨m, r', e1, e2, e3, e4⟩ := rd_back j (t + 1) _ r (fun x hx => ho x (List.mem_cons_of_mem _ hx)) h
      have hm := e4 (Nat.succ_pos t)
      have q1 : (b % 128 + 128 * m) % 128 = b % 128 := by omega
      have q2 : (b % 128 + 128 * m) / 128 = m := by omega
      have hn : nO (b % 128 + 128 * m) = b :: nO m := by
        rw [nO_big (by omega), q1, q2, show 128 + b % 128 = b by omega]
      refine ⟨b % 128 + 128 * m, r', by rw [hn, e1]; rfl, by rw [hn, e2, List.length_cons]; omega, ?_, fun _ => by omega⟩
      rw [e3, Nat.pow_succ, Nat.add_mul, Nat.add_assoc]
      congr 2
      rw [Nat.mul_comm (128 ^ t) 128, ← Nat.mul_assoc, Nat.mul_comm m 128]
theorem rdNum_back {os : List Nat} {n k : Nat} (ho : ∀ b ∈ os, b < 256) (h : rdNum os = some (n, k)) : ∃ r, os = nO n ++ r ∧ k = (nO n).length := by
  obtain ⟨m, r, e1, e2, e3, _⟩ := rd_back 9 0 0 os ho h
  have : n = m := by rw [e3, Nat.pow_zero]; omega
  subst this
  exact ⟨r, e1, by omega⟩
theorem rdN_lt : ∀ {j t tot : Nat} {os : List Nat} {n k : Nat}, tot < 128 ^ t → rdN j t tot os = some (n, k) → n < 128 ^ (t + j)
  | 0, _, _, _, _, _, _, h => by cases h
  | _ + 1, _, _, [], _, _, _, h => by cases h
  | j + 1, t, tot, b :: r, n, k, ht, h => by
    have h : (if b = 0 ∧ 0 < t then none else if b < 128 then some (tot + b % 128 * 128 ^ t, t + 1) else rdN j (t + 1) (tot + b % 128 * 128 ^ t) r) = some (n, k) := h
    have hb : b % 128 < 128 := Nat.mod_lt _ (by decide)
    have hn : tot + b % 128 * 128 ^ t < 128 ^ (t + 1) := by
      have h1 : b % 128 * 128 ^ t ≤ 127 * 128 ^ t := Nat.mul_le_mul_right _ (by omega)
      have h2 : 128 ^ (t + 1) = 128 * 128 ^ t := by rw [Nat.pow_succ, Nat.mul_comm]
      omega
    split at h
    · cases h
    · split at h
      · cases h
        exact Nat.lt_of_lt_of_le hn (Nat.pow_le_pow_right (by decide) (by omega))
      · have := rdN_lt (j := j) hn h
        rwa [show t + 1 + j = t + (j + 1) by omega] at this
theorem rdNum_lt {os : List Nat} {n k : Nat} (h : rdNum os = some (n, k)) : n < 9223372036854775808 := rdN_lt (j := 9) (t := 0) (by decide) h
theorem zz_uz {n : Nat} : zz (uz n) = n := by
  unfold uz zz
  by_cases h : n % 2 = 0
  · rw [if_pos h, if_pos (by omega)]; omega
  · rw [if_neg h, if_neg (by omega)]; omega
end JR
end
section
set_option maxHeartbeats 2000000
namespace K02
open PySem PySem.Spec PyProof.Rows L2 DM JR
def Gr (h q : Nat) (A A' : AH) : Prop := A.length ≤ A'.length ∧ HS h q A' ∧ ∀ n, n < A.length → n ≠ h → n ≠ q → A'[n]? = A[n]?
section
variable {h q : Nat} {A A' A'' : AH}
theorem Gr.refl (hs : HS h q A) : Gr h q A A := ⟨Nat.le_refl _, hs, fun _ _ _ _ => rfl⟩
theorem Gr.trans (a : Gr h q A A') (b : Gr h q A' A'') : Gr h q A A'' := ⟨Nat.le_trans a.1 b.1, b.2.1, fun n h1 h2 h3 => (b.2.2 n (Nat.lt_of_lt_of_le h1 a.1) h2 h3).trans (a.2.2 n h1 h2 h3)⟩
theorem Gr.draw (d : Drawn h q A A') : Gr h q A A' := ⟨by rw [d.1]; exact Nat.le_refl _, d.2.1, fun n _ => d.2.2 n⟩
theorem Gr.push (hs : HS h q A) (G : AH) : Gr h q A (A ++ G) := ⟨by rw [List.length_append]; omega, hs_push hs G, fun n h1 _ _ => List.getElem?_append_left h1⟩
theorem Gr.at (g : Gr h q A A') {n : Nat} {o : AO} (e : A[n]? = some o) (h1 : n ≠ h) (h2 : n ≠ q) : A'[n]? = some o := (g.2.2 n (lt_of e) h1 h2).trans e
end
section
variable {h q : Nat} {A : AH}
theorem callF_at {n : Nat} {g : List D → AH → Res D} {ms : MA} {ρ : DM.Env} {A A1 : AH} {ds : List D} {r : Res D} (hm : ms ρ A = .ok ds A1) (hl : ds.length = n) (hg : g ds A1 = r) : mCallF n g ms ρ A = r := by
  rw [ev_callF, hm, bind_ok, if_pos hl, hg]
theorem draw_big {k : Int} (hs : HS h q A) (h0 : 0 < k) (h1 : k < 1180591620717411303424) : ∃ (v : Nat) (A' : AH), f__law_draw [.ref h, .int k] A = .ok (.int (v : Int)) A' ∧ Drawn h q A A' := by
  obtain ⟨v, A', e, v0, v1, dr⟩ := draw_ok (k := k) hs h0 h1
  exact ⟨v.toNat, A', by rw [show ((v.toNat : Nat) : Int) = v by omega]; exact e, dr⟩
theorem oct_one (hs : HS h q A) {x1 x2 : Option D} : ∃ b A', mCallF 2 f__law_pick (mCons (mVar 0) (mCons (mLst (mCons (mK (.int 0)) (mCons (mK (.int 1)) (mCons (mK (.int 127)) (mCons (mK (.int 128)) (mCons (mK (.int 129)) (mCons (mK (.int 255)) (mCons (mCallF 2 f__law_draw (mCons (mVar 0) (mCons (mK (.int 256)) (mNil)))) (mNil))))))))) (mNil))) [some (.ref h), x1, x2] A = .ok (.int ((b : Nat) : Int)) A' ∧ b < 256 ∧ Drawn h q A A' := by
  obtain ⟨v, A1, e1, hv, d1⟩ := draw_nat (k := 256) hs (by decide) (by decide)
  rw [show ((256 : Nat) : Int) = 256 from rfl] at e1
  obtain ⟨d, hd, A2, e2, d2⟩ := pick_lst (xs := [.int 0, .int 1, .int 127, .int 128, .int 129, .int 255, .int (v : Int)]) d1.2.1 (by show 0 < 7; omega) (by show 7 < 1000; omega)
  obtain ⟨b, hb, rfl⟩ : ∃ b : Nat, b < 256 ∧ d = .int (b : Int) := by
    simp only [List.mem_cons, List.not_mem_nil, or_false] at hd
    rcases hd with rfl | rfl | rfl | rfl | rfl | rfl | rfl
    · exact ⟨0, by decide, rfl⟩
    · exact ⟨1, by decide, rfl⟩
    · exact ⟨127, by decide, rfl⟩
    · exact ⟨128, by decide, rfl⟩
    · exact ⟨129, by decide, rfl⟩
    · exact ⟨255, by decide, rfl⟩
    · exact ⟨v, hv, rfl⟩
  refine ⟨b, A2, ?_, hb, d1.trans d2⟩
  simp only [EVa, List.getElem?_cons_zero, List.getElem?_cons_succ, List.set_cons_zero, List.set_cons_succ, bind_ok, lift_ok, List.length_cons, List.length_nil, Nat.reduceAdd, Nat.reduceLeDiff, ↓reduceIte, if_true, if_false, Bool.false_eq_true, ev_raise, and_self, List.map_cons, List.map_nil, List.replicate, List.cons_append, List.nil_append, Nat.reduceSub, e1, e2]
theorem comp_oct {iv : ItV} {all : List D} {x1 x2 : Option D} (hit : ∀ A, itemsOf A iv = some all) : ∀ (xs acc : List D) (A : AH), HS h q A →
    ∃ os A', compGo iv all (.nm 2) mYes (mCallF 2 f__law_pick (mCons (mVar 0) (mCons (mLst (mCons (mK (.int 0)) (mCons (mK (.int 1)) (mCons (mK (.int 127)) (mCons (mK (.int 128)) (mCons (mK (.int 129)) (mCons (mK (.int 255)) (mCons (mCallF 2 f__law_draw (mCons (mVar 0) (mCons (mK (.int 256)) (mNil)))) (mNil))))))))) (mNil)))) [some (.ref h), x1, x2] xs acc A = .ok (acc ++ dI os) A' ∧ os.length = xs.length ∧ (∀ b ∈ os, b < 256) ∧ Drawn h q A A'
  | [], acc, A, hs => ⟨[], A, by rw [comp_nil (hit A)]; simp [dI], rfl, (fun _ h => nomatch h), ⟨rfl, hs, fun _ _ _ => rfl⟩⟩
  | x :: xs, acc, A, hs => by
    obtain ⟨b, A1, e1, hb, d1⟩ := oct_one hs (x1 := x1) (x2 := some x)
    obtain ⟨os, A2, e2, l2, o2, d2⟩ := comp_oct hit xs (acc ++ [.int (b : Int)]) A1 d1.2.1
    refine ⟨b :: os, A2, ?_, by rw [List.length_cons, List.length_cons, l2], fun z hz => (List.mem_cons.mp hz).elim (fun w => by rw [w]; exact hb) (o2 z), d1.trans d2⟩
    rw [comp_step (ρ1 := [some (.ref h), x1, some x]) (y := .int (b : Int)) (A1 := A) (A2 := A1) (hit A) rfl rfl e1, e2, List.append_assoc]
    rfl
theorem octets_ok (hs : HS h q A) {m : Nat} (hm : m ≤ 1000) : ∃ os A', f__law_octets [.ref h, .int (m : Int)] A = .ok (.tup (dI os)) A' ∧ os.length = m ∧ (∀ b ∈ os, b < 256) ∧ Drawn h q A A' := by
  obtain ⟨os, A', e, l, o, d⟩ := comp_oct (iv := .rng 0 (m : Int)) (all := (List.range ((m : Int) - 0).toNat).map fun i : Nat => D.int (0 + (i : Int))) (x1 := some (.int (m : Int))) (x2 := none) (fun _ => rfl) ((List.range ((m : Int) - 0).toNat).map fun i : Nat => D.int (0 + (i : Int))) [] A hs
  have hl : os.length = m := by rw [l, List.length_map, List.length_range]; omega
  refine ⟨os, A', ?_, hl, o, d⟩
  have lc : mLc false (mR1 (mCons (mVar 1) (mNil))) (.nm 2) (mYes) (mCallF 2 f__law_pick (mCons (mVar 0) (mCons (mLst (mCons (mK (.int 0)) (mCons (mK (.int 1)) (mCons (mK (.int 127)) (mCons (mK (.int 128)) (mCons (mK (.int 129)) (mCons (mK (.int 255)) (mCons (mCallF 2 f__law_draw (mCons (mVar 0) (mCons (mK (.int 256)) (mNil)))) (mNil))))))))) (mNil)))) [2] [some (.ref h), some (.int (m : Int)), none] A = .ok (.lst (dI os)) A' := by
    rw [ev_lc, r1_at (j := (m : Int)) (A1 := A) rfl ⟨by omega, by omega⟩, bind_ok]
    simp only [show itemsOf A (.rng 0 (m : Int)) = some ((List.range ((m : Int) - 0).toNat).map fun i : Nat => D.int (0 + (i : Int))) from rfl]
    rw [if_pos (by rw [List.length_map, List.length_range]; omega)]
    refine (congrArg (fun z => Res.bind z _) e).trans ?_
    rfl
  unfold f__law_octets
  refine fun_rt ?_
  rw [ev_ret]
  simp only [List.map_cons, List.map_nil, List.length_cons, List.length_nil, Nat.reduceAdd, Nat.reduceSub, List.replicate, List.cons_append, List.nil_append]
  rw [ev_call, ev_cons, lc, bind_ok, ev_nil, bind_ok, bind_ok, tup_lst, lift_ok]
theorem max2_ii {i j : Int} {A : AH} : fMax2 [.int i, .int j] A = .ok (.int (if j > i then j else i)) A := rfl
theorem min2_ii {i j : Int} {A : AH} : fMin2 [.int i, .int j] A = .ok (.int (if j < i then j else i)) A := rfl
theorem min_nat {x g : Int} (hx : 0 ≤ x) (hg : 0 ≤ g) : ∃ n : Nat, (if x < g then x else g) = (n : Int) ∧ (n : Int) ≤ g := by
  by_cases z : x < g
  · exact ⟨x.toNat, by rw [if_pos z]; omega, by omega⟩
  · exact ⟨g.toNat, by rw [if_neg z]; omega, by omega⟩
theorem size_go {iv : ItV} {all : List D} {R : DM.Env} (hit : ∀ A, itemsOf A iv = some all) : ∀ (xs : List D) (s : Nat) (A : AH) (x2 : Option D), 1 ≤ s → ∃ s' y2, 1 ≤ s' ∧ forGo iv all (.nm 2) (mSet 1 (mOp fMulA (mK (.int 128)) (mVar 1))) xs (some (.ref h) :: some (.int (s : Int)) :: x2 :: R) A = .nx (some (.ref h) :: some (.int ((s' : Nat) : Int)) :: y2 :: R) A
  | [], s, A, x2, h1 => ⟨s, x2, h1, for_nil (hit A)⟩
  | x :: xs, s, A, x2, h1 => by
    obtain ⟨s', y2, h2, e⟩ := size_go hit xs (128 * s) A (some x) (by omega)
    have cm : CMul 128 (s : Int) := .inl ⟨by decide, by decide⟩
    have e1 : (128 : Int) * (s : Int) = ((128 * s : Nat) : Int) := by omega
    refine ⟨s', y2, h2, ?_⟩
    rw [for_nx (ρ2 := some (.ref h) :: some (.int ((128 * s : Nat) : Int)) :: some x :: R) (A2 := A) (hit A) rfl ?_, e]
    simp only [EVa, List.getElem?_cons_zero, List.getElem?_cons_succ, List.set_cons_zero, List.set_cons_succ, bind_ok, lift_ok, List.length_cons, List.length_nil, Nat.reduceAdd, Nat.reduceLeDiff, ↓reduceIte, if_true, if_false, Bool.false_eq_true, ev_raise, and_self, List.map_cons, List.map_nil, List.replicate, List.cons_append, List.nil_append, Nat.reduceSub, mulA_ii cm, e1]
theorem uz_law {n : Nat} {A : AH} {ρ : DM.Env} (h4 : ρ[4]? = some (some (.int (n : Int)))) : (mIf (mTst (mOp (fEq false) (mOp fMod (mCall fInt (mCons (mVar 4) (mNil))) (mK (.int 2))) (mK (.int 0)))) (mOp fDiv (mVar 4) (mK (.int 2))) (mOp fSub (mOp fSub (mK (.int 0)) (mOp fDiv (mVar 4) (mK (.int 2)))) (mK (.int 1)))) ρ A = .ok (.int (uz n)) A := by
  have v4 : mVar 4 ρ A = .ok (.int (n : Int)) A := by rw [ev_var, h4]
  have e2 : (n : Int) % 2 = ((n % 2 : Nat) : Int) := by omega
  have cd : CDiv (n : Int) 2 := ⟨by decide, by decide⟩
  unfold uz
  by_cases z : n % 2 = 0
  · rw [if_pos z]
    simp only [ev_if, ev_tst, ev_op, ev_call, ev_cons, ev_nil, ev_K, v4, bind_ok, fInt_ii, mod_ii (show (0 : Int) < 2 by decide), e2, eq_ii, decide_eq_true (show ((n % 2 : Nat) : Int) = 0 by omega), if_true, div_ii cd]
  · rw [if_neg z]
    simp only [ev_if, ev_tst, ev_op, ev_call, ev_cons, ev_nil, ev_K, v4, bind_ok, fInt_ii, mod_ii (show (0 : Int) < 2 by decide), e2, eq_ii, decide_eq_false (show ¬ ((n % 2 : Nat) : Int) = 0 by omega), Bool.false_eq_true, if_false, div_ii cd, sub_ii, Int.zero_sub]
theorem there_ok (hs : HS h q A) : ∃ A', m__law_there_and_back f__law_figures f_get_integer f__law_draw f__law_pick f__law_octets f_put_number f_get_number rwM f_put_integer [.ref h] A = .ok (.bl true) A' ∧ Gr h q A A' := by
  obtain ⟨v1, A1, e1, hv1, d1⟩ := draw_nat (k := 10) hs (by decide) (by decide)
  rw [show ((10 : Nat) : Int) = 10 from rfl] at e1
  obtain ⟨s, y2, s1, go⟩ := size_go (h := h) (R := [none, none, none, none, none, none, none]) (iv := .rng 0 (v1 : Int)) (all := (List.range ((v1 : Int) - 0).toNat).map fun i : Nat => D.int (0 + (i : Int))) (fun _ => rfl) ((List.range ((v1 : Int) - 0).toNat).map fun i : Nat => D.int (0 + (i : Int))) 1 A1 none (Nat.le_refl _)
  obtain ⟨u1, A2, e2, hu1, d2⟩ := draw_nat (k := 200) d1.2.1 (by decide) (by decide)
  rw [show ((200 : Nat) : Int) = 200 from rfl] at e2
  obtain ⟨u2, A3, e3, d3⟩ := draw_big (k := 9223372036854775807) d2.2.1 (by decide) (by decide)
  obtain ⟨mx, hmx⟩ : ∃ mx : Int, mx = (if (s : Int) - 1 > 0 then (s : Int) - 1 else 0) := ⟨_, rfl⟩
  have mx0 : 0 ≤ mx := by rw [hmx]; split <;> omega
  obtain ⟨d, hd, A4, e4, d4⟩ := pick_lst (xs := [.int (u1 : Int), .int mx, .int (s : Int), .int ((s : Int) + 1), .int 9223372036854775807, .int (u2 : Int)]) d3.2.1 (by show 0 < 6; omega) (by show 6 < 1000; omega)
  obtain ⟨x, hx, rfl⟩ : ∃ x : Int, 0 ≤ x ∧ d = .int x := by
    simp only [List.mem_cons, List.not_mem_nil, or_false] at hd
    rcases hd with rfl | rfl | rfl | rfl | rfl | rfl
    · exact ⟨_, by omega, rfl⟩
    · exact ⟨_, mx0, rfl⟩
    · exact ⟨_, by omega, rfl⟩
    · exact ⟨_, by omega, rfl⟩
    · exact ⟨_, by decide, rfl⟩
    · exact ⟨_, by omega, rfl⟩
  obtain ⟨n, hn, hng⟩ := min_nat (g := 9223372036854775807) hx (by decide)
  have hn9 : (nO n).length ≤ 9 := nO_len 8 n (by
    have : n < 9223372036854775808 := by omega
    exact Nat.lt_of_lt_of_le this (by decide))
  obtain ⟨v5, A5, e5, hv5, d5⟩ := draw_nat (k := 4) d4.2.1 (by decide) (by decide)
  obtain ⟨oa, A6, e6, la, ha, d6⟩ := octets_ok d5.2.1 (m := v5) (by omega)
  obtain ⟨v7, A7, e7, hv7, d7⟩ := draw_nat (k := 4) d6.2.1 (by decide) (by decide)
  obtain ⟨ob, A8, e8, lb, hb, d8⟩ := octets_ok d7.2.1 (m := v7) (by omega)
  rw [show ((4 : Nat) : Int) = 4 from rfl] at e5 e7
  have D8 : Drawn h q A A8 := d1.trans (d2.trans (d3.trans (d4.trans (d5.trans (d6.trans (d7.trans d8))))))
  have hno := nO_oct n
  obtain ⟨G1, f1⟩ := figures_ok (n := n) (by omega) A8
  generalize hA9 : A8 ++ G1 = A9 at f1
  obtain ⟨G2, f2⟩ := put_number_ok (n := n) (by omega) A9
  generalize hA10 : A9 ++ G2 = A10 at f2
  obtain ⟨G3, f3⟩ := put_number_ok (n := n) (by omega) A10
  generalize hA11 : A10 ++ G3 = A11 at f3
  have zu := zz_uz (n := n)
  obtain ⟨G4, f4⟩ := put_integer_ok (i := uz n) (by rw [zu]; omega) A11
  rw [zu] at f4
  generalize hA12 : A11 ++ G4 = A12 at f4
  obtain ⟨G5, f5⟩ := put_integer_ok (i := uz n) (by rw [zu]; omega) A12
  rw [zu] at f5
  generalize hA13 : A12 ++ G5 = A13 at f5
  have g13 : Gr h q A A13 := by
    have z1 : A13 = A8 ++ (G1 ++ (G2 ++ (G3 ++ (G4 ++ G5)))) := by rw [← hA13, ← hA12, ← hA11, ← hA10, ← hA9]; simp
    rw [z1]
    refine ⟨by rw [List.length_append, D8.1]; omega, hs_push D8.2.1 _, fun m a b c => ?_⟩
    rw [List.getElem?_append_left (by rw [D8.1]; exact a)]
    exact D8.2.2 m b c
  refine ⟨A13, ?_, g13⟩
  have sho := shd_oct (os := nO n) hno
  have rpo := fun B => repr_shd (A := B) sho (by decide) (by omega)
  have shn : Shd 0 64 (.int (n : Int)) (.int (n : Int)) := shd_int (by omega)
  have rpn := fun B => repr_shd (A := B) shn (by decide) (by omega)
  have shu : Shd 0 64 (.int (uz n)) (.int (uz n)) := shd_int (by unfold uz; split <;> omega)
  have shl : Shd 0 64 (.int ((oa.length + (nO n).length : Nat) : Int)) (.int ((oa.length + (nO n).length : Nat) : Int)) := shd_int (by omega)
  have rp2 := fun B => repr_shd (A := B) (shd_tup (shl_cons (k := 0) (w := 64) shn (by omega) (by omega) (shl_cons shl (by omega) (by omega) shl_nil))) (by decide) (by simp)
  have rp3 := fun B => repr_shd (A := B) (shd_tup (shl_cons (k := 0) (w := 64) shu (by omega) (by omega) (shl_cons shl (by omega) (by omega) shl_nil))) (by decide) (by simp)
  have ad1 : ∀ B, fAdd (.tup (dI oa)) (.tup (dI (nO n))) B = .ok (.tup (dI (oa ++ nO n))) B := fun B => add_oct (by omega)
  have ad2 : ∀ B, fAdd (.tup (dI (oa ++ nO n))) (.tup (dI ob)) B = .ok (.tup (dI (oa ++ nO n ++ ob))) B := fun B => add_oct (by rw [List.length_append]; omega)
  have hr : (oa ++ nO n ++ ob).drop oa.length = nO n ++ ob := by rw [List.append_assoc, List.drop_left]
  have gn : ∀ B, f_get_number [.tup (dI (oa ++ nO n ++ ob)), .int ((oa.length : Nat) : Int)] B = .ok (.tup [.int (n : Int), .int ((oa.length + (nO n).length : Nat) : Int)]) B := fun B => get_number_ok hr hn9
  have gi : ∀ B, f_get_integer [.tup (dI (oa ++ nO n ++ ob)), .int ((oa.length : Nat) : Int)] B = .ok (.tup [.int (uz n), .int ((oa.length + (nO n).length : Nat) : Int)]) B := fun B => by
    have := get_integer_ok (i := uz n) (A := B) (p := oa.length) (os := oa ++ nO n ++ ob) (rest := ob) (by rw [zu]; exact hr) (by rw [zu]; exact hn9)
    rw [zu] at this
    exact this
  have la' : ∀ B, fLen [.tup (dI oa)] B = .ok (.int ((oa.length : Nat) : Int)) B := fun B => len_tup
  have ln' : ∀ B, fLen [.tup (dI (nO n))] B = .ok (.int (((nO n).length : Nat) : Int)) B := fun B => len_tup
  have ec : ((oa.length : Nat) : Int) + (((nO n).length : Nat) : Int) = ((oa.length + (nO n).length : Nat) : Int) := by omega
  have fw := rdNum_fwd (n := n) (rest := []) hn9 (fun _ h => nomatch h)
  rw [List.append_nil] at fw
  have rn : ∀ B, rwM [.str "number", .tup (dI (nO n))] B = .ok (.int (n : Int)) B := fun B => by
    rw [rw_number hno, fw]
    exact if_pos rfl
  have ri : ∀ B, rwM [.str "integer", .tup (dI (nO n))] B = .ok (.int (uz n)) B := fun B => by
    rw [rw_integer hno, fw]
    exact if_pos rfl
  unfold m__law_there_and_back
  refine fun_rt ?_
  refine (seq_nx (ρ1 := [some (.ref h), some (.int 1), none, none, none, none, none, none, none, none]) (A1 := A) ?_).trans ?_
  · simp only [EVa, List.getElem?_cons_zero, List.getElem?_cons_succ, List.set_cons_zero, List.set_cons_succ, bind_ok, lift_ok, List.length_cons, List.length_nil, Nat.reduceAdd, Nat.reduceLeDiff, ↓reduceIte, if_true, if_false, Bool.false_eq_true, ev_raise, and_self, List.map_cons, List.map_nil, List.replicate, List.cons_append, List.nil_append, Nat.reduceSub]
  refine (seq_nx (ρ1 := [some (.ref h), some (.int (s : Int)), y2, none, none, none, none, none, none, none]) (A1 := A1) ?_).trans ?_
  · rw [ev_for, r1_at (j := (v1 : Int)) (A1 := A1) (by simp only [EVa, List.getElem?_cons_zero, List.getElem?_cons_succ, List.set_cons_zero, List.set_cons_succ, bind_ok, lift_ok, List.length_cons, List.length_nil, Nat.reduceAdd, Nat.reduceLeDiff, ↓reduceIte, if_true, if_false, Bool.false_eq_true, ev_raise, and_self, List.map_cons, List.map_nil, List.replicate, List.cons_append, List.nil_append, Nat.reduceSub, e1]) ⟨by omega, by omega⟩, lift_ok]
    exact go
  refine (seq_nx (ρ1 := [some (.ref h), some (.int (s : Int)), y2, some (.int (9223372036854775807 : Int)), none, none, none, none, none, none]) (A1 := A1) ?_).trans ?_
  · simp only [EVa, List.getElem?_cons_zero, List.getElem?_cons_succ, List.set_cons_zero, List.set_cons_succ, bind_ok, lift_ok, List.length_cons, List.length_nil, Nat.reduceAdd, Nat.reduceLeDiff, ↓reduceIte, if_true, if_false, Bool.false_eq_true, ev_raise, and_self, List.map_cons, List.map_nil, List.replicate, List.cons_append, List.nil_append, Nat.reduceSub]
  refine (seq_nx (ρ1 := [some (.ref h), some (.int (s : Int)), y2, some (.int (9223372036854775807 : Int)), some (.int (n : Int)), none, none, none, none, none]) (A1 := A4) ?_).trans ?_
  · simp only [EVa, List.getElem?_cons_zero, List.getElem?_cons_succ, List.set_cons_zero, List.set_cons_succ, bind_ok, lift_ok, List.length_cons, List.length_nil, Nat.reduceAdd, Nat.reduceLeDiff, ↓reduceIte, if_true, if_false, Bool.false_eq_true, ev_raise, and_self, List.map_cons, List.map_nil, List.replicate, List.cons_append, List.nil_append, Nat.reduceSub, e2, sub_ii, max2_ii, ← hmx, add_ii, e3, e4, min2_ii, hn]
  refine (seq_nx (ρ1 := [some (.ref h), some (.int (s : Int)), y2, some (.int (9223372036854775807 : Int)), some (.int (n : Int)), some (.tup (dI oa)), some (.tup (dI ob)), none, none, none]) (A1 := A8) ?_).trans ?_
  · have q1 : mCallF 2 f__law_octets (mCons (mVar 0) (mCons (mCallF 2 f__law_draw (mCons (mVar 0) (mCons (mK (.int 4)) (mNil)))) (mNil))) [some (.ref h), some (.int (s : Int)), y2, some (.int (9223372036854775807 : Int)), some (.int (n : Int)), none, none, none, none, none] A4 = .ok (.tup (dI oa)) A6 := callF_at (A1 := A5) (ds := [.ref h, .int (v5 : Int)]) (by simp only [EVa, List.getElem?_cons_zero, List.getElem?_cons_succ, List.set_cons_zero, List.set_cons_succ, bind_ok, lift_ok, List.length_cons, List.length_nil, Nat.reduceAdd, Nat.reduceLeDiff, ↓reduceIte, if_true, if_false, Bool.false_eq_true, ev_raise, and_self, List.map_cons, List.map_nil, List.replicate, List.cons_append, List.nil_append, Nat.reduceSub, e5]) rfl e6
    have q2 : mCallF 2 f__law_octets (mCons (mVar 0) (mCons (mCallF 2 f__law_draw (mCons (mVar 0) (mCons (mK (.int 4)) (mNil)))) (mNil))) [some (.ref h), some (.int (s : Int)), y2, some (.int (9223372036854775807 : Int)), some (.int (n : Int)), none, none, none, none, none] A6 = .ok (.tup (dI ob)) A8 := callF_at (A1 := A7) (ds := [.ref h, .int (v7 : Int)]) (by simp only [EVa, List.getElem?_cons_zero, List.getElem?_cons_succ, List.set_cons_zero, List.set_cons_succ, bind_ok, lift_ok, List.length_cons, List.length_nil, Nat.reduceAdd, Nat.reduceLeDiff, ↓reduceIte, if_true, if_false, Bool.false_eq_true, ev_raise, and_self, List.map_cons, List.map_nil, List.replicate, List.cons_append, List.nil_append, Nat.reduceSub, e7]) rfl e8
    rw [ev_par2, ev_cons, q1, bind_ok, ev_cons, q2, bind_ok, ev_nil, bind_ok, bind_ok, lift_ok]
    rfl
  refine (seq_nx (ρ1 := [some (.ref h), some (.int (s : Int)), y2, some (.int (9223372036854775807 : Int)), some (.int (n : Int)), some (.tup (dI oa)), some (.tup (dI ob)), some (.tup (dI (nO n))), none, none]) (A1 := A9) ?_).trans ?_
  · simp only [EVa, List.getElem?_cons_zero, List.getElem?_cons_succ, List.set_cons_zero, List.set_cons_succ, bind_ok, lift_ok, List.length_cons, List.length_nil, Nat.reduceAdd, Nat.reduceLeDiff, ↓reduceIte, if_true, if_false, Bool.false_eq_true, ev_raise, and_self, List.map_cons, List.map_nil, List.replicate, List.cons_append, List.nil_append, Nat.reduceSub, f1]
  refine (seq_nx (ρ1 := [some (.ref h), some (.int (s : Int)), y2, some (.int (9223372036854775807 : Int)), some (.int (n : Int)), some (.tup (dI oa)), some (.tup (dI ob)), some (.tup (dI (nO n))), none, none]) (A1 := A11) ?_).trans ?_
  · simp only [EVa, List.getElem?_cons_zero, List.getElem?_cons_succ, List.set_cons_zero, List.set_cons_succ, bind_ok, lift_ok, List.length_cons, List.length_nil, Nat.reduceAdd, Nat.reduceLeDiff, ↓reduceIte, if_true, if_false, Bool.false_eq_true, ev_raise, and_self, List.map_cons, List.map_nil, List.replicate, List.cons_append, List.nil_append, Nat.reduceSub, f2, rpo, ne_ss, decide_true, Bool.not_true, show ∀ d : D, DM.pick [0] [d] = [d] from fun _ => rfl, f3, eq_tups]
  refine (seq_nx (ρ1 := [some (.ref h), some (.int (s : Int)), y2, some (.int (9223372036854775807 : Int)), some (.int (n : Int)), some (.tup (dI oa)), some (.tup (dI ob)), some (.tup (dI (nO n))), none, none]) (A1 := A11) ?_).trans ?_
  · simp only [EVa, List.getElem?_cons_zero, List.getElem?_cons_succ, List.set_cons_zero, List.set_cons_succ, bind_ok, lift_ok, List.length_cons, List.length_nil, Nat.reduceAdd, Nat.reduceLeDiff, ↓reduceIte, if_true, if_false, Bool.false_eq_true, ev_raise, and_self, List.map_cons, List.map_nil, List.replicate, List.cons_append, List.nil_append, Nat.reduceSub, ad1, ad2, la', ln', gn, rp2, add_ii, ec, ne_ss, decide_true, Bool.not_true]
  refine (seq_nx (ρ1 := [some (.ref h), some (.int (s : Int)), y2, some (.int (9223372036854775807 : Int)), some (.int (n : Int)), some (.tup (dI oa)), some (.tup (dI ob)), some (.tup (dI (nO n))), none, none]) (A1 := A11) ?_).trans ?_
  · simp only [EVa, List.getElem?_cons_zero, List.getElem?_cons_succ, List.set_cons_zero, List.set_cons_succ, bind_ok, lift_ok, List.length_cons, List.length_nil, Nat.reduceAdd, Nat.reduceLeDiff, ↓reduceIte, if_true, if_false, Bool.false_eq_true, ev_raise, and_self, List.map_cons, List.map_nil, List.replicate, List.cons_append, List.nil_append, Nat.reduceSub, rn, rpn, ne_ss, decide_true, Bool.not_true, show ∀ d e : D, DM.pick [1, 0] [d, e] = [e, d] from fun _ _ => rfl, ne_ii]
  refine (seq_nx (ρ1 := [some (.ref h), some (.int (s : Int)), y2, some (.int (9223372036854775807 : Int)), some (.int (n : Int)), some (.tup (dI oa)), some (.tup (dI ob)), some (.tup (dI (nO n))), some (.int (uz n)), none]) (A1 := A11) ?_).trans ?_
  · rw [ev_set, uz_law (n := n) rfl, lift_ok]
    rfl
  refine (seq_nx (ρ1 := [some (.ref h), some (.int (s : Int)), y2, some (.int (9223372036854775807 : Int)), some (.int (n : Int)), some (.tup (dI oa)), some (.tup (dI ob)), some (.tup (dI (nO n))), some (.int (uz n)), none]) (A1 := A13) ?_).trans ?_
  · simp only [EVa, List.getElem?_cons_zero, List.getElem?_cons_succ, List.set_cons_zero, List.set_cons_succ, bind_ok, lift_ok, List.length_cons, List.length_nil, Nat.reduceAdd, Nat.reduceLeDiff, ↓reduceIte, if_true, if_false, Bool.false_eq_true, ev_raise, and_self, List.map_cons, List.map_nil, List.replicate, List.cons_append, List.nil_append, Nat.reduceSub, f4, rpo, ne_ss, decide_true, Bool.not_true, show ∀ d : D, DM.pick [0] [d] = [d] from fun _ => rfl, f5, eq_tups]
  refine (seq_nx (ρ1 := [some (.ref h), some (.int (s : Int)), y2, some (.int (9223372036854775807 : Int)), some (.int (n : Int)), some (.tup (dI oa)), some (.tup (dI ob)), some (.tup (dI (nO n))), some (.int (uz n)), some (.tup [.int (uz n), .int ((oa.length + (nO n).length : Nat) : Int)])]) (A1 := A13) ?_).trans ?_
  · simp only [EVa, List.getElem?_cons_zero, List.getElem?_cons_succ, List.set_cons_zero, List.set_cons_succ, bind_ok, lift_ok, List.length_cons, List.length_nil, Nat.reduceAdd, Nat.reduceLeDiff, ↓reduceIte, if_true, if_false, Bool.false_eq_true, ev_raise, and_self, List.map_cons, List.map_nil, List.replicate, List.cons_append, List.nil_append, Nat.reduceSub, la', ad1, ad2, show ∀ d e : D, DM.pick [1, 0] [d, e] = [e, d] from fun _ _ => rfl, gi]
  · simp only [EVa, List.getElem?_cons_zero, List.getElem?_cons_succ, List.set_cons_zero, List.set_cons_succ, bind_ok, lift_ok, List.length_cons, List.length_nil, Nat.reduceAdd, Nat.reduceLeDiff, ↓reduceIte, if_true, if_false, Bool.false_eq_true, ev_raise, and_self, List.map_cons, List.map_nil, List.replicate, List.cons_append, List.nil_append, Nat.reduceSub, rp3, la', ln', add_ii, ec, eq_ss, decide_true, ri, eq_ii]
end
end K02
end
section
set_option maxHeartbeats 2000000
namespace K02
open PySem PySem.Spec PyProof.Rows L2 DM JR
noncomputable abbrev thM : List D → AH → Res D := m__law_there_and_back f__law_figures f_get_integer f__law_draw f__law_pick f__law_octets f_put_number f_get_number rwM f_put_integer
noncomputable abbrev anM (P : Addr) : List D → AH → Res D := m__law_any_octets P f__law_octets f__law_draw f__law_number_at f__law_pick f_put_number f_get_number f_get_integer rwM
/-- what a number tells of octets -/
def numD (p : Nat) : Option (Nat × Nat) → D
  | some (n, k) => .lst [.str "told", .tup [.int (n : Int), .int ((p + k : Nat) : Int)]]
  | none => .lst [.str "bytes", .int (p : Int), .bl true]
def intD (p : Nat) : Option (Nat × Nat) → D
  | some (n, k) => .lst [.str "told", .tup [.int (uz n), .int ((p + k : Nat) : Int)]]
  | none => .lst [.str "bytes", .int (p : Int), .bl true]
def whoD (l : Nat) : Option (Nat × Nat) → D
  | some (n, k) => if k = l then .lst [.str "told", .int (n : Int)] else .lst [.str "bytes", .int (k : Int), .bl true]
  | none => .lst [.str "bytes", .int ((0 : Nat) : Int), .bl true]
theorem sh_told {k w : Nat} {d : D} {p : PyData} (h : Shd k w d p) (hw : 64 ≤ w) : Shd (k + 1) (2 * (w + 1)) (.lst [.str "told", d]) (.list [.str "told", p]) :=
  shd_lst (shl_cons (shd_word (x := "told") (by decide +kernel) (by decide +kernel)) (Nat.zero_le _) hw (shl_cons h (Nat.le_refl _) (Nat.le_refl _) shl_nil))
theorem sh_bytes {p : Nat} (hp : p < 1000000) : Shd 1 195 (.lst [.str "bytes", .int (p : Int), .bl true]) (.list [.str "bytes", .int (p : Int), .bool true]) :=
  shd_lst (shl_cons (k := 0) (w := 64) (shd_word (x := "bytes") (by decide +kernel) (by decide +kernel)) (Nat.zero_le _) (Nat.le_refl _) (shl_cons (shd_int (by omega)) (Nat.le_refl _) (Nat.le_refl _) (shl_cons (k' := 0) (w' := 64) (d := .bl true) (p := .bool true) ⟨rfl, fewB_bool⟩ (Nat.le_refl _) (Nat.le_refl _) shl_nil)))
theorem eq_bytes {p : Nat} {A : AH} {neg : Bool} (hp : p < 1000000) : fEq neg (.lst [.str "bytes", .int (p : Int), .bl true]) (.lst [.str "bytes", .int (p : Int), .bl true]) A = .ok (.bl (!neg)) A := eq_shd (sh_bytes hp) (by decide) rfl
theorem eq_told1 {i : Int} {A : AH} {neg : Bool} (h : i.natAbs < 10 ^ 19) : fEq neg (.lst [.str "told", .int i]) (.lst [.str "told", .int i]) A = .ok (.bl (!neg)) A := eq_shd (sh_told (shd_int h) (Nat.le_refl _)) (by decide) rfl
theorem eq_told2 {i j : Int} {A : AH} {neg : Bool} (h : i.natAbs < 10 ^ 19) (h2 : j.natAbs < 10 ^ 19) : fEq neg (.lst [.str "told", .tup [.int i, .int j]]) (.lst [.str "told", .tup [.int i, .int j]]) A = .ok (.bl (!neg)) A := by
  have s := shd_tup (shl_cons (k := 0) (w := 64) (shd_int h) (Nat.le_refl _) (Nat.le_refl _) (shl_cons (shd_int h2) (Nat.le_refl _) (Nat.le_refl _) shl_nil))
  exact eq_shd (sh_told s (by show 64 ≤ 2 * 65; omega)) (by decide) rfl
section
variable {os : List Nat} {p : Nat} {A : AH} {neg : Bool}
theorem eq_numD (ho : os.length ≤ 1000) (hp : p ≤ 1000) : fEq neg (numD p (rdNum (os.drop p))) (numD p (rdNum (os.drop p))) A = .ok (.bl (!neg)) A := by
  cases h : rdNum (os.drop p) with
  | none => exact eq_bytes (by omega)
  | some nk =>
    obtain ⟨n, k⟩ := nk
    have h1 := rdNum_lt h
    have h2 := (rdNum_len h).2
    rw [List.length_drop] at h2
    exact eq_told2 (by omega) (by omega)
theorem eq_intD (ho : os.length ≤ 1000) (hp : p ≤ 1000) : fEq neg (intD p (rdNum (os.drop p))) (intD p (rdNum (os.drop p))) A = .ok (.bl (!neg)) A := by
  cases h : rdNum (os.drop p) with
  | none => exact eq_bytes (by omega)
  | some nk =>
    obtain ⟨n, k⟩ := nk
    have h1 := rdNum_lt h
    have h2 := (rdNum_len h).2
    rw [List.length_drop] at h2
    exact eq_told2 (by unfold uz; split <;> omega) (by omega)
theorem eq_whoD (ho : os.length ≤ 1000) : fEq neg (whoD os.length (rdNum os)) (whoD os.length (rdNum os)) A = .ok (.bl (!neg)) A := by
  cases h : rdNum os with
  | none => exact eq_bytes (by omega)
  | some nk =>
    obtain ⟨n, k⟩ := nk
    have h1 := rdNum_lt h
    have h2 := (rdNum_len h).2
    unfold whoD
    by_cases z : k = os.length
    · simp only [if_pos z]
      exact eq_told1 (by omega)
    · simp only [if_neg z]
      exact eq_bytes (by omega)
variable {n : Nat} {P : Addr} {q : Str} {me : ME} {ρ : DM.Env}
theorem w_num (hT : A[n]? = some (.tab P q)) (ho : ∀ b ∈ os, b < 256) (h : me ρ A = f_get_number [.tup (dI os), .int (p : Int)] A) : mLam n P q 2 mb__law_heard me ρ A = .ok (numD p (rdNum (os.drop p))) A := by
  have g := get_number_sem (p := p) (A := A) ho
  cases z : rdNum (os.drop p) with
  | none => rw [z] at g; exact heard_bytes hT (h.trans g)
  | some nk => rw [z] at g; exact heard_told hT (h.trans g)
theorem w_int (hT : A[n]? = some (.tab P q)) (ho : ∀ b ∈ os, b < 256) (h : me ρ A = f_get_integer [.tup (dI os), .int (p : Int)] A) : mLam n P q 2 mb__law_heard me ρ A = .ok (intD p (rdNum (os.drop p))) A := by
  have g := get_integer_sem (p := p) (A := A) ho
  cases z : rdNum (os.drop p) with
  | none => rw [z] at g; exact heard_bytes hT (h.trans g)
  | some nk => rw [z] at g; exact heard_told hT (h.trans g)
theorem w_who (hT : A[n]? = some (.tab P q)) (ho : ∀ b ∈ os, b < 256) (h : me ρ A = rwM [.str "number", .tup (dI os)] A) : mLam n P q 2 mb__law_heard me ρ A = .ok (whoD os.length (rdNum os)) A := by
  have g := rw_number (A := A) ho
  cases z : rdNum os with
  | none => rw [z] at g; exact heard_bytes hT (h.trans g)
  | some nk =>
    obtain ⟨m, k⟩ := nk
    rw [z] at g
    show _ = Res.ok (if k = os.length then _ else _) A
    by_cases e : k = os.length
    · rw [if_pos e]
      exact heard_told hT (h.trans (g.trans (if_pos e)))
    · rw [if_neg e]
      exact heard_bytes hT (h.trans (g.trans (if_neg e)))
end
section
variable {h q : Nat} {A : AH}
theorem oct128 {os : List Nat} {iv : ItV} {ρ : DM.Env} {j : Nat} (hj : j < ρ.length) (hit : itemsOf A iv = some (dI os)) : compGo iv (dI os) (.nm j) mYes (mOp fAdd (mK (.int 128)) (mOp fMod (mCall fInt (mCons (mVar j) (mNil))) (mK (.int 128)))) ρ (dI os) [] A = .ok (dI (os.map fun b => 128 + b % 128)) A := by
  have gp := comp_pure (iv := iv) (t := .nm j) (tt := mYes) (me := mOp fAdd (mK (.int 128)) (mOp fMod (mCall fInt (mCons (mVar j) (mNil))) (mK (.int 128)))) (ρ := ρ) (A := A)
    (p := fun _ => true) (f := fun d => match d with | .int i => .int (128 + i % 128) | d => d) (all := dI os) hit (dI os) [] (fun d hd => by
    obtain ⟨b, hb, rfl⟩ := List.mem_map.mp hd
    refine ⟨_, rfl, rfl, fun _ => ?_⟩
    have v : mVar j (ρ.set j (some (.int (b : Int)))) A = .ok (.int (b : Int)) A := by rw [ev_var, List.getElem?_set_self hj]
    simp only [ev_op, ev_K, ev_call, ev_cons, ev_nil, v, bind_ok, fInt_ii, mod_ii (show (0 : Int) < 128 by decide), add_ii])
  rw [gp, List.nil_append, List.filter_eq_self.mpr (fun _ _ => rfl)]
  unfold dI
  rw [List.map_map, List.map_map]
  refine congrArg (fun z => Res.ok z A) (List.map_congr_left fun b _ => ?_)
  show D.int (128 + (b : Int) % 128) = D.int ((128 + b % 128 : Nat) : Int)
  rw [show (128 + (b : Int) % 128) = ((128 + b % 128 : Nat) : Int) by omega]
/-- the octets of a look -/
theorem oct_part (hs : HS h q A) : ∃ os A', (∀ kt : MS, mSeq (mSet 1 (mCallF 2 f__law_octets (mCons (mVar 0) (mCons (mCallF 2 f__law_pick (mCons (mVar 0) (mCons (mLst (mCons (mK (.int 0)) (mCons (mK (.int 1)) (mCons (mK (.int 2)) (mCons (mK (.int 3)) (mCons (mK (.int 9)) (mCons (mK (.int 10)) (mCons (mK (.int 12)) (mNil))))))))) (mNil)))) (mNil))))) (mSeq (mIfS (mTst (mOp (fEq false) (mCallF 2 f__law_draw (mCons (mVar 0) (mCons (mK (.int 4)) (mNil)))) (mK (.int 0)))) (mSet 1 (mOp fAdd (mCall fTup (mCons (mLc false (mSq (mVar 1)) (.nm 6) (mYes) (mOp fAdd (mK (.int 128)) (mOp fMod (mCall fInt (mCons (mVar 6) (mNil))) (mK (.int 128)))) [6]) (mNil))) (mCallF 2 f__law_octets (mCons (mVar 0) (mCons (mK (.int 1)) (mNil)))))) (mNext)) kt) [some (.ref h), none, none, none, none, none, none] A = kt [some (.ref h), some (.tup (dI os)), none, none, none, none, none] A') ∧ Drawn h q A A' ∧ (∀ b ∈ os, b < 256) ∧ os.length ≤ 20 := by
  obtain ⟨d, hd, A1, e1, d1⟩ := pick_lst (xs := [.int 0, .int 1, .int 2, .int 3, .int 9, .int 10, .int 12]) hs (by show 0 < 7; omega) (by show 7 < 1000; omega)
  obtain ⟨m, hm, rfl⟩ : ∃ m : Nat, m ≤ 12 ∧ d = .int (m : Int) := by
    simp only [List.mem_cons, List.not_mem_nil, or_false] at hd
    rcases hd with rfl | rfl | rfl | rfl | rfl | rfl | rfl
    · exact ⟨0, by decide, rfl⟩
    · exact ⟨1, by decide, rfl⟩
    · exact ⟨2, by decide, rfl⟩
    · exact ⟨3, by decide, rfl⟩
    · exact ⟨9, by decide, rfl⟩
    · exact ⟨10, by decide, rfl⟩
    · exact ⟨12, by decide, rfl⟩
  obtain ⟨o0, A2, e2, l0, h0, d2⟩ := octets_ok d1.2.1 (m := m) (by omega)
  obtain ⟨v, A3, e3, hv, d3⟩ := draw_nat (k := 4) d2.2.1 (by decide) (by decide)
  rw [show ((4 : Nat) : Int) = 4 from rfl] at e3
  have first : ∀ kt : MS, mSeq (mSet 1 (mCallF 2 f__law_octets (mCons (mVar 0) (mCons (mCallF 2 f__law_pick (mCons (mVar 0) (mCons (mLst (mCons (mK (.int 0)) (mCons (mK (.int 1)) (mCons (mK (.int 2)) (mCons (mK (.int 3)) (mCons (mK (.int 9)) (mCons (mK (.int 10)) (mCons (mK (.int 12)) (mNil))))))))) (mNil)))) (mNil))))) kt [some (.ref h), none, none, none, none, none, none] A = kt [some (.ref h), some (.tup (dI o0)), none, none, none, none, none] A2 := fun kt => by
    refine seq_nx ?_
    have q1 : mCallF 2 f__law_octets (mCons (mVar 0) (mCons (mCallF 2 f__law_pick (mCons (mVar 0) (mCons (mLst (mCons (mK (.int 0)) (mCons (mK (.int 1)) (mCons (mK (.int 2)) (mCons (mK (.int 3)) (mCons (mK (.int 9)) (mCons (mK (.int 10)) (mCons (mK (.int 12)) (mNil))))))))) (mNil)))) (mNil))) [some (.ref h), none, none, none, none, none, none] A = .ok (.tup (dI o0)) A2 := callF_at (A1 := A1) (ds := [.ref h, .int (m : Int)]) (by simp only [EVa, List.getElem?_cons_zero, List.getElem?_cons_succ, List.set_cons_zero, List.set_cons_succ, bind_ok, lift_ok, List.length_cons, List.length_nil, Nat.reduceAdd, Nat.reduceLeDiff, ↓reduceIte, if_true, if_false, Bool.false_eq_true, ev_raise, and_self, List.map_cons, List.map_nil, List.replicate, List.cons_append, List.nil_append, Nat.reduceSub, e1]) rfl e2
    rw [ev_set, q1, lift_ok]
    rfl
  by_cases z : v = 0
  · obtain ⟨o1, A4, e4, l1, h1, d4⟩ := octets_ok d3.2.1 (m := 1) (by decide)
    refine ⟨(o0.map fun b => 128 + b % 128) ++ o1, A4, ?_, d1.trans (d2.trans (d3.trans d4)), fun b hb => ?_, by rw [List.length_append, List.length_map]; omega⟩
    · intro kt
      refine (first _).trans ?_
      refine seq_nx ?_
      have lc : mLc false (mSq (mVar 1)) (.nm 6) (mYes) (mOp fAdd (mK (.int 128)) (mOp fMod (mCall fInt (mCons (mVar 6) (mNil))) (mK (.int 128)))) [6] [some (.ref h), some (.tup (dI o0)), none, none, none, none, none] A3 = .ok (.lst (dI (o0.map fun b => 128 + b % 128))) A3 := by
        rw [ev_lc, ev_sq, ev_var]
        simp only [List.getElem?_cons_zero, List.getElem?_cons_succ, bind_ok, show seqOf A3 (.tup (dI o0)) = some (dI o0) from rfl, show itemsOf A3 (.sq (.tup (dI o0))) = some (dI o0) from rfl]
        rw [if_pos (by rw [dI_length]; omega)]
        refine (congrArg (fun z => Res.bind z _) (oct128 (A := A3) (os := o0) (iv := .sq (.tup (dI o0))) (j := 6) (by show 6 < 7; omega) rfl)).trans ?_
        rfl
      have q2 : mCallF 2 f__law_octets (mCons (mVar 0) (mCons (mK (.int 1)) (mNil))) [some (.ref h), some (.tup (dI o0)), none, none, none, none, none] A3 = .ok (.tup (dI o1)) A4 := callF_at (A1 := A3) (ds := [.ref h, .int 1]) rfl rfl e4
      have ad : fAdd (.tup (dI (o0.map fun b => 128 + b % 128))) (.tup (dI o1)) A4 = .ok (.tup (dI ((o0.map fun b => 128 + b % 128) ++ o1))) A4 := add_oct (by rw [List.length_map]; omega)
      have tst : mTst (mOp (fEq false) (mCallF 2 f__law_draw (mCons (mVar 0) (mCons (mK (.int 4)) (mNil)))) (mK (.int 0))) [some (.ref h), some (.tup (dI o0)), none, none, none, none, none] A2 = .ok true A3 := by
        simp only [EVa, List.getElem?_cons_zero, List.getElem?_cons_succ, List.set_cons_zero, List.set_cons_succ, bind_ok, lift_ok, List.length_cons, List.length_nil, Nat.reduceAdd, Nat.reduceLeDiff, ↓reduceIte, if_true, if_false, Bool.false_eq_true, ev_raise, and_self, List.map_cons, List.map_nil, List.replicate, List.cons_append, List.nil_append, Nat.reduceSub, e3, eq_ii, decide_eq_true (show (v : Int) = 0 by omega)]
      rw [ev_ifs, tst, lift_ok, if_pos rfl, ev_set, ev_op, ev_call, ev_cons, lc, bind_ok, ev_nil, bind_ok, bind_ok, tup_lst, bind_ok, q2, bind_ok, ad, lift_ok]
      rfl
    · rcases List.mem_append.mp hb with hb | hb
      · obtain ⟨c, hc, rfl⟩ := List.mem_map.mp hb
        have : c % 128 < 128 := Nat.mod_lt _ (by decide)
        omega
      · exact h1 b hb
  · refine ⟨o0, A3, ?_, d1.trans (d2.trans d3), h0, by omega⟩
    intro kt
    refine (first _).trans ?_
    refine seq_nx ?_
    have tst : mTst (mOp (fEq false) (mCallF 2 f__law_draw (mCons (mVar 0) (mCons (mK (.int 4)) (mNil)))) (mK (.int 0))) [some (.ref h), some (.tup (dI o0)), none, none, none, none, none] A2 = .ok false A3 := by
      simp only [EVa, List.getElem?_cons_zero, List.getElem?_cons_succ, List.set_cons_zero, List.set_cons_succ, bind_ok, lift_ok, List.length_cons, List.length_nil, Nat.reduceAdd, Nat.reduceLeDiff, ↓reduceIte, if_true, if_false, Bool.false_eq_true, ev_raise, and_self, List.map_cons, List.map_nil, List.replicate, List.cons_append, List.nil_append, Nat.reduceSub, e3, eq_ii, decide_eq_false (show ¬ (v : Int) = 0 by omega)]
    rw [ev_ifs, tst, lift_ok, if_neg (by decide)]
    rfl
theorem any_ok {P : Addr} (hs : HS h q A) (hT : A[0]? = some (.tab P (lamQ "_law_any_octets"))) (h0 : 0 ≠ h) (q0 : 0 ≠ q) : ∃ A', anM P [.ref h] A = .ok (.bl true) A' ∧ Gr h q A A' := by
  obtain ⟨os, A1, e1, d1, ho, hl⟩ := oct_part hs
  obtain ⟨at_, A2, e2, ha, d2⟩ := draw_nat (k := os.length + 1) d1.2.1 (by omega) (by omega)
  have hle : ((os.length : Nat) : Int) + 1 = ((os.length + 1 : Nat) : Int) := by omega
  have T2 : A2[0]? = some (.tab P (lamQ "_law_any_octets")) := by rw [d2.2.2 0 h0 q0, d1.2.2 0 h0 q0]; exact hT
  have ln : fLen [.tup (dI os)] A1 = .ok (.int ((os.length : Nat) : Int)) A1 := len_tup
  have na := number_at_ok (p := at_) (A := A2) ho
  obtain ⟨dN, dP, eNP, hdue⟩ : ∃ (dN dP : Option D), (∃ x y : D, dN = some x ∧ dP = some y ∧ f__law_number_at [.tup (dI os), .int (at_ : Int)] A2 = .ok (.tup [x, y]) A2) ∧ ((rdNum (os.drop at_) = none ∧ dN = some .non) ∨ ∃ n k, rdNum (os.drop at_) = some (n, k) ∧ dN = some (.int (n : Int)) ∧ dP = some (.int ((at_ + k : Nat) : Int))) := by
    cases z : rdNum (os.drop at_) with
    | none => rw [z] at na; exact ⟨_, _, ⟨_, _, rfl, rfl, na⟩, .inl ⟨rfl, rfl⟩⟩
    | some nk => rw [z] at na; exact ⟨_, _, ⟨_, _, rfl, rfl, na⟩, .inr ⟨nk.1, nk.2, rfl, rfl, rfl⟩⟩
  obtain ⟨x, y, rfl, rfl, na⟩ := eNP
  obtain ⟨due, hd1⟩ : ∃ due, due = numD at_ (rdNum (os.drop at_)) := ⟨_, rfl⟩
  obtain ⟨due2, hd2⟩ : ∃ due2, due2 = intD at_ (rdNum (os.drop at_)) := ⟨_, rfl⟩
  obtain ⟨due3, hd3⟩ : ∃ due3, due3 = whoD os.length (rdNum os) := ⟨_, rfl⟩
  have eq1 : ∀ B, fEq true due due B = .ok (.bl false) B := fun B => by rw [hd1]; exact eq_numD (by omega) (by omega)
  have eq2 : ∀ B, fEq true due2 due2 B = .ok (.bl false) B := fun B => by rw [hd2]; exact eq_intD (by omega) (by omega)
  have eq3 : ∀ B, fEq false due3 due3 B = .ok (.bl true) B := fun B => by rw [hd3]; exact eq_whoD (by omega)
  -- what is put
  obtain ⟨A3, g3, s7, T3⟩ : ∃ A3, Gr h q A2 A3 ∧ (mIfS (mAnd (mTst (mOp (fIsN true) (mVar 3) (mK .non))) (mTst (mOp (fEq true) (mCallF 1 f_put_number (mCons (mVar 3) (mNil))) (mSl (mVar 1) (mSome (mVar 2)) (mSome (mVar 4)))))) (mRet (mK (.bl false))) (mNext)) [some (.ref h), some (.tup (dI os)), some (.int (at_ : Int)), some x, some y, some due, none] A2 = .nx [some (.ref h), some (.tup (dI os)), some (.int (at_ : Int)), some x, some y, some due, none] A3 ∧ A3[0]? = some (.tab P (lamQ "_law_any_octets")) := by
    rcases hdue with ⟨z, hx⟩ | ⟨n, k, z, hx, hy⟩
    · cases hx
      refine ⟨A2, .refl d2.2.1, ?_, T2⟩
      simp only [EVa, List.getElem?_cons_zero, List.getElem?_cons_succ, List.set_cons_zero, List.set_cons_succ, bind_ok, lift_ok, List.length_cons, List.length_nil, Nat.reduceAdd, Nat.reduceLeDiff, ↓reduceIte, if_true, if_false, Bool.false_eq_true, ev_raise, and_self, List.map_cons, List.map_nil, List.replicate, List.cons_append, List.nil_append, Nat.reduceSub, isN_non, Bool.not_true]
    · cases hx
      cases hy
      have hn9 : (nO n).length ≤ 9 := nO_len 8 n (Nat.lt_of_lt_of_le (rdNum_lt z) (by decide))
      obtain ⟨r, er, ek⟩ := rdNum_back (fun b hb => ho b (List.mem_of_mem_drop hb)) z
      obtain ⟨G, e4⟩ := put_number_ok (n := n) (by omega) A2
      have kl := (rdNum_len z).2
      rw [List.length_drop] at kl
      have sl := sl_dI (os := os) (lo := at_) (hi := at_ + k) (A := A2 ++ G) (by omega) (by omega) rfl rfl
      have tk : (os.drop at_).take (at_ + k - at_) = nO n := by rw [er, ek, show at_ + (nO n).length - at_ = (nO n).length by omega]; exact List.take_left' rfl
      rw [tk] at sl
      refine ⟨A2 ++ G, .push d2.2.1 G, ?_, by rw [List.getElem?_append_left (lt_of T2)]; exact T2⟩
      simp only [EVa, List.getElem?_cons_zero, List.getElem?_cons_succ, List.set_cons_zero, List.set_cons_succ, bind_ok, lift_ok, List.length_cons, List.length_nil, Nat.reduceAdd, Nat.reduceLeDiff, ↓reduceIte, if_true, if_false, Bool.false_eq_true, ev_raise, and_self, List.map_cons, List.map_nil, List.replicate, List.cons_append, List.nil_append, Nat.reduceSub, isN_int, e4, sl, eq_tups, decide_true, Bool.not_true]
  have na0 := number_at_ok (p := 0) (A := A3) ho
  rw [List.drop_zero] at na0
  obtain ⟨x2, y2, na2, hw⟩ : ∃ x2 y2 : D, f__law_number_at [.tup (dI os), .int ((0 : Nat) : Int)] A3 = .ok (.tup [x2, y2]) A3 ∧ ((rdNum os = none ∧ x2 = .non ∧ y2 = .int ((0 : Nat) : Int)) ∨ ∃ n k : Nat, rdNum os = some (n, k) ∧ x2 = .int (n : Int) ∧ y2 = .int (k : Int)) := by
    cases z : rdNum os with
    | none => rw [z] at na0; exact ⟨_, _, na0, .inl ⟨rfl, rfl, rfl⟩⟩
    | some nk =>
      obtain ⟨n, k⟩ := nk
      rw [z] at na0
      have na0 : f__law_number_at [.tup (dI os), .int ((0 : Nat) : Int)] A3 = .ok (.tup [.int (n : Int), .int ((0 + k : Nat) : Int)]) A3 := na0
      rw [Nat.zero_add] at na0
      exact ⟨_, _, na0, .inr ⟨n, k, rfl, rfl, rfl⟩⟩
  have ln3 : fLen [.tup (dI os)] A3 = .ok (.int ((os.length : Nat) : Int)) A3 := len_tup
  refine ⟨A3, ?_, ((Gr.draw d1).trans (.draw d2)).trans g3⟩
  unfold anM m__law_any_octets
  refine fun_rt ?_
  refine (e1 _).trans ?_
  refine (seq_nx (ρ1 := [some (.ref h), some (.tup (dI os)), some (.int (at_ : Int)), none, none, none, none]) (A1 := A2) ?_).trans ?_
  · simp only [EVa, List.getElem?_cons_zero, List.getElem?_cons_succ, List.set_cons_zero, List.set_cons_succ, bind_ok, lift_ok, List.length_cons, List.length_nil, Nat.reduceAdd, Nat.reduceLeDiff, ↓reduceIte, if_true, if_false, Bool.false_eq_true, ev_raise, and_self, List.map_cons, List.map_nil, List.replicate, List.cons_append, List.nil_append, Nat.reduceSub, ln, add_ii, hle, e2]
  refine (seq_nx (ρ1 := [some (.ref h), some (.tup (dI os)), some (.int (at_ : Int)), some x, some y, none, none]) (A1 := A2) ?_).trans ?_
  · have q1 : mCallF 2 f__law_number_at (mCons (mVar 1) (mCons (mVar 2) (mNil))) [some (.ref h), some (.tup (dI os)), some (.int (at_ : Int)), none, none, none, none] A2 = .ok (.tup [x, y]) A2 := callF_at (A1 := A2) (ds := [.tup (dI os), .int (at_ : Int)]) rfl rfl na
    rw [ev_asg, q1, lift_ok, bind_tp]
    rfl
  refine (seq_nx (ρ1 := [some (.ref h), some (.tup (dI os)), some (.int (at_ : Int)), some x, some y, some due, none]) (A1 := A2) ?_).trans ?_
  · rcases hdue with ⟨z, hx⟩ | ⟨n, k, z, hx, hy⟩
    · cases hx
      rw [hd1, z]
      simp only [EVa, List.getElem?_cons_zero, List.getElem?_cons_succ, List.set_cons_zero, List.set_cons_succ, bind_ok, lift_ok, List.length_cons, List.length_nil, Nat.reduceAdd, Nat.reduceLeDiff, ↓reduceIte, if_true, if_false, Bool.false_eq_true, ev_raise, and_self, List.map_cons, List.map_nil, List.replicate, List.cons_append, List.nil_append, Nat.reduceSub, isN_non, Bool.not_false]
      rfl
    · cases hx
      cases hy
      rw [hd1, z]
      simp only [EVa, List.getElem?_cons_zero, List.getElem?_cons_succ, List.set_cons_zero, List.set_cons_succ, bind_ok, lift_ok, List.length_cons, List.length_nil, Nat.reduceAdd, Nat.reduceLeDiff, ↓reduceIte, if_true, if_false, Bool.false_eq_true, ev_raise, and_self, List.map_cons, List.map_nil, List.replicate, List.cons_append, List.nil_append, Nat.reduceSub, isN_int]
      rfl
  refine (seq_nx (ρ1 := [some (.ref h), some (.tup (dI os)), some (.int (at_ : Int)), some x, some y, some due, none]) (A1 := A2) ?_).trans ?_
  · have w := w_num (n := 0) (P := P) (q := lamQ "_law_any_octets") (me := mCallF 2 f_get_number (mCons (mVar 1) (mCons (mVar 2) (mNil)))) (ρ := [some (.ref h), some (.tup (dI os)), some (.int (at_ : Int)), some x, some y, some due, none]) (p := at_) T2 ho (callF_at (A1 := A2) (ds := [.tup (dI os), .int (at_ : Int)]) rfl rfl rfl)
    rw [← hd1] at w
    simp only [EVa, List.getElem?_cons_zero, List.getElem?_cons_succ, List.set_cons_zero, List.set_cons_succ, bind_ok, lift_ok, List.length_cons, List.length_nil, Nat.reduceAdd, Nat.reduceLeDiff, ↓reduceIte, if_true, if_false, Bool.false_eq_true, ev_raise, and_self, List.map_cons, List.map_nil, List.replicate, List.cons_append, List.nil_append, Nat.reduceSub, w, eq1]
  refine (seq_nx (ρ1 := [some (.ref h), some (.tup (dI os)), some (.int (at_ : Int)), some x, some y, some due, none]) (A1 := A2) ?_).trans ?_
  · have w := w_num (n := 0) (P := P) (q := lamQ "_law_any_octets") (me := mCallK 0 2 2 [1, 0] f_get_number mNil (mCons (mVar 2) (mCons (mVar 1) (mNil)))) (ρ := [some (.ref h), some (.tup (dI os)), some (.int (at_ : Int)), some x, some y, some due, none]) (p := at_) T2 ho rfl
    rw [← hd1] at w
    simp only [EVa, List.getElem?_cons_zero, List.getElem?_cons_succ, List.set_cons_zero, List.set_cons_succ, bind_ok, lift_ok, List.length_cons, List.length_nil, Nat.reduceAdd, Nat.reduceLeDiff, ↓reduceIte, if_true, if_false, Bool.false_eq_true, ev_raise, and_self, List.map_cons, List.map_nil, List.replicate, List.cons_append, List.nil_append, Nat.reduceSub, w, eq1]
  refine (seq_nx s7).trans ?_
  refine (seq_nx (ρ1 := [some (.ref h), some (.tup (dI os)), some (.int (at_ : Int)), some x, some y, some due2, none]) (A1 := A3) ?_).trans ?_
  · rcases hdue with ⟨z, hx⟩ | ⟨n, k, z, hx, hy⟩
    · cases hx
      rw [hd1, hd2, z]
      simp only [EVa, List.getElem?_cons_zero, List.getElem?_cons_succ, List.set_cons_zero, List.set_cons_succ, bind_ok, lift_ok, List.length_cons, List.length_nil, Nat.reduceAdd, Nat.reduceLeDiff, ↓reduceIte, if_true, if_false, Bool.false_eq_true, ev_raise, and_self, List.map_cons, List.map_nil, List.replicate, List.cons_append, List.nil_append, Nat.reduceSub, isN_non, Bool.not_true]
      rfl
    · cases hx
      cases hy
      rw [hd1, hd2, z]
      have e2' : fMod (.int (n : Int)) (.int 2) A3 = .ok (.int ((n % 2 : Nat) : Int)) A3 := (mod_ii (show (0 : Int) < 2 by decide)).trans (congrArg (fun z => Res.ok (D.int z) A3) (show (n : Int) % 2 = ((n % 2 : Nat) : Int) by omega))
      have cd : ∀ i : Int, CDiv i 2 := fun i => ⟨by decide, by decide⟩
      by_cases zz : n % 2 = 0
      · have u : uz n = (n : Int) / 2 := if_pos zz
        have t0 : decide (((n % 2 : Nat) : Int) = 0) = true := decide_eq_true (by omega)
        have dv : fDiv (.int (n : Int)) (.int 2) A3 = .ok (.int (uz n)) A3 := (div_ii (cd _)).trans (by rw [u])
        simp only [EVa, List.getElem?_cons_zero, List.getElem?_cons_succ, List.set_cons_zero, List.set_cons_succ, bind_ok, lift_ok, List.length_cons, List.length_nil, Nat.reduceAdd, Nat.reduceLeDiff, ↓reduceIte, if_true, if_false, Bool.false_eq_true, ev_raise, and_self, List.map_cons, List.map_nil, List.replicate, List.cons_append, List.nil_append, Nat.reduceSub, isN_int, fInt_ii, e2', eq_ii, t0, dv]
        rfl
      · have u : 0 - ((n : Int) + 1) / 2 = uz n := by
          unfold uz
          rw [if_neg zz]
          omega
        have t0 : decide (((n % 2 : Nat) : Int) = 0) = false := decide_eq_false (by omega)
        simp only [EVa, List.getElem?_cons_zero, List.getElem?_cons_succ, List.set_cons_zero, List.set_cons_succ, bind_ok, lift_ok, List.length_cons, List.length_nil, Nat.reduceAdd, Nat.reduceLeDiff, ↓reduceIte, if_true, if_false, Bool.false_eq_true, ev_raise, and_self, List.map_cons, List.map_nil, List.replicate, List.cons_append, List.nil_append, Nat.reduceSub, isN_int, fInt_ii, e2', eq_ii, t0, add_ii, div_ii (cd _), sub_ii, u]
        rfl
  refine (seq_nx (ρ1 := [some (.ref h), some (.tup (dI os)), some (.int (at_ : Int)), some x, some y, some due2, none]) (A1 := A3) ?_).trans ?_
  · have w := w_int (n := 0) (P := P) (q := lamQ "_law_any_octets") (me := mCallF 2 f_get_integer (mCons (mVar 1) (mCons (mVar 2) (mNil)))) (ρ := [some (.ref h), some (.tup (dI os)), some (.int (at_ : Int)), some x, some y, some due2, none]) (p := at_) T3 ho (callF_at (A1 := A3) (ds := [.tup (dI os), .int (at_ : Int)]) rfl rfl rfl)
    rw [← hd2] at w
    simp only [EVa, List.getElem?_cons_zero, List.getElem?_cons_succ, List.set_cons_zero, List.set_cons_succ, bind_ok, lift_ok, List.length_cons, List.length_nil, Nat.reduceAdd, Nat.reduceLeDiff, ↓reduceIte, if_true, if_false, Bool.false_eq_true, ev_raise, and_self, List.map_cons, List.map_nil, List.replicate, List.cons_append, List.nil_append, Nat.reduceSub, w, eq2]
  refine (seq_nx (ρ1 := [some (.ref h), some (.tup (dI os)), some (.int (at_ : Int)), some x2, some y2, some due2, none]) (A1 := A3) ?_).trans ?_
  · have q1 : mCallF 2 f__law_number_at (mCons (mVar 1) (mCons (mK (.int 0)) (mNil))) [some (.ref h), some (.tup (dI os)), some (.int (at_ : Int)), some x, some y, some due2, none] A3 = .ok (.tup [x2, y2]) A3 := callF_at (A1 := A3) (ds := [.tup (dI os), .int 0]) rfl rfl na2
    rw [ev_asg, q1, lift_ok, bind_tp]
    rfl
  refine (seq_nx (ρ1 := [some (.ref h), some (.tup (dI os)), some (.int (at_ : Int)), some x2, some y2, some due3, none]) (A1 := A3) ?_).trans ?_
  · rcases hw with ⟨z, hx, hy⟩ | ⟨n, k, z, hx, hy⟩
    · rw [hd3, z, hx, hy]
      simp only [EVa, List.getElem?_cons_zero, List.getElem?_cons_succ, List.set_cons_zero, List.set_cons_succ, bind_ok, lift_ok, List.length_cons, List.length_nil, Nat.reduceAdd, Nat.reduceLeDiff, ↓reduceIte, if_true, if_false, Bool.false_eq_true, ev_raise, and_self, List.map_cons, List.map_nil, List.replicate, List.cons_append, List.nil_append, Nat.reduceSub, isN_non, Bool.not_true]
      rfl
    · rw [hd3, z, hx, hy]
      by_cases e : k = os.length
      · have : whoD os.length (some (n, k)) = .lst [.str "told", .int (n : Int)] := if_pos e
        rw [this]
        simp only [EVa, List.getElem?_cons_zero, List.getElem?_cons_succ, List.set_cons_zero, List.set_cons_succ, bind_ok, lift_ok, List.length_cons, List.length_nil, Nat.reduceAdd, Nat.reduceLeDiff, ↓reduceIte, if_true, if_false, Bool.false_eq_true, ev_raise, and_self, List.map_cons, List.map_nil, List.replicate, List.cons_append, List.nil_append, Nat.reduceSub, isN_int, ln3, eq_ii, decide_eq_true (show (k : Int) = (os.length : Int) by omega)]
      · have : whoD os.length (some (n, k)) = .lst [.str "bytes", .int (k : Int), .bl true] := if_neg e
        rw [this]
        simp only [EVa, List.getElem?_cons_zero, List.getElem?_cons_succ, List.set_cons_zero, List.set_cons_succ, bind_ok, lift_ok, List.length_cons, List.length_nil, Nat.reduceAdd, Nat.reduceLeDiff, ↓reduceIte, if_true, if_false, Bool.false_eq_true, ev_raise, and_self, List.map_cons, List.map_nil, List.replicate, List.cons_append, List.nil_append, Nat.reduceSub, isN_int, ln3, eq_ii, decide_eq_false (show ¬ (k : Int) = (os.length : Int) by omega)]
  · have w := w_who (n := 0) (P := P) (q := lamQ "_law_any_octets") (me := mCallF 2 rwM (mCons (mK (.str "number")) (mCons (mVar 1) (mNil)))) (ρ := [some (.ref h), some (.tup (dI os)), some (.int (at_ : Int)), some x2, some y2, some due3, none]) T3 ho (callF_at (A1 := A3) (ds := [.str "number", .tup (dI os)]) rfl rfl rfl)
    rw [← hd3] at w
    simp only [EVa, List.getElem?_cons_zero, List.getElem?_cons_succ, List.set_cons_zero, List.set_cons_succ, bind_ok, lift_ok, List.length_cons, List.length_nil, Nat.reduceAdd, Nat.reduceLeDiff, ↓reduceIte, if_true, if_false, Bool.false_eq_true, ev_raise, and_self, List.map_cons, List.map_nil, List.replicate, List.cons_append, List.nil_append, Nat.reduceSub, w, eq3]
end
end K02
end
section
set_option maxHeartbeats 2000000
namespace K02
open PySem PySem.Spec PyProof.Rows L2 DM JR
noncomputable abbrev lawM (P0 P1 : Addr) : List D → AH → Res D := m_law P1 f__law_heap f__law_pick thM (anM P0) rwM
noncomputable abbrev bdS (P0 : Addr) : MS := (mIfS (mOr (mNot (mTst (mCallF 1 thM (mCons (mVar 1) (mNil))))) (mOr (mNot (mTst (mCallF 1 (anM P0) (mCons (mVar 1) (mNil))))) (mNot (mTst (mCallF 1 (anM P0) (mCons (mVar 1) (mNil))))))) (mRet (mK (.bl false))) (mNext))
section
variable {h q : Nat} {A : AH} {P0 P1 : Addr} {x0 x2 x3 : Option D}
theorem turn_ok (hs : HS h q A) (hT : A[0]? = some (.tab P0 (lamQ "_law_any_octets"))) (h0 : 0 ≠ h) (q0 : 0 ≠ q) : ∃ A', bdS P0 [x0, some (.ref h), x2, x3] A = .nx [x0, some (.ref h), x2, x3] A' ∧ Gr h q A A' := by
  obtain ⟨A1, e1, d1⟩ := there_ok hs
  obtain ⟨A2, e2, d2⟩ := any_ok d1.2.1 (d1.at hT h0 q0) h0 q0
  obtain ⟨A3, e3, d3⟩ := any_ok d2.2.1 (d2.at (d1.at hT h0 q0) h0 q0) h0 q0
  refine ⟨A3, ?_, (d1.trans d2).trans d3⟩
  have e1 : thM [.ref h] A = .ok (.bl true) A1 := e1
  simp only [EVa, List.getElem?_cons_zero, List.getElem?_cons_succ, List.set_cons_zero, List.set_cons_succ, bind_ok, lift_ok, List.length_cons, List.length_nil, Nat.reduceAdd, Nat.reduceLeDiff, ↓reduceIte, if_true, if_false, Bool.false_eq_true, ev_raise, and_self, List.map_cons, List.map_nil, List.replicate, List.cons_append, List.nil_append, Nat.reduceSub, e1, e2, e3, Bool.not_true]
theorem turns_go (all : List D) {iv : ItV} (hit : ∀ B, itemsOf B iv = some all) (h0 : 0 ≠ h) (q0 : 0 ≠ q) : ∀ (xs : List D) (x2 : Option D) (A : AH), HS h q A → A[0]? = some (.tab P0 (lamQ "_law_any_octets")) →
    ∃ A' y2, forGo iv all (.nm 2) (bdS P0) xs [x0, some (.ref h), x2, x3] A = .nx [x0, some (.ref h), y2, x3] A' ∧ Gr h q A A'
  | [], x2, A, hs, hT => ⟨A, x2, for_nil (hit A), .refl hs⟩
  | x :: xs, x2, A, hs, hT => by
    obtain ⟨A1, e1, d1⟩ := turn_ok (P0 := P0) (x0 := x0) (x2 := some x) (x3 := x3) hs hT h0 q0
    obtain ⟨A2, y2, e2, d2⟩ := turns_go all hit h0 q0 xs (some x) A1 d1.2.1 (d1.at hT h0 q0)
    exact ⟨A2, y2, (for_nx (hit A) rfl e1).trans e2, d1.trans d2⟩
theorem words_shd {d : D} (h : d ∈ words) : ∃ p, Shd 1 100 d p := by
  have up : ∀ {k w : Nat} {d : D} {p : PyData}, Shd k w d p → k ≤ 1 → w ≤ 100 → Shd 1 100 d p := fun s a b => ⟨s.1, s.2.mono a b⟩
  simp only [words, List.mem_cons, List.not_mem_nil, or_false] at h
  rcases h with rfl | rfl | rfl | rfl | rfl | rfl | rfl | rfl | rfl | rfl
  · exact ⟨_, up (shd_word (x := "numbr") (by decide +kernel) (by decide +kernel)) (by decide) (by decide)⟩
  · exact ⟨_, up (shd_word (x := "") (by decide +kernel) (by decide +kernel)) (by decide) (by decide)⟩
  · exact ⟨.none, rfl, (fewB_none).mono (by decide) (by decide)⟩
  · exact ⟨_, up (shd_int (i := 0) (by decide)) (by decide) (by decide)⟩
  · exact ⟨_, up (shd_word (x := "Number") (by decide +kernel) (by decide +kernel)) (by decide) (by decide)⟩
  · exact ⟨_, up (shd_tup (shl_cons (k := 0) (w := 64) (shd_word (x := "number") (by decide +kernel) (by decide +kernel)) (Nat.le_refl _) (Nat.le_refl _) shl_nil)) (by decide) (by decide)⟩
  · exact ⟨_, up (shd_lst (shl_cons (k := 0) (w := 64) (shd_word (x := "number") (by decide +kernel) (by decide +kernel)) (Nat.le_refl _) (Nat.le_refl _) shl_nil)) (by decide) (by decide)⟩
  · exact ⟨.bool true, rfl, fewB_bool.mono (by decide) (by decide)⟩
  · exact ⟨_, up (shd_word (x := "number ") (by decide +kernel) (by decide +kernel)) (by decide) (by decide)⟩
  · exact ⟨_, up (shd_word (x := "frame") (by decide +kernel) (by decide +kernel)) (by decide) (by decide)⟩
theorem eq_name {d : D} {A : AH} (h : d ∈ words) : fEq false (.lst [.str "name", d, .bl true]) (.lst [.str "name", d, .bl true]) A = .ok (.bl true) A := by
  obtain ⟨p, s⟩ := words_shd h
  have := eq_shd (A := A) (neg := false) (shd_lst (shl_cons (k := 1) (w := 100) (shd_word (x := "name") (by decide +kernel) (by decide +kernel)) (by decide) (by decide) (shl_cons s (Nat.le_refl _) (Nat.le_refl _) (shl_cons (d := .bl true) (p := .bool true) (k' := 0) (w' := 64) ⟨rfl, fewB_bool⟩ (by decide) (by decide) shl_nil)))) (by decide) rfl
  exact this
theorem law_holds (ns : List Int) (P0 P1 : Addr) : ∃ AE, lawM P0 P1 [.lst (ns.map D.int)] [.tab P0 (lamQ "_law_any_octets"), .tab P1 (lamQ "law")] = .ok (.bl true) AE := by
  obtain ⟨h, q, A1, e1, hs1, l1, hh, hq, k1⟩ := heap_ok (A := [.tab P0 (lamQ "_law_any_octets"), .tab P1 (lamQ "law")]) (ns := ns) (b := 2) (by decide) (by decide)
  have h2 : h = 3 := hh
  have q2 : q = 2 := hq
  have hT1 : A1[0]? = some (.tab P0 (lamQ "_law_any_octets")) := k1 0 (by simp)
  have hU1 : A1[1]? = some (.tab P1 (lamQ "law")) := k1 1 (by simp)
  have hit : ∀ B : AH, itemsOf B (.rng 0 8) = some ((List.range 8).map fun t : Nat => D.int (t : Int)) := fun B => by
    show some ((List.range ((8 : Int) - 0).toNat).map fun i => D.int (0 + (i : Nat))) = _
    simp
  obtain ⟨A2, y2, go, g2⟩ := turns_go (P0 := P0) (x0 := some (.lst (ns.map D.int))) (x3 := none) _ hit (by omega) (by omega) ((List.range 8).map fun t : Nat => D.int (t : Int)) none A1 hs1 hT1
  have hU2 := g2.at hU1 (by omega) (by omega)
  obtain ⟨d, hd, A3, e3, d3⟩ := pick_lst (xs := words) g2.2.1 (by show 0 < 10; omega) (by show 10 < 1000; omega)
  have hU3 : A3[1]? = some (.tab P1 (lamQ "law")) := (Gr.draw d3).at hU2 (by omega) (by omega)
  refine ⟨A3, ?_⟩
  unfold lawM m_law
  refine fun_rt ?_
  refine (seq_nx (ρ1 := [some (.lst (ns.map D.int)), some (.ref h), none, none]) (A1 := A1) ?_).trans ?_
  · have q1 : mCallF 2 f__law_heap (mCons (mVar 0) (mCons (mK (.int 2)) (mNil))) [some (.lst (ns.map D.int)), none, none, none] [.tab P0 (lamQ "_law_any_octets"), .tab P1 (lamQ "law")] = .ok (.ref h) A1 := callF_at (A1 := [.tab P0 (lamQ "_law_any_octets"), .tab P1 (lamQ "law")]) (ds := [.lst (ns.map D.int), .int 2]) rfl rfl e1
    have q3 : mSet 1 (mCallF 2 f__law_heap (mCons (mVar 0) (mCons (mK (.int 2)) (mNil)))) [some (.lst (ns.map D.int)), none, none, none] [.tab P0 (lamQ "_law_any_octets"), .tab P1 (lamQ "law")] = .nx [some (.lst (ns.map D.int)), some (.ref h), none, none] A1 := by
      rw [ev_set, q1, lift_ok]; rfl
    exact q3
  refine (seq_nx (ρ1 := [some (.lst (ns.map D.int)), some (.ref h), y2, none]) (A1 := A2) ?_).trans ?_
  · rw [ev_for, r1_at (j := 8) (A1 := A1) (by simp only [EVa, List.getElem?_cons_zero, List.getElem?_cons_succ, List.set_cons_zero, List.set_cons_succ, bind_ok, lift_ok, List.length_cons, List.length_nil, Nat.reduceAdd, Nat.reduceLeDiff, ↓reduceIte, if_true, if_false, Bool.false_eq_true, ev_raise, and_self, List.map_cons, List.map_nil, List.replicate, List.cons_append, List.nil_append, Nat.reduceSub]) (by omega), lift_ok]
    simp only [hit]
    exact go
  refine (seq_nx (ρ1 := [some (.lst (ns.map D.int)), some (.ref h), y2, some d]) (A1 := A3) ?_).trans ?_
  · have e3 : f__law_pick [.ref h, .lst [.str "numbr", .str "", .non, .int 0, .str "Number", .tup [.str "number"], .lst [.str "number"], .bl true, .str "number ", .str "frame"]] A2 = .ok d A3 := e3
    simp only [EVa, List.getElem?_cons_zero, List.getElem?_cons_succ, List.set_cons_zero, List.set_cons_succ, bind_ok, lift_ok, List.length_cons, List.length_nil, Nat.reduceAdd, Nat.reduceLeDiff, ↓reduceIte, if_true, if_false, Bool.false_eq_true, ev_raise, and_self, List.map_cons, List.map_nil, List.replicate, List.cons_append, List.nil_append, Nat.reduceSub, e3]
  have w := heard_name (n := 1) (P := P1) (q := lamQ "law") (me := mCallF 2 rwM (mCons (mVar 3) (mCons (mTup (mCons (mK (.int 0)) (mNil))) (mNil)))) (ρ := [some (.lst (ns.map D.int)), some (.ref h), y2, some d]) (A := A3) (A1 := A3) (d := d) hU3 (callF_at (A1 := A3) (ds := [d, .tup [.int 0]]) (by simp only [EVa, List.getElem?_cons_zero, List.getElem?_cons_succ, List.set_cons_zero, List.set_cons_succ, bind_ok, lift_ok, List.length_cons, List.length_nil, Nat.reduceAdd, Nat.reduceLeDiff, ↓reduceIte, if_true, if_false, Bool.false_eq_true, ev_raise, and_self, List.map_cons, List.map_nil, List.replicate, List.cons_append, List.nil_append, Nat.reduceSub]) rfl (rw_name hd))
  simp only [EVa, List.getElem?_cons_zero, List.getElem?_cons_succ, List.set_cons_zero, List.set_cons_succ, bind_ok, lift_ok, List.length_cons, List.length_nil, Nat.reduceAdd, Nat.reduceLeDiff, ↓reduceIte, if_true, if_false, Bool.false_eq_true, ev_raise, and_self, List.map_cons, List.map_nil, List.replicate, List.cons_append, List.nil_append, Nat.reduceSub, w, eq_name hd]
end
end K02
end
section
set_option maxHeartbeats 4000000
namespace K02
open PySem PySem.Spec PyProof.Rows L2 DM JR
theorem law_true {P : Program} {w : World} {K : PySem.W.Frag} {mg : Str → Option Value} {base : Heap} {ad : Nat → Addr} {fd : Nat → FuncData} {tb : Nat → Addr × Addr} (T : Tx P w K mg ad fd tb)
    (tbs : ∀ p ∈ ([((tb 0).1, (tb 0).2, lamQ "_law_any_octets"), ((tb 1).1, (tb 1).2, lamQ "law")] : Tabs0), LamX.TabB base mg p.1 p.2.1) (ns : List Int) (hl : ns.length ≤ 63) (hb : ∀ z ∈ ns, Builtin.Int.intBits z ≤ 1048576) :
    ∃ (mf : List D → AH → Res D) (AE : AH), mf [.lst (ns.map D.int)] (tabs0 [((tb 0).1, (tb 0).2, lamQ "_law_any_octets"), ((tb 1).1, (tb 1).2, lamQ "law")]) = .ok (.bl true) AE ∧ FnD P w K mg base 8 (ad 26) (fd 26) ["_law_script"] mf := by
  obtain ⟨AE, e⟩ := law_holds ns (tb 0).2 (tb 1).2
  have B0 : LamX.TabB base mg (tb 0).1 (tb 0).2 := tbs _ List.mem_cons_self
  have B1 : LamX.TabB base mg (tb 1).1 (tb 1).2 := tbs _ (List.mem_cons_of_mem _ List.mem_cons_self)
  have gis_text : FnD P w K mg base 1 (ad 0) (fd 0) ["value"] f_is_text := w_is_text T 
  have goctet_at : FnD P w K mg base 1 (ad 1) (fd 1) ["octets", "at"] f_octet_at := w_octet_at T 
  have gput_number : FnD P w K mg base 1 (ad 2) (fd 2) ["number"] f_put_number := w_put_number T 
  have gget_number : FnD P w K mg base 2 (ad 3) (fd 3) ["octets", "at"] f_get_number := w_get_number T goctet_at
  have gput_integer : FnD P w K mg base 2 (ad 4) (fd 4) ["integer"] f_put_integer := w_put_integer T gput_number
  have gget_integer : FnD P w K mg base 3 (ad 5) (fd 5) ["octets", "at"] f_get_integer := w_get_integer T gget_number
  have gget_numbers : FnD P w K mg base 3 (ad 6) (fd 6) ["octets", "at"] (m_get_numbers f_get_number) := w_get_numbers T gget_number
  have gsigns_by_octets : FnD P w K mg base 1 (ad 7) (fd 7) ["signs"] f_signs_by_octets := w_signs_by_octets T 
  have gget_key : FnD P w K mg base 2 (ad 8) (fd 8) ["octets", "at"] f_get_key := w_get_key T gsigns_by_octets goctet_at
  have gget_text : FnD P w K mg base 3 (ad 9) (fd 9) ["octets", "at"] f_get_text := w_get_text T gget_number gsigns_by_octets goctet_at
  have gget_value : FnD P w K mg base 4 (ad 10) (fd 10) ["octets", "at"] f_get_value := w_get_value T goctet_at gget_integer gget_text
  have gget_pairs : FnD P w K mg base 5 (ad 11) (fd 11) ["octets", "at", "is_whole"] f_get_pairs := w_get_pairs T gget_number gget_key gget_value
  have gget_writes : FnD P w K mg base 6 (ad 12) (fd 12) ["octets", "at"] f_get_writes := w_get_writes T gget_pairs
  have gget_entries : FnD P w K mg base 6 (ad 13) (fd 13) ["octets", "at"] f_get_entries := w_get_entries T gget_pairs
  have gget_bound : FnD P w K mg base 3 (ad 14) (fd 14) ["octets", "at"] (m_get_bound f_octet_at f_get_key) := w_get_bound T goctet_at gget_key
  have gget_range : FnD P w K mg base 4 (ad 15) (fd 15) ["octets", "at"] (m_get_range (m_get_bound f_octet_at f_get_key)) := w_get_range T gget_bound
  have gread_whole : FnD P w K mg base 4 (ad 16) (fd 16) ["word", "octets"] rwM := w_read_whole T gget_number gget_integer gis_text
  have g_law_heap : FnD P w K mg base 1 (ad 17) (fd 17) ["_law_script", "_law_base"] f__law_heap := w__law_heap T 
  have g_law_draw : FnD P w K mg base 1 (ad 18) (fd 18) ["_law_heap_here", "_law_many"] f__law_draw := w__law_draw T 
  have g_law_pick : FnD P w K mg base 2 (ad 19) (fd 19) ["_law_heap_here", "_law_some"] f__law_pick := w__law_pick T g_law_draw
  have g_law_number_at : FnD P w K mg base 1 (ad 20) (fd 20) ["_law_octets_here", "_law_at"] f__law_number_at := w__law_number_at T 
  have g_law_octets : FnD P w K mg base 3 (ad 22) (fd 22) ["_law_heap_here", "_law_many"] f__law_octets := w__law_octets T g_law_pick g_law_draw
  have g_law_figures : FnD P w K mg base 1 (ad 23) (fd 23) ["_law_number"] f__law_figures := w__law_figures T 
  have g_law_there_and_back : FnD P w K mg base 5 (ad 24) (fd 24) ["_law_heap_here"] thM := w__law_there_and_back T g_law_figures gget_integer g_law_draw g_law_pick g_law_octets gput_number gget_number gread_whole gput_integer
  have g_law_any_octets : FnD P w K mg base 7 (ad 25) (fd 25) ["_law_heap_here"] (anM (tb 0).2) := w__law_any_octets T g_law_octets g_law_draw g_law_number_at g_law_pick gput_number gget_number gget_integer gread_whole B0
  have glaw : FnD P w K mg base 8 (ad 26) (fd 26) ["_law_script"] (m_law (tb 1).2 f__law_heap f__law_pick thM (anM (tb 0).2) rwM) := w_law T g_law_heap g_law_pick g_law_there_and_back g_law_any_octets gread_whole B1
  exact ⟨(lawM (tb 0).2 (tb 1).2), AE, e, glaw⟩
end K02
end
set_option maxHeartbeats 4000000
namespace K02
open PySem PySem.Spec PyProof.Rows L2 DM
theorem law_end {l : PySem.W.OpenLaw} {q : Program} {w : World} {K : PySem.W.Frag} {h : Heap} {mg : Str → Option Value} {fa : Addr} (X : K.In h) (G : h.Ns mainGlobals mg) (hfa : mg "law" = some (.ref fa)) {f0 f1 f2 f3 f4 f5 f6 f7 f8 f9 f10 f11 f12 f13 f14 f15 f16 f17 f18 f19 f20 f21 f22 f23 f24 f25 f26 f27 f28 f29 f31 f32 : Addr} {P0 P1 : Addr}
    {oc0 kV0 dc0 pm0 cd0 ct0 : Value} {od0 an0 : Option Addr} {sl0 : Array (Option Value)}
    (a0 : PySem.W.nsIn K mainGlobals "is_text" = some (some (.ref f0)))
    (l0 : K.lookup f0 = some ⟨oc0, od0, .func (PySem.W.fnOf "is_text" "is_text" (defArgs x_is_text) (defBody x_is_text) (defScope x_is_text) .none kV0 dc0 pm0 an0 cd0 ct0), sl0⟩)
    (c0 : PySem.W.codeIn K cd0 "is_text" = true)
    (k0 : PySem.W.keepIn K (.ref f0) = true)
    {oc1 kV1 dc1 pm1 cd1 ct1 : Value} {od1 an1 : Option Addr} {sl1 : Array (Option Value)}
    (a1 : PySem.W.nsIn K mainGlobals "octet_at" = some (some (.ref f1)))
    (l1 : K.lookup f1 = some ⟨oc1, od1, .func (PySem.W.fnOf "octet_at" "octet_at" (defArgs x_octet_at) (defBody x_octet_at) (defScope x_octet_at) .none kV1 dc1 pm1 an1 cd1 ct1), sl1⟩)
    (c1 : PySem.W.codeIn K cd1 "octet_at" = true)
    (k1 : PySem.W.keepIn K (.ref f1) = true)
    {oc2 kV2 dc2 pm2 cd2 ct2 : Value} {od2 an2 : Option Addr} {sl2 : Array (Option Value)}
    (a2 : PySem.W.nsIn K mainGlobals "put_number" = some (some (.ref f2)))
    (l2 : K.lookup f2 = some ⟨oc2, od2, .func (PySem.W.fnOf "put_number" "put_number" (defArgs x_put_number) (defBody x_put_number) (defScope x_put_number) .none kV2 dc2 pm2 an2 cd2 ct2), sl2⟩)
    (c2 : PySem.W.codeIn K cd2 "put_number" = true)
    (k2 : PySem.W.keepIn K (.ref f2) = true)
    {oc3 kV3 dc3 pm3 cd3 ct3 : Value} {od3 an3 : Option Addr} {sl3 : Array (Option Value)}
    (a3 : PySem.W.nsIn K mainGlobals "get_number" = some (some (.ref f3)))
    (l3 : K.lookup f3 = some ⟨oc3, od3, .func (PySem.W.fnOf "get_number" "get_number" (defArgs x_get_number) (defBody x_get_number) (defScope x_get_number) .none kV3 dc3 pm3 an3 cd3 ct3), sl3⟩)
    (c3 : PySem.W.codeIn K cd3 "get_number" = true)
    (k3 : PySem.W.keepIn K (.ref f3) = true)
    {oc4 kV4 dc4 pm4 cd4 ct4 : Value} {od4 an4 : Option Addr} {sl4 : Array (Option Value)}
    (a4 : PySem.W.nsIn K mainGlobals "put_integer" = some (some (.ref f4)))
    (l4 : K.lookup f4 = some ⟨oc4, od4, .func (PySem.W.fnOf "put_integer" "put_integer" (defArgs x_put_integer) (defBody x_put_integer) (defScope x_put_integer) .none kV4 dc4 pm4 an4 cd4 ct4), sl4⟩)
    (c4 : PySem.W.codeIn K cd4 "put_integer" = true)
    (k4 : PySem.W.keepIn K (.ref f4) = true)
    {oc5 kV5 dc5 pm5 cd5 ct5 : Value} {od5 an5 : Option Addr} {sl5 : Array (Option Value)}
    (a5 : PySem.W.nsIn K mainGlobals "get_integer" = some (some (.ref f5)))
    (l5 : K.lookup f5 = some ⟨oc5, od5, .func (PySem.W.fnOf "get_integer" "get_integer" (defArgs x_get_integer) (defBody x_get_integer) (defScope x_get_integer) .none kV5 dc5 pm5 an5 cd5 ct5), sl5⟩)
    (c5 : PySem.W.codeIn K cd5 "get_integer" = true)
    (k5 : PySem.W.keepIn K (.ref f5) = true)
    {oc6 kV6 dc6 pm6 cd6 ct6 : Value} {od6 an6 : Option Addr} {sl6 : Array (Option Value)}
    (a6 : PySem.W.nsIn K mainGlobals "get_numbers" = some (some (.ref f6)))
    (l6 : K.lookup f6 = some ⟨oc6, od6, .func (PySem.W.fnOf "get_numbers" "get_numbers" (defArgs x_get_numbers) (defBody x_get_numbers) (defScope x_get_numbers) .none kV6 dc6 pm6 an6 cd6 ct6), sl6⟩)
    (c6 : PySem.W.codeIn K cd6 "get_numbers" = true)
    (k6 : PySem.W.keepIn K (.ref f6) = true)
    {oc7 kV7 dc7 pm7 cd7 ct7 : Value} {od7 an7 : Option Addr} {sl7 : Array (Option Value)}
    (a7 : PySem.W.nsIn K mainGlobals "signs_by_octets" = some (some (.ref f7)))
    (l7 : K.lookup f7 = some ⟨oc7, od7, .func (PySem.W.fnOf "signs_by_octets" "signs_by_octets" (defArgs x_signs_by_octets) (defBody x_signs_by_octets) (defScope x_signs_by_octets) .none kV7 dc7 pm7 an7 cd7 ct7), sl7⟩)
    (c7 : PySem.W.codeIn K cd7 "signs_by_octets" = true)
    (k7 : PySem.W.keepIn K (.ref f7) = true)
    {oc8 kV8 dc8 pm8 cd8 ct8 : Value} {od8 an8 : Option Addr} {sl8 : Array (Option Value)}
    (a8 : PySem.W.nsIn K mainGlobals "get_key" = some (some (.ref f8)))
    (l8 : K.lookup f8 = some ⟨oc8, od8, .func (PySem.W.fnOf "get_key" "get_key" (defArgs x_get_key) (defBody x_get_key) (defScope x_get_key) .none kV8 dc8 pm8 an8 cd8 ct8), sl8⟩)
    (c8 : PySem.W.codeIn K cd8 "get_key" = true)
    (k8 : PySem.W.keepIn K (.ref f8) = true)
    {oc9 kV9 dc9 pm9 cd9 ct9 : Value} {od9 an9 : Option Addr} {sl9 : Array (Option Value)}
    (a9 : PySem.W.nsIn K mainGlobals "get_text" = some (some (.ref f9)))
    (l9 : K.lookup f9 = some ⟨oc9, od9, .func (PySem.W.fnOf "get_text" "get_text" (defArgs x_get_text) (defBody x_get_text) (defScope x_get_text) .none kV9 dc9 pm9 an9 cd9 ct9), sl9⟩)
    (c9 : PySem.W.codeIn K cd9 "get_text" = true)
    (k9 : PySem.W.keepIn K (.ref f9) = true)
    {oc10 kV10 dc10 pm10 cd10 ct10 : Value} {od10 an10 : Option Addr} {sl10 : Array (Option Value)}
    (a10 : PySem.W.nsIn K mainGlobals "get_value" = some (some (.ref f10)))
    (l10 : K.lookup f10 = some ⟨oc10, od10, .func (PySem.W.fnOf "get_value" "get_value" (defArgs x_get_value) (defBody x_get_value) (defScope x_get_value) .none kV10 dc10 pm10 an10 cd10 ct10), sl10⟩)
    (c10 : PySem.W.codeIn K cd10 "get_value" = true)
    (k10 : PySem.W.keepIn K (.ref f10) = true)
    {oc11 kV11 dc11 pm11 cd11 ct11 : Value} {od11 an11 : Option Addr} {sl11 : Array (Option Value)}
    (a11 : PySem.W.nsIn K mainGlobals "get_pairs" = some (some (.ref f11)))
    (l11 : K.lookup f11 = some ⟨oc11, od11, .func (PySem.W.fnOf "get_pairs" "get_pairs" (defArgs x_get_pairs) (defBody x_get_pairs) (defScope x_get_pairs) .none kV11 dc11 pm11 an11 cd11 ct11), sl11⟩)
    (c11 : PySem.W.codeIn K cd11 "get_pairs" = true)
    (k11 : PySem.W.keepIn K (.ref f11) = true)
    {oc12 kV12 dc12 pm12 cd12 ct12 : Value} {od12 an12 : Option Addr} {sl12 : Array (Option Value)}
    (a12 : PySem.W.nsIn K mainGlobals "get_writes" = some (some (.ref f12)))
    (l12 : K.lookup f12 = some ⟨oc12, od12, .func (PySem.W.fnOf "get_writes" "get_writes" (defArgs x_get_writes) (defBody x_get_writes) (defScope x_get_writes) .none kV12 dc12 pm12 an12 cd12 ct12), sl12⟩)
    (c12 : PySem.W.codeIn K cd12 "get_writes" = true)
    (k12 : PySem.W.keepIn K (.ref f12) = true)
    {oc13 kV13 dc13 pm13 cd13 ct13 : Value} {od13 an13 : Option Addr} {sl13 : Array (Option Value)}
    (a13 : PySem.W.nsIn K mainGlobals "get_entries" = some (some (.ref f13)))
    (l13 : K.lookup f13 = some ⟨oc13, od13, .func (PySem.W.fnOf "get_entries" "get_entries" (defArgs x_get_entries) (defBody x_get_entries) (defScope x_get_entries) .none kV13 dc13 pm13 an13 cd13 ct13), sl13⟩)
    (c13 : PySem.W.codeIn K cd13 "get_entries" = true)
    (k13 : PySem.W.keepIn K (.ref f13) = true)
    {oc14 kV14 dc14 pm14 cd14 ct14 : Value} {od14 an14 : Option Addr} {sl14 : Array (Option Value)}
    (a14 : PySem.W.nsIn K mainGlobals "get_bound" = some (some (.ref f14)))
    (l14 : K.lookup f14 = some ⟨oc14, od14, .func (PySem.W.fnOf "get_bound" "get_bound" (defArgs x_get_bound) (defBody x_get_bound) (defScope x_get_bound) .none kV14 dc14 pm14 an14 cd14 ct14), sl14⟩)
    (c14 : PySem.W.codeIn K cd14 "get_bound" = true)
    (k14 : PySem.W.keepIn K (.ref f14) = true)
    {oc15 kV15 dc15 pm15 cd15 ct15 : Value} {od15 an15 : Option Addr} {sl15 : Array (Option Value)}
    (a15 : PySem.W.nsIn K mainGlobals "get_range" = some (some (.ref f15)))
    (l15 : K.lookup f15 = some ⟨oc15, od15, .func (PySem.W.fnOf "get_range" "get_range" (defArgs x_get_range) (defBody x_get_range) (defScope x_get_range) .none kV15 dc15 pm15 an15 cd15 ct15), sl15⟩)
    (c15 : PySem.W.codeIn K cd15 "get_range" = true)
    (k15 : PySem.W.keepIn K (.ref f15) = true)
    {oc16 kV16 dc16 pm16 cd16 ct16 : Value} {od16 an16 : Option Addr} {sl16 : Array (Option Value)}
    (a16 : PySem.W.nsIn K mainGlobals "read_whole" = some (some (.ref f16)))
    (l16 : K.lookup f16 = some ⟨oc16, od16, .func (PySem.W.fnOf "read_whole" "read_whole" (defArgs x_read_whole) (defBody x_read_whole) (defScope x_read_whole) .none kV16 dc16 pm16 an16 cd16 ct16), sl16⟩)
    (c16 : PySem.W.codeIn K cd16 "read_whole" = true)
    (k16 : PySem.W.keepIn K (.ref f16) = true)
    {oc17 kV17 dc17 pm17 cd17 ct17 : Value} {od17 an17 : Option Addr} {sl17 : Array (Option Value)}
    (a17 : PySem.W.nsIn K mainGlobals "_law_heap" = some (some (.ref f17)))
    (l17 : K.lookup f17 = some ⟨oc17, od17, .func (PySem.W.fnOf "_law_heap" "_law_heap" (defArgs x__law_heap) (defBody x__law_heap) (defScope x__law_heap) .none kV17 dc17 pm17 an17 cd17 ct17), sl17⟩)
    (c17 : PySem.W.codeIn K cd17 "_law_heap" = true)
    (k17 : PySem.W.keepIn K (.ref f17) = true)
    {oc18 kV18 dc18 pm18 cd18 ct18 : Value} {od18 an18 : Option Addr} {sl18 : Array (Option Value)}
    (a18 : PySem.W.nsIn K mainGlobals "_law_draw" = some (some (.ref f18)))
    (l18 : K.lookup f18 = some ⟨oc18, od18, .func (PySem.W.fnOf "_law_draw" "_law_draw" (defArgs x__law_draw) (defBody x__law_draw) (defScope x__law_draw) .none kV18 dc18 pm18 an18 cd18 ct18), sl18⟩)
    (c18 : PySem.W.codeIn K cd18 "_law_draw" = true)
    (k18 : PySem.W.keepIn K (.ref f18) = true)
    {oc19 kV19 dc19 pm19 cd19 ct19 : Value} {od19 an19 : Option Addr} {sl19 : Array (Option Value)}
    (a19 : PySem.W.nsIn K mainGlobals "_law_pick" = some (some (.ref f19)))
    (l19 : K.lookup f19 = some ⟨oc19, od19, .func (PySem.W.fnOf "_law_pick" "_law_pick" (defArgs x__law_pick) (defBody x__law_pick) (defScope x__law_pick) .none kV19 dc19 pm19 an19 cd19 ct19), sl19⟩)
    (c19 : PySem.W.codeIn K cd19 "_law_pick" = true)
    (k19 : PySem.W.keepIn K (.ref f19) = true)
    {oc20 kV20 dc20 pm20 cd20 ct20 : Value} {od20 an20 : Option Addr} {sl20 : Array (Option Value)}
    (a20 : PySem.W.nsIn K mainGlobals "_law_number_at" = some (some (.ref f20)))
    (l20 : K.lookup f20 = some ⟨oc20, od20, .func (PySem.W.fnOf "_law_number_at" "_law_number_at" (defArgs x__law_number_at) (defBody x__law_number_at) (defScope x__law_number_at) .none kV20 dc20 pm20 an20 cd20 ct20), sl20⟩)
    (c20 : PySem.W.codeIn K cd20 "_law_number_at" = true)
    (k20 : PySem.W.keepIn K (.ref f20) = true)
    {oc21 kV21 dc21 pm21 cd21 ct21 : Value} {od21 an21 : Option Addr} {sl21 : Array (Option Value)}
    (a21 : PySem.W.nsIn K mainGlobals "_law_heard" = some (some (.ref f21)))
    (l21 : K.lookup f21 = some ⟨oc21, od21, .func (PySem.W.fnOf "_law_heard" "_law_heard" (defArgs x__law_heard) (defBody x__law_heard) (defScope x__law_heard) .none kV21 dc21 pm21 an21 cd21 ct21), sl21⟩)
    (c21 : PySem.W.codeIn K cd21 "_law_heard" = true)
    (k21 : PySem.W.keepIn K (.ref f21) = true)
    {oc22 kV22 dc22 pm22 cd22 ct22 : Value} {od22 an22 : Option Addr} {sl22 : Array (Option Value)}
    (a22 : PySem.W.nsIn K mainGlobals "_law_octets" = some (some (.ref f22)))
    (l22 : K.lookup f22 = some ⟨oc22, od22, .func (PySem.W.fnOf "_law_octets" "_law_octets" (defArgs x__law_octets) (defBody x__law_octets) (defScope x__law_octets) .none kV22 dc22 pm22 an22 cd22 ct22), sl22⟩)
    (c22 : PySem.W.codeIn K cd22 "_law_octets" = true)
    (k22 : PySem.W.keepIn K (.ref f22) = true)
    {oc23 kV23 dc23 pm23 cd23 ct23 : Value} {od23 an23 : Option Addr} {sl23 : Array (Option Value)}
    (a23 : PySem.W.nsIn K mainGlobals "_law_figures" = some (some (.ref f23)))
    (l23 : K.lookup f23 = some ⟨oc23, od23, .func (PySem.W.fnOf "_law_figures" "_law_figures" (defArgs x__law_figures) (defBody x__law_figures) (defScope x__law_figures) .none kV23 dc23 pm23 an23 cd23 ct23), sl23⟩)
    (c23 : PySem.W.codeIn K cd23 "_law_figures" = true)
    (k23 : PySem.W.keepIn K (.ref f23) = true)
    {oc24 kV24 dc24 pm24 cd24 ct24 : Value} {od24 an24 : Option Addr} {sl24 : Array (Option Value)}
    (a24 : PySem.W.nsIn K mainGlobals "_law_there_and_back" = some (some (.ref f24)))
    (l24 : K.lookup f24 = some ⟨oc24, od24, .func (PySem.W.fnOf "_law_there_and_back" "_law_there_and_back" (defArgs x__law_there_and_back) (defBody x__law_there_and_back) (defScope x__law_there_and_back) .none kV24 dc24 pm24 an24 cd24 ct24), sl24⟩)
    (c24 : PySem.W.codeIn K cd24 "_law_there_and_back" = true)
    (k24 : PySem.W.keepIn K (.ref f24) = true)
    {oc25 kV25 dc25 pm25 ct25 : Value} {od25 an25 : Option Addr} {sl25 : Array (Option Value)} {cc25 : Addr}
    (a25 : PySem.W.nsIn K mainGlobals "_law_any_octets" = some (some (.ref f25)))
    (l25 : K.lookup f25 = some ⟨oc25, od25, .func (PySem.W.fnOf "_law_any_octets" "_law_any_octets" (defArgs x__law_any_octets) (defBody x__law_any_octets) (defScope x__law_any_octets) .none kV25 dc25 pm25 an25 (.ref cc25) ct25), sl25⟩)
    (c25 : PySem.W.codeIn K (.ref cc25) "_law_any_octets" = true)
    (k25 : PySem.W.keepIn K (.ref f25) = true)
    {oc26 kV26 dc26 pm26 ct26 : Value} {od26 an26 : Option Addr} {sl26 : Array (Option Value)} {cc26 : Addr}
    (a26 : PySem.W.nsIn K mainGlobals "law" = some (some (.ref f26)))
    (l26 : K.lookup f26 = some ⟨oc26, od26, .func (PySem.W.fnOf "law" "law" (defArgs x_law) (defBody x_law) (defScope x_law) .none kV26 dc26 pm26 an26 (.ref cc26) ct26), sl26⟩)
    (c26 : PySem.W.codeIn K (.ref cc26) "law" = true)
    (k26 : PySem.W.keepIn K (.ref f26) = true)
    (sp : PySem.W.specialIn K (.builtin "object.__class__") "__get__" = some (some (.builtin "getset_descriptor.__get__")))
    (tp : PySem.W.takesIn K (.builtin "object.__class__") = some true)
    (tq : PySem.W.nsIn K cStatics "thirdparty.any" = some none)
    (tr : (l.prog.main.scope.names.lookup ("super" : Str)).isSome = false)
    (ea27 : PySem.W.nsIn K mainGlobals "StoreError" = some (some (.ref f27)))
    (eb27 : PySem.W.findIn K (.ref f27) "__getattribute__" = some (some (.builtin "BaseException.__getattribute__")))
    (ec27 : PySem.W.findIn K (.ref f27) "__getattr__" = some none)
    (ed27 : PySem.W.subIn K (.ref f27) (.type "BaseException") = some true)
    (ee27 : PySem.W.hasDictIn K f27 = true)
    (ef27 : PySem.W.findIn K (.ref f27) "__class__" = some (some (.builtin "object.__class__")))
    (eg27 : PySem.W.mroIn K f27 (.type "object") = some true)
    (eh27 : PySem.W.typeIn K (.ref f27) = some (.type "type"))
    (ei27 : PySem.W.keepIn K (.ref f27) = true)
    (ej27 : PySem.W.subIn K (.ref f27) (.ref f27) = some true)
    (ea28 : PySem.W.nsIn K mainGlobals "InvalidOctets" = some (some (.ref f28)))
    (eb28 : PySem.W.findIn K (.ref f28) "__getattribute__" = some (some (.builtin "BaseException.__getattribute__")))
    (ec28 : PySem.W.findIn K (.ref f28) "__getattr__" = some none)
    (ed28 : PySem.W.subIn K (.ref f28) (.type "BaseException") = some true)
    (ee28 : PySem.W.hasDictIn K f28 = true)
    (ef28 : PySem.W.findIn K (.ref f28) "__class__" = some (some (.builtin "object.__class__")))
    (eg28 : PySem.W.mroIn K f28 (.type "object") = some true)
    (eh28 : PySem.W.typeIn K (.ref f28) = some (.type "type"))
    (ei28 : PySem.W.keepIn K (.ref f28) = true)
    (ej28 : PySem.W.subIn K (.ref f28) (.ref f28) = some true)
    (ea29 : PySem.W.nsIn K mainGlobals "NoName" = some (some (.ref f29)))
    (eb29 : PySem.W.findIn K (.ref f29) "__getattribute__" = some (some (.builtin "BaseException.__getattribute__")))
    (ec29 : PySem.W.findIn K (.ref f29) "__getattr__" = some none)
    (ed29 : PySem.W.subIn K (.ref f29) (.type "BaseException") = some true)
    (ee29 : PySem.W.hasDictIn K f29 = true)
    (ef29 : PySem.W.findIn K (.ref f29) "__class__" = some (some (.builtin "object.__class__")))
    (eg29 : PySem.W.mroIn K f29 (.type "object") = some true)
    (eh29 : PySem.W.typeIn K (.ref f29) = some (.type "type"))
    (ei29 : PySem.W.keepIn K (.ref f29) = true)
    (ej29 : PySem.W.subIn K (.ref f29) (.ref f29) = some true)
    (en28_at : PySem.W.findIn K (.ref f28) "at" = some none)
    (en29_name : PySem.W.findIn K (.ref f29) "name" = some none)
    (eu28_28 : PySem.W.subIn K (.ref f28) (.ref f28) = some true)
    (eu28_29 : PySem.W.subIn K (.ref f28) (.ref f29) = some false)
    (eu28_27 : PySem.W.subIn K (.ref f28) (.ref f27) = some true)
    (eu29_28 : PySem.W.subIn K (.ref f29) (.ref f28) = some false)
    (eu29_29 : PySem.W.subIn K (.ref f29) (.ref f29) = some true)
    (eu29_27 : PySem.W.subIn K (.ref f29) (.ref f27) = some false)
    (et29_KeyError : PySem.W.subIn K (.ref f29) (.type "KeyError") = some true)
    {nm28 qn28 : Str} {N28 : Addr} {bs28 bm28 : List Value} {sn28 : List Str} {sb28 : List Value} {ab28 : Bool} {cl28 : Option Bool} {dd28 : Option Addr} {ka28 kb28 kc28 kd28 ke28 : Option Value}
    {oc28 kV28 dc28 pm28 ct28 ccl28 cel28 : Value} {od28 an28 cdd28 cld28 : Option Addr} {sl28 ccs28 csl28 : Array (Option Value)} {qual28 file28 : Str} {cda28 cc28 : Addr} {vs28 : Array Value} {tf28 : Tok}
    (xa28 : K.lookup f28 = some (excClassObj nm28 qn28 f28 N28 bs28 bm28 true sn28 sb28 ab28 cl28 dd28 ka28 kb28 kc28 kd28 ke28 "Exception.__new__"))
    (xb28 : ErE.Line [.type "Exception", .type "BaseException", .type "object"] bm28)
    (xc28 : PySem.W.findIn K (.ref f28) "__setattr__" = some (some (.builtin "object.__setattr__")))
    (xd28 : PySem.W.findIn K (.ref f28) "__init__" = some (some (.ref f31)))
    (xe28 : PySem.W.typeIn K (.ref f31) = some (.type "function"))
    (xf28 : PySem.W.ks_superIn K f28 f28 "__init__" = some (some (.builtin "Exception.__init__")))
    (xg28 : PySem.W.subIn K (.ref f28) (.type "Exception") = some true)
    (xh28 : K.lookup f31 = some ⟨oc28, od28, .func (PySem.W.ksFn "__init__" qual28 (defArgs (methAt x_InvalidOctets 0)) (defBody (methAt x_InvalidOctets 0)) (defScope (methAt x_InvalidOctets 0)) .none kV28 dc28 pm28 an28 (.ref cda28) ct28 cc28), sl28⟩)
    (xi28 : PySem.W.codeIn K (.ref cda28) qual28 = true)
    (xj28 : K.lookup cda28 = some ⟨ccl28, cdd28, .fields vs28, ccs28⟩)
    (xk28 : vs28[2]? = some (.str file28 tf28))
    (xl28 : ((l.prog.main.file : Str) == file28) = true)
    (xm28 : K.lookup cc28 = some ⟨cel28, cld28, .cell (some (.ref f28)), csl28⟩)
    {nm29 qn29 : Str} {N29 : Addr} {bs29 bm29 : List Value} {sn29 : List Str} {sb29 : List Value} {ab29 : Bool} {cl29 : Option Bool} {dd29 : Option Addr} {ka29 kb29 kc29 kd29 ke29 : Option Value}
    {oc29 kV29 dc29 pm29 ct29 ccl29 cel29 : Value} {od29 an29 cdd29 cld29 : Option Addr} {sl29 ccs29 csl29 : Array (Option Value)} {qual29 file29 : Str} {cda29 cc29 : Addr} {vs29 : Array Value} {tf29 : Tok}
    (xa29 : K.lookup f29 = some (excClassObj nm29 qn29 f29 N29 bs29 bm29 true sn29 sb29 ab29 cl29 dd29 ka29 kb29 kc29 kd29 ke29 "LookupError.__new__"))
    (xb29 : ErE.Line [.type "KeyError", .type "LookupError", .type "Exception", .type "BaseException", .type "object"] bm29)
    (xc29 : PySem.W.findIn K (.ref f29) "__setattr__" = some (some (.builtin "object.__setattr__")))
    (xd29 : PySem.W.findIn K (.ref f29) "__init__" = some (some (.ref f32)))
    (xe29 : PySem.W.typeIn K (.ref f32) = some (.type "function"))
    (xf29 : PySem.W.ks_superIn K f29 f29 "__init__" = some (some (.builtin "KeyError.__init__")))
    (xg29 : PySem.W.subIn K (.ref f29) (.type "KeyError") = some true)
    (xh29 : K.lookup f32 = some ⟨oc29, od29, .func (PySem.W.ksFn "__init__" qual29 (defArgs (methAt x_NoName 0)) (defBody (methAt x_NoName 0)) (defScope (methAt x_NoName 0)) .none kV29 dc29 pm29 an29 (.ref cda29) ct29 cc29), sl29⟩)
    (xi29 : PySem.W.codeIn K (.ref cda29) qual29 = true)
    (xj29 : K.lookup cda29 = some ⟨ccl29, cdd29, .fields vs29, ccs29⟩)
    (xk29 : vs29[2]? = some (.str file29 tf29))
    (xl29 : ((l.prog.main.file : Str) == file29) = true)
    (xm29 : K.lookup cc29 = some ⟨cel29, cld29, .cell (some (.ref f29)), csl29⟩)
    (z0 : PySem.W.nsIn K mainGlobals "KeyError" = some none)
    (z1 : PySem.W.nsIn K mainGlobals "abs" = some none)
    (z2 : PySem.W.nsIn K mainGlobals "int" = some none)
    (z3 : PySem.W.nsIn K mainGlobals "isinstance" = some none)
    (z4 : PySem.W.nsIn K mainGlobals "len" = some none)
    (z5 : PySem.W.nsIn K mainGlobals "max" = some none)
    (z6 : PySem.W.nsIn K mainGlobals "min" = some none)
    (z7 : PySem.W.nsIn K mainGlobals "ord" = some none)
    (z8 : PySem.W.nsIn K mainGlobals "range" = some none)
    (z9 : PySem.W.nsIn K mainGlobals "repr" = some none)
    (z10 : PySem.W.nsIn K mainGlobals "str" = some none)
    (z11 : PySem.W.nsIn K mainGlobals "super" = some none)
    (z12 : PySem.W.nsIn K mainGlobals "tuple" = some none)
    {t0 : Tok} (u0 : PySem.W.nsIn K mainGlobals "KEY_SIGNS" = some (some (.str "0123456789_abcdefghijklmnopqrstuvwxyz" t0)))
    {t1 : Tok} (u1 : PySem.W.nsIn K mainGlobals "TEXT_SIGNS" = some (some (.str " -./0123456789:ABCDEFGHIJKLMNOPQRSTUVWXYZ_abcdefghijklmnopqrstuvwxyz" t1)))
    {t2 : Tok} (u2 : PySem.W.nsIn K mainGlobals "LONGEST_KEY" = some (some (.int 16 t2)))
    {t3 : Tok} (u3 : PySem.W.nsIn K mainGlobals "LONGEST_TEXT" = some (some (.int 32 t3)))
    {t4 : Tok} (u4 : PySem.W.nsIn K mainGlobals "GREATEST" = some (some (.int 1000000000000000000 t4)))
    {t5 : Tok} (u5 : PySem.W.nsIn K mainGlobals "MOST_OCTETS" = some (some (.int 9 t5)))
    {t6 : Tok} (u6 : PySem.W.nsIn K mainGlobals "NONE_TAG" = some (some (.int 0 t6)))
    {t7 : Tok} (u7 : PySem.W.nsIn K mainGlobals "INTEGER_TAG" = some (some (.int 1 t7)))
    {t8 : Tok} (u8 : PySem.W.nsIn K mainGlobals "TEXT_TAG" = some (some (.int 2 t8)))
    {kd0 : Addr} {ks0 : Array DictEntry} {kn0 : Nat}
    {kv0_0 : Addr}
    {kv0_1 : Addr}
    {kv0_2 : Addr}
    {kv0_3 : Addr}
    {kv0_4 : Addr}
    {kv0_5 : Addr}
    {kv0_6 : Addr}
    {kv0_7 : Addr}
    {kv0_8 : Addr}
    (ka0 : PySem.W.nsIn K mainGlobals "GETTERS" = some (some (.ref kd0)))
    (kb0 : K.lookup kd0 = some { cls := .type "dict", data := .dict ks0 kn0 })
    (kc0 : (kd0 == sysModules) = false)
    (kw0_0 : PySem.W.nsIn K mainGlobals "get_number" = some (some (.ref kv0_0)))
    (kw0_1 : PySem.W.nsIn K mainGlobals "get_integer" = some (some (.ref kv0_1)))
    (kw0_2 : PySem.W.nsIn K mainGlobals "get_numbers" = some (some (.ref kv0_2)))
    (kw0_3 : PySem.W.nsIn K mainGlobals "get_key" = some (some (.ref kv0_3)))
    (kw0_4 : PySem.W.nsIn K mainGlobals "get_text" = some (some (.ref kv0_4)))
    (kw0_5 : PySem.W.nsIn K mainGlobals "get_value" = some (some (.ref kv0_5)))
    (kw0_6 : PySem.W.nsIn K mainGlobals "get_writes" = some (some (.ref kv0_6)))
    (kw0_7 : PySem.W.nsIn K mainGlobals "get_entries" = some (some (.ref kv0_7)))
    (kw0_8 : PySem.W.nsIn K mainGlobals "get_range" = some (some (.ref kv0_8)))
    (ke0 : TabE w.params ks0.toList [("number", .ref kv0_0), ("integer", .ref kv0_1), ("numbers", .ref kv0_2), ("key", .ref kv0_3), ("text", .ref kv0_4), ("value", .ref kv0_5), ("writes", .ref kv0_6), ("entries", .ref kv0_7), ("range", .ref kv0_8)])
    {tcl0 : Value} {tdd0 : Option Addr} {tvs0 : Array Value} {tcs0 : Array (Option Value)} {te0 : DefRec}
    (ta0 : K.lookup cc25 = some ⟨tcl0, tdd0, .fields tvs0, tcs0⟩)
    (tb0 : tvs0[11]? = some (.ref P0))
    (tc0 : K.lookup P0 = none)
    (td0 : (recsOf q).find? (fun e : DefRec => e.name == ("_law_any_octets" : Str)) = some te0)
    {tcl1 : Value} {tdd1 : Option Addr} {tvs1 : Array Value} {tcs1 : Array (Option Value)} {te1 : DefRec}
    (ta1 : K.lookup cc26 = some ⟨tcl1, tdd1, .fields tvs1, tcs1⟩)
    (tb1 : tvs1[11]? = some (.ref P1))
    (tc1 : K.lookup P1 = none)
    (td1 : (recsOf q).find? (fun e : DefRec => e.name == ("law" : Str)) = some te1)
    (tnd : [P0, P1].Nodup)
    : ∃ (fd : FuncData) (cs : Tabs0), (∀ p ∈ cs, ∃ (y : Str) (e : DefRec), (recsOf q).find? (fun e => e.name == y) = some e ∧ PySem.W.tabIn K y = some (p.1, p.2.1)) ∧ (∀ p ∈ cs, K.lookup p.2.1 = none) ∧ (cs.map (·.2.1)).Nodup ∧
        (∀ (s : Shared) (u : Value), BindsTo s fd ⟨[u], []⟩ [("_law_script", u)]) ∧ ∀ base : Heap, K.In base → base.Ns mainGlobals mg → (∀ p ∈ cs, LamX.TabB base mg p.1 p.2.1) → ∀ ns : List Int, ns.length ≤ 63 → (∀ z ∈ ns, Builtin.Int.intBits z ≤ 1048576) →
        ∃ (mf : List D → AH → Res D) (AE : AH), mf [.lst (ns.map D.int)] (tabs0 cs) = .ok (.bl true) AE ∧ FnD l.prog w K mg base 8 fa fd ["_law_script"] mf := by
  have e := hfa.symm.trans (PySem.W.mg_of X G a26)
  cases e
  have T := tx_mk (P := l.prog) (P0 := P0) (P1 := P1) X G a0 l0 c0 k0 a1 l1 c1 k1 a2 l2 c2 k2 a3 l3 c3 k3 a4 l4 c4 k4 a5 l5 c5 k5 a6 l6 c6 k6 a7 l7 c7 k7 a8 l8 c8 k8 a9 l9 c9 k9 a10 l10 c10 k10 a11 l11 c11 k11 a12 l12 c12 k12 a13 l13 c13 k13 a14 l14 c14 k14 a15 l15 c15 k15 a16 l16 c16 k16 a17 l17 c17 k17 a18 l18 c18 k18 a19 l19 c19 k19 a20 l20 c20 k20 a21 l21 c21 k21 a22 l22 c22 k22 a23 l23 c23 k23 a24 l24 c24 k24 a25 l25 c25 k25 a26 l26 c26 k26 sp tp tq tr ea27 eb27 ec27 ed27 ee27 ef27 eg27 eh27 ei27 ej27 ea28 eb28 ec28 ed28 ee28 ef28 eg28 eh28 ei28 ej28 ea29 eb29 ec29 ed29 ee29 ef29 eg29 eh29 ei29 ej29 en28_at en29_name eu28_28 eu28_29 eu28_27 eu29_28 eu29_29 eu29_27 et29_KeyError xa28 xb28 xc28 xd28 xe28 xf28 xg28 xh28 xi28 xj28 xk28 xl28 xm28 xa29 xb29 xc29 xd29 xe29 xf29 xg29 xh29 xi29 xj29 xk29 xl29 xm29 z0 z1 z2 z3 z4 z5 z6 z7 z8 z9 z10 z11 z12 u0 u1 u2 u3 u4 u5 u6 u7 u8 ka0 kb0 kc0 kw0_0 kw0_1 kw0_2 kw0_3 kw0_4 kw0_5 kw0_6 kw0_7 kw0_8 ke0
  refine ⟨_, [(cc25, P0, lamQ "_law_any_octets"), (cc26, P1, lamQ "law")], fun p hp => ?_, fun p hp => ?_, tnd, fun s u => .of_eq rfl, fun base _ _ tbs ns hl hb => law_true T tbs ns hl hb⟩
  · simp only [List.mem_cons, List.not_mem_nil, or_false] at hp
    rcases hp with rfl | rfl
    · exact ⟨"_law_any_octets", _, td0, tabIn_mk a25 l25 rfl ta0 tb0⟩
    · exact ⟨"law", _, td1, tabIn_mk a26 l26 rfl ta1 tb1⟩
  · simp only [List.mem_cons, List.not_mem_nil, or_false] at hp
    rcases hp with rfl | rfl
    · exact tc0
    · exact tc1
end K02
open PySem PySem.W PyProof.Rows
set_option maxHeartbeats 0 in
theorem PySem.Challenge.cw_spelledways_k02_whole_numbers_as_octets_holds : PySem.Challenge.rw_spelledways_k02_whole_numbers_as_octets.Holds := by
  w_on; o_law; k_head; (case hw => w_witness2)
  k_fill
  refine DM.law_walk (l := PySem.Challenge.rw_spelledways_k02_whole_numbers_as_octets) (n := 63) (k := 8) (x := "_law_script") rfl (by decide) rfl ⟨rfl, by decide, by decide⟩ (fun w h Y => by first | exact PySem.W.kIn_of Y | exact PySem.W.km_in_of Y) ?F
  case F =>
    intro w mg fa h KX G hmg
    refine' K02.law_end KX G hmg ?a0 ?l0 ?c0 ?k0 ?a1 ?l1 ?c1 ?k1 ?a2 ?l2 ?c2 ?k2 ?a3 ?l3 ?c3 ?k3 ?a4 ?l4 ?c4 ?k4 ?a5 ?l5 ?c5 ?k5 ?a6 ?l6 ?c6 ?k6 ?a7 ?l7 ?c7 ?k7 ?a8 ?l8 ?c8 ?k8 ?a9 ?l9 ?c9 ?k9 ?a10 ?l10 ?c10 ?k10 ?a11 ?l11 ?c11 ?k11 ?a12 ?l12 ?c12 ?k12 ?a13 ?l13 ?c13 ?k13 ?a14 ?l14 ?c14 ?k14 ?a15 ?l15 ?c15 ?k15 ?a16 ?l16 ?c16 ?k16 ?a17 ?l17 ?c17 ?k17 ?a18 ?l18 ?c18 ?k18 ?a19 ?l19 ?c19 ?k19 ?a20 ?l20 ?c20 ?k20 ?a21 ?l21 ?c21 ?k21 ?a22 ?l22 ?c22 ?k22 ?a23 ?l23 ?c23 ?k23 ?a24 ?l24 ?c24 ?k24 ?a25 ?l25 ?c25 ?k25 ?a26 ?l26 ?c26 ?k26 ?sp ?tp ?tq ?tr ?ea27 ?eb27 ?ec27 ?ed27 ?ee27 ?ef27 ?eg27 ?eh27 ?ei27 ?ej27 ?ea28 ?eb28 ?ec28 ?ed28 ?ee28 ?ef28 ?eg28 ?eh28 ?ei28 ?ej28 ?ea29 ?eb29 ?ec29 ?ed29 ?ee29 ?ef29 ?eg29 ?eh29 ?ei29 ?ej29 ?en28_at ?en29_name ?eu28_28 ?eu28_29 ?eu28_27 ?eu29_28 ?eu29_29 ?eu29_27 ?et29_KeyError ?xa28 ?xb28 ?xc28 ?xd28 ?xe28 ?xf28 ?xg28 ?xh28 ?xi28 ?xj28 ?xk28 ?xl28 ?xm28 ?xa29 ?xb29 ?xc29 ?xd29 ?xe29 ?xf29 ?xg29 ?xh29 ?xi29 ?xj29 ?xk29 ?xl29 ?xm29 ?z0 ?z1 ?z2 ?z3 ?z4 ?z5 ?z6 ?z7 ?z8 ?z9 ?z10 ?z11 ?z12 ?u0 ?u1 ?u2 ?u3 ?u4 ?u5 ?u6 ?u7 ?u8 ?ka0 ?kb0 ?kc0 ?kw0_0 ?kw0_1 ?kw0_2 ?kw0_3 ?kw0_4 ?kw0_5 ?kw0_6 ?kw0_7 ?kw0_8 ?ke0 ?ta0 ?tb0 ?tc0 ?td0 ?ta1 ?tb1 ?tc1 ?td1 ?tnd
    (case a0 => k_is); (case l0 => k_is); (case c0 => k_is); (case k0 => k_is); (case a1 => k_is); (case l1 => k_is); (case c1 => k_is); (case k1 => k_is); (case a2 => k_is); (case l2 => k_is); (case c2 => k_is); (case k2 => k_is); (case a3 => k_is); (case l3 => k_is); (case c3 => k_is); (case k3 => k_is); (case a4 => k_is); (case l4 => k_is); (case c4 => k_is); (case k4 => k_is); (case a5 => k_is); (case l5 => k_is); (case c5 => k_is); (case k5 => k_is); (case a6 => k_is); (case l6 => k_is); (case c6 => k_is); (case k6 => k_is); (case a7 => k_is); (case l7 => k_is); (case c7 => k_is); (case k7 => k_is); (case a8 => k_is); (case l8 => k_is); (case c8 => k_is); (case k8 => k_is); (case a9 => k_is); (case l9 => k_is); (case c9 => k_is); (case k9 => k_is); (case a10 => k_is); (case l10 => k_is); (case c10 => k_is); (case k10 => k_is); (case a11 => k_is); (case l11 => k_is); (case c11 => k_is); (case k11 => k_is); (case a12 => k_is); (case l12 => k_is); (case c12 => k_is); (case k12 => k_is); (case a13 => k_is); (case l13 => k_is); (case c13 => k_is); (case k13 => k_is); (case a14 => k_is); (case l14 => k_is); (case c14 => k_is); (case k14 => k_is); (case a15 => k_is); (case l15 => k_is); (case c15 => k_is); (case k15 => k_is); (case a16 => k_is); (case l16 => k_is); (case c16 => k_is); (case k16 => k_is); (case a17 => k_is); (case l17 => k_is); (case c17 => k_is); (case k17 => k_is); (case a18 => k_is); (case l18 => k_is); (case c18 => k_is); (case k18 => k_is); (case a19 => k_is); (case l19 => k_is); (case c19 => k_is); (case k19 => k_is); (case a20 => k_is); (case l20 => k_is); (case c20 => k_is); (case k20 => k_is); (case a21 => k_is); (case l21 => k_is); (case c21 => k_is); (case k21 => k_is); (case a22 => k_is); (case l22 => k_is); (case c22 => k_is); (case k22 => k_is); (case a23 => k_is); (case l23 => k_is); (case c23 => k_is); (case k23 => k_is); (case a24 => k_is); (case l24 => k_is); (case c24 => k_is); (case k24 => k_is); (case a25 => k_is); (case l25 => k_is); (case c25 => k_is); (case k25 => k_is); (case a26 => k_is); (case l26 => k_is); (case c26 => k_is); (case k26 => k_is); (case sp => k_is); (case tp => k_is); (case tq => k_is); (case tr => rfl); (case ea27 => k_is); (case eb27 => k_is); (case ec27 => k_is); (case ed27 => k_is); (case ee27 => k_is); (case ef27 => k_is); (case eg27 => k_is); (case eh27 => k_is); (case ei27 => k_is); (case ej27 => k_is); (case ea28 => k_is); (case eb28 => k_is); (case ec28 => k_is); (case ed28 => k_is); (case ee28 => k_is); (case ef28 => k_is); (case eg28 => k_is); (case eh28 => k_is); (case ei28 => k_is); (case ej28 => k_is); (case ea29 => k_is); (case eb29 => k_is); (case ec29 => k_is); (case ed29 => k_is); (case ee29 => k_is); (case ef29 => k_is); (case eg29 => k_is); (case eh29 => k_is); (case ei29 => k_is); (case ej29 => k_is); (case en28_at => k_is); (case en29_name => k_is); (case eu28_28 => k_is); (case eu28_29 => k_is); (case eu28_27 => k_is); (case eu29_28 => k_is); (case eu29_29 => k_is); (case eu29_27 => k_is); (case et29_KeyError => k_is); (case xa28 => k_is); (case xb28 => first | exact .tail | exact .own .tail | exact .own (.own .tail)); (case xc28 => k_is); (case xd28 => k_is); (case xe28 => k_is); (case xf28 => ks_is); (case xg28 => k_is); (case xh28 => k_is); (case xi28 => k_is); (case xj28 => k_is); (case xk28 => rfl); (case xl28 => first | rfl | decide +kernel); (case xm28 => k_is); (case xa29 => k_is); (case xb29 => first | exact .tail | exact .own .tail | exact .own (.own .tail)); (case xc29 => k_is); (case xd29 => k_is); (case xe29 => k_is); (case xf29 => ks_is); (case xg29 => k_is); (case xh29 => k_is); (case xi29 => k_is); (case xj29 => k_is); (case xk29 => rfl); (case xl29 => first | rfl | decide +kernel); (case xm29 => k_is); (case z0 => k_is); (case z1 => k_is); (case z2 => k_is); (case z3 => k_is); (case z4 => k_is); (case z5 => k_is); (case z6 => k_is); (case z7 => k_is); (case z8 => k_is); (case z9 => k_is); (case z10 => k_is); (case z11 => k_is); (case z12 => k_is); (case u0 => k_is); (case u1 => k_is); (case u2 => k_is); (case u3 => k_is); (case u4 => k_is); (case u5 => k_is); (case u6 => k_is); (case u7 => k_is); (case u8 => k_is); (case ka0 => k_is); (case kb0 => k_is); (case kc0 => kernel_rfl); (case kw0_0 => k_is); (case kw0_1 => k_is); (case kw0_2 => k_is); (case kw0_3 => k_is); (case kw0_4 => k_is); (case kw0_5 => k_is); (case kw0_6 => k_is); (case kw0_7 => k_is); (case kw0_8 => k_is); (case ke0 => exact .cons _ rfl rfl rfl (.cons _ rfl rfl rfl (.cons _ rfl rfl rfl (.cons _ rfl rfl rfl (.cons _ rfl rfl rfl (.cons _ rfl rfl rfl (.cons _ rfl rfl rfl (.cons _ rfl rfl rfl (.cons _ rfl rfl rfl (.nil)))))))))); (case ta0 => k_is); (case tb0 => rfl); (case tc0 => kernel_rfl); (case td0 => rfl); (case ta1 => k_is); (case tb1 => rfl); (case tc1 => kernel_rfl); (case td1 => rfl); (case tnd => decide)
