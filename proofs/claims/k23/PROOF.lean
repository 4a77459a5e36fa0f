import PyProof.Rows.All
import HandS.Conv
import HandS.Deep
import HandS.Dict
import HandS.DictComp
import HandS.EndTab
import HandS.ExcField
import HandS.ExcInit
import HandS.ExcIs
import HandS.ExcSuper
import HandS.ForExc
import HandS.ForMost
import HandS.HotCalls
import HandS.IsInst
import HandS.Lambda
import HandS.More
import HandS.Nested
import HandS.NoneIn
import HandS.Remove
import HandS.SetFor
import HandS.Sort
import HandS.SortInts
import HandS.SortRule
import HandS.Strs
import HandS.Style
import HandS.Text
import HandS.TryMany
import HandS.TupAny
import HandS.TupLe
import HandS.TupMul
import HandS.TupSets
import HandS.Wide
import HandS.Zip
import KE.DataCmp
import KE.DataMinMax
import KE.GoesMore
import KE.GoesZip
import KE.KDictKeyed
import KE.KDictPairs
import KE.KExcIs
import KE.KExcSuper
import KE.RegKSuper
import KE.SortData
import OpenK.AllK
import PyProof.EnumMake
import PyProof.MaxThree
import PyProof.StrOps2
import PyProof.WalkInts
import Wide.All
import Wide.FinOn
import PySem.Challenge.RW_spelledways_k23_lines_graphs_and_deeds
set_option Elab.async false
set_option linter.all false
set_option maxRecDepth 100000
section
set_option maxHeartbeats 2000000
namespace DM
open PySem PySem.Spec PyProof.Rows L2
/-! ### tuples made in this run, known as plain objects -/
abbrev plT (us : List Value) : Obj := { cls := .type "tuple", data := .seq us.toArray }
abbrev plH (us : List Value) (vs : List V) : HO := .frz (plT us) (.tup vs)
theorem plain_ok {P : Program} {w : World} {H : Hp} {h : Heap} {a : Addr} {us : List Value} {vs : List V} (e : h.get? a = some (plT us)) (r : Vals vs us) (z : vs.length ≤ sizeLine) : ObjOk P w H h a (plH us vs) :=
  ⟨e, z, us, r, ⟨_, e, rfl, _, rfl⟩⟩
section
variable {X : Cx} {es : List Expr} {t : TA} {pos : Pos}
def tTupP (t : TA) : TE := fun σ H Q => t σ H fun xs H1 => xs.length ≤ sizeLine ∧ ∀ p us, H1 p = none → Q (.ref p) (upd H1 p (plH us xs))
theorem pe_tupP {x1 : Nat} (h : PA X es t) : PE X (.Tuple es x1 pos) (tTupP t) := by
  refine ⟨fun pins s σ H Q I hq => ?_⟩
  refine wpAny_Tuple_spliced (thn (h.run pos pins s σ H _ I hq) fun us s1 ⟨xs, H1, I1, r, z, q⟩ => ⟨by rw [← r.length]; exact z, ?_⟩)
  exact ⟨.ref s1.heap.objs.size, upd H1 s1.heap.objs.size (plH us xs), I1.laid (t' := s1.toks) (fun b u e => Heap.get?_push_of_some _ e) (Nat.le_refl _) (plain_ok (Heap.get?_push_size _ rfl) r z), rfl, q _ us (I1.hok.fresh (Nat.le_refl _))⟩
theorem tuple_ofP : CallR X (.type "tuple") (fun xs H Q => ∃ p ys, xs = [.ref p] ∧ ((SqL X.K H p ys ∧ ∀ l us, H l = none → Q (.ref l) (upd H l (plH us ys))) ∨ (SqT X.K H p ys ∧ Q (.ref p) H))) := by
  intro pins s σ H xs us Q I r h
  obtain ⟨p, ys, rfl, h⟩ := h
  obtain ⟨u, rfl, rx⟩ := vals1 r
  cases rx
  rcases h with ⟨sq, q⟩ | ⟨sq, q⟩
  · obtain ⟨its, rv, pl, hz⟩ := I.list sq
    have hlen := rv.length
    refine call_tuple_list pl.isList (fun h' kp => ?_) (by simp only [List.size_toArray] <;> omega)
    have I1 : Inv X pins σ H { s with heap := h' } := I.kept (t' := s.toks) kp
    exact ⟨.ref h'.objs.size, _, I1.laid (o := plH its ys) (t' := s.toks) (fun b o e => Heap.get?_push_of_some _ e) (Nat.le_refl _) (plain_ok (Heap.get?_push_size _ rfl) rv hz), rfl, q _ its (I1.hok.fresh (Nat.le_refl _))⟩
  · obtain ⟨its, rv, pl, hz⟩ := I.tuple sq
    exact call_tuple_same pl ⟨.ref p, H, I, rfl, q⟩
/-- t + u -/
def rCatP (K : PySem.W.Frag) : R2 := fun x y H Q => ∃ a b xs ys, x = .ref a ∧ y = .ref b ∧ SqT K H a xs ∧ SqT K H b ys ∧ xs.length + ys.length ≤ sizeLine ∧
  (xs = [] → Q (.ref b) H) ∧ (xs ≠ [] → ys = [] → Q (.ref a) H) ∧ (xs ≠ [] → ys ≠ [] → ∀ p us, H p = none → Q (.ref p) (upd H p (plH us (xs ++ ys))))
theorem op_catP : OpR X (binaryOp .Add) (rCatP X.K) := by
  intro pins s σ H x y v u Q I rx ry h
  obtain ⟨a, b, xs, ys, rfl, rfl, ha, hb, hz, q0, q1, q2⟩ := h
  cases rx
  cases ry
  obtain ⟨its, r1, p1, _⟩ := I.tuple ha
  obtain ⟨its2, r2, p2, _⟩ := I.tuple hb
  by_cases hx : xs = []
  · subst hx
    cases r1
    exact cat_tup0 p1 p2 ⟨.ref b, H, I, rfl, q0 rfl⟩
  · refine HT.cat_tup p1 p2 (fun z => hx (r1.nil_iff.mp z)) (fun z => ⟨.ref a, H, I, rfl, q1 hx (r2.nil_iff.mp z)⟩) (fun z => ?_) (by rw [← r1.length, ← r2.length]; exact hz)
    exact ⟨.ref s.heap.objs.size, _, I.laid (o := plH (its ++ its2) (xs ++ ys)) (t' := s.toks) (fun b ob q => Heap.get?_push_of_some _ q) (Nat.le_refl _) (plain_ok (Heap.get?_push_size _ rfl) (r1.append r2) (by rw [List.length_append]; exact hz)), rfl,
      q2 hx (fun w => z (r2.nil_iff.mpr w)) _ _ (I.hok.fresh (Nat.le_refl _))⟩
/-- t[lo:hi] -/
def rSlP (K : PySem.W.Frag) : V → Option Int → Option Int → Hp → VK → Prop := fun x lo hi H Q => ∃ a xs, x = .ref a ∧ SqT K H a xs ∧
  (HT.sIx xs.length 0 lo = 0 ∧ HT.sIx xs.length xs.length hi = xs.length → Q (.ref a) H) ∧ (¬ (HT.sIx xs.length 0 lo = 0 ∧ HT.sIx xs.length xs.length hi = xs.length) → ∀ p us, H p = none → Q (.ref p) (upd H p (plH us (cutV xs lo hi))))
theorem sl_tupP : SlR X (rSlP X.K) := by
  intro pins s σ H x v vl vu lo hi sl Q I rx hs pl pu h
  obtain ⟨a, xs, rfl, hx, q1, q2⟩ := h
  cases rx
  obtain ⟨its, r, ht, hz⟩ := I.tuple hx
  have hlen : its.toArray.size = xs.length := by rw [List.size_toArray]; exact r.length.symm
  refine ⟨"tuple", _, PyProof.Rows.slot_tuple_getitem.lookup, ht.typeIs, ?_⟩
  by_cases hw : HT.sIx xs.length 0 lo = 0 ∧ HT.sIx xs.length xs.length hi = xs.length
  · exact getItem_tuple_whole ht hs pl pu (by rw [hlen]; exact hw) ⟨.ref a, H, I, rfl, q1 hw⟩
  · refine HT.getItem_tuple_cut ht hs pl pu (by rw [hlen]; exact hw) ?_ (by rw [hlen]; exact hz)
    rw [hlen]
    exact ⟨.ref s.heap.objs.size, _, I.laid (o := plH _ (cutV xs lo hi)) (t' := s.toks) (fun b ob q => Heap.get?_push_of_some _ q) (Nat.le_refl _)
      (plain_ok (Heap.get?_push_size _ rfl) ((r.drop (HT.sIx xs.length 0 lo)).take (HT.sIx xs.length xs.length hi - HT.sIx xs.length 0 lo)) (Nat.le_trans (cutV_length xs lo hi) hz)), rfl, q2 hw _ _ (I.hok.fresh (Nat.le_refl _))⟩
end
/-! ### dicts whose keys are tuples, perhaps of tuples -/
abbrev DtW := List (NestedKey × Addr × V)
def DtP (p : NestedKey × Addr × V) (q : NestedKey × Addr × Value) : Prop := p.1 = q.1 ∧ p.2.1 = q.2.1 ∧ RelV p.2.2 q.2.2
/-- the entries ws stand at a; what the keys' own objects are is told apart -/
def DtIs (P : Program) (w : World) (a : Addr) (ws : DtW) (h : Heap) : Prop :=
  ws.length ≤ sizeLine ∧ (a == sysModules) = false ∧ (∀ z ∈ ws, z.1.depth ≤ 8) ∧ ∃ xs : List (NestedKey × Addr × Value), Paired DtP ws xs ∧
    ∃ (o : Obj) (es : Array DictEntry) (ep : Nat), h.get? a = some o ∧ o.ExactDict ∧ o.data = .dict es ep ∧ es.toList = xs.map (entryOfKey (nestedKind P w)) ∧ (xs.map (·.1)).Nodup
def dtH (P : Program) (w : World) (a : Addr) (ws : DtW) : HO := .ext (DtIs P w a ws)
theorem dt_laid {P : Program} {w : World} {H : Hp} {h : Heap} {a : Addr} {ws : DtW} (x : DtIs P w a ws h) : ObjOk P w H h a (dtH P w a ws) := by
  refine ⟨x, ?_, fun h1 h2 y k => ?_⟩
  · obtain ⟨_, _, _, _, _, o, _, _, e, _⟩ := x
    exact ⟨o, e⟩
  · obtain ⟨z, l, f, xs, r, o, es, ep, e, q⟩ := y
    exact ⟨z, l, f, xs, r, o, es, ep, k o e, q⟩
end DM
end
section
set_option maxHeartbeats 2000000
namespace DM
open PySem PySem.Spec PyProof.Rows L2

/-- a lambda that captures nothing: its words; key: a number of its own, so that two of them are told apart -/
structure LF where
  key : Nat
  qual : Str
  params : Arguments
  body : Expr
  scope : Scope
abbrev LF.nf (F : LF) (c : Addr) : NdefX.NF := ⟨"<lambda>", F.qual, F.params, [], F.scope, [], c⟩
/-- the object at f is the lambda F, its code at c -/
def LamO (f c : Addr) (F : LF) : HO := .ext fun h => ∃ (pm ctv : Value), h.get? f = some (PySem.W.kla_obj "<lambda>" F.qual F.params F.body F.scope [] pm c ctv)
/-- data: tuples (and lists that nobody changes) by value, changing objects by number; exv: an exception in an except suite's hand; cl: an own class; fnv: a lambda, its code at c, made at the slots σ -/
inductive D where
  | non | bl (b : Bool) | int (i : Int) | str (x : Str) | ty (n : String) | abs (a : Addr) | cl (C : Str)
  | tup (xs : List D) | qtup (xs : List D) | lst (xs : List D) | ref (n : Nat) | exv (a : Addr) (d : Option Addr) (ns : List Str) (ds : List D) | fnv (f c : Addr) (q : Str) (σ : List (Option V)) (ρ : List (Option D)) | fno (F : LF)
mutual
/-- what a key is, up to == -/
def nkOf : D → Option NestedKey
  | .non => some .none
  | .bl b => some (.num (if b = true then 1 else 0))
  | .int i => some (.num i)
  | .str x => some (.text x)
  | .tup xs => (nkOfs xs).map .tup
  | .qtup xs => (nkOfs xs).map .tup
  | _ => none
def nkOfs : List D → Option (List NestedKey)
  | [] => some []
  | x :: xs => match nkOf x, nkOfs xs with
    | some k, some ks => some (k :: ks)
    | _, _ => none
end
/-- a changing object; tab: a code object's table -/
inductive AO where
  | lst (xs : List D) | dk (kvs : List (Key × D)) | dt (PW : Program × World) (kvs : List (D × D)) | ins (C : Str) (fs : List (Str × D)) | tab (P : Addr) (q : Str) | fk (od : Obj) (ws : List (Key × V)) (kvs : List (Key × D))
abbrev AH := List AO
/-- C: the class's name -/
inductive Res (α : Type) where
  | ok (a : α) (A : AH) | exc (C : Str) (fs : List (Str × D)) (A : AH) | no
def Res.bind {α β : Type} (r : Res α) (k : α → AH → Res β) : Res β := match r with
  | .ok a A => k a A
  | .exc C fs A => .exc C fs A
  | .no => .no
@[simp] theorem bind_ok {α β : Type} (a : α) (A : AH) (k : α → AH → Res β) : Res.bind (.ok a A) k = k a A := rfl
@[simp] theorem bind_exc {α β : Type} (C : Str) (fs : List (Str × D)) (A : AH) (k : α → AH → Res β) : Res.bind (.exc C fs A) k = .exc C fs A := rfl
@[simp] theorem bind_no {α β : Type} (k : α → AH → Res β) : Res.bind .no k = .no := rfl
abbrev Env := List (Option D)
abbrev ME := Env → AH → Res D
abbrev MT := Env → AH → Res Bool
abbrev MA := Env → AH → Res (List D)
inductive SRes where
  | nx (ρ : Env) (A : AH) | rt (d : D) (A : AH) | bk (ρ : Env) (A : AH) | ct (ρ : Env) (A : AH) | exc (C : Str) (fs : List (Str × D)) (ρ : Env) (A : AH) | no
abbrev MS := Env → AH → SRes

/-! ### what stands for what -/
/-- the class of a name -/
def clsV (K : PySem.W.Frag) (C : Str) : Option Value := (PySem.W.nsIn K mainGlobals C).join
/-- the numbered objects' addresses; those of lists that are being made -/
abbrev Mp := List Addr × List Addr
def Out (m : Mp) (a : Addr) : Prop := a ∉ m.1 ∧ a ∉ m.2
def SqT' (K : PySem.W.Frag) (m : Mp) (H : Hp) (a : Addr) (vs : List V) : Prop :=
  (∃ us, H a = some (plH us vs) ∧ Out m a) ∨ ∃ (o : Obj) (its : Array Value) (n : Nat), K.lookup a = some o ∧ o.cls = .type "tuple" ∧ o.dict = none ∧ o.data = .seq its n ∧ its.size ≤ sizeLine ∧ Vals vs its.toList
def SqL' (K : PySem.W.Frag) (m : Mp) (H : Hp) (a : Addr) (vs : List V) : Prop :=
  (Rd H a (.lst vs) ∧ Out m a) ∨ ∃ (o : Obj) (its : Array Value) (n : Nat), K.lookup a = some o ∧ o.cls = .type "list" ∧ o.dict = none ∧ o.data = .seq its n ∧ its.size ≤ sizeLine ∧ Vals vs its.toList
theorem SqT'.sq {K : PySem.W.Frag} {m : Mp} {H : Hp} {a : Addr} {vs : List V} (h : SqT' K m H a vs) : SqT K H a vs := h.elim (fun ⟨us, x, _⟩ => .inl (.inr ⟨_, x⟩)) fun ⟨o, its, n, a, b, _, c⟩ => .inr ⟨o, its, n, a, b, c⟩
theorem SqL'.sq {K : PySem.W.Frag} {m : Mp} {H : Hp} {a : Addr} {vs : List V} (h : SqL' K m H a vs) : SqL K H a vs := h.elim (fun x => .inl x.1) .inr
mutual
inductive RD (K : PySem.W.Frag) (m : Mp) (H : Hp) : D → V → Prop
  | non : RD K m H .non .non
  | bl (b : Bool) : RD K m H (.bl b) (.bl b)
  | int (i : Int) : RD K m H (.int i) (.int i)
  | str (x : Str) : RD K m H (.str x) (.str x)
  | ty (n : String) : RD K m H (.ty n) (.ty n)
  | abs (a : Addr) : RD K m H (.abs a) (.ref a)
  | cl {C : Str} {a : Addr} : clsV K C = some (.ref a) → RD K m H (.cl C) (.ref a)
  | tup {a : Addr} {vs : List V} {xs : List D} : SqT' K m H a vs → RDs K m H xs vs → RD K m H (.tup xs) (.ref a)
  | qtup {a : Addr} {vs : List V} {xs : List D} : Rd H a (.tup vs) → Out m a → RDs K m H xs vs → RD K m H (.qtup xs) (.ref a)
  | lst {a : Addr} {vs : List V} {xs : List D} : SqL' K m H a vs → RDs K m H xs vs → RD K m H (.lst xs) (.ref a)
  | ref {n : Nat} {a : Addr} : m.1[n]? = some a → RD K m H (.ref n) (.ref a)
  | exv0 (a : Addr) : RD K m H (.exv a none [] []) (.ref a)
  | exv1 {a dd : Addr} {gs : List (Str × V)} {ns : List Str} {ds : List D} : H dd = some (.xd gs) → Out m dd → ns = gs.map (·.1) → RDs K m H ds (gs.map (·.2)) → RD K m H (.exv a (some dd) ns ds) (.ref a)
  | fnv {f c : Addr} {q : Str} {σ : List (Option V)} {ρ : List (Option D)} : H c = some (LamX.CodeO c q) → Out m c → RDo K m H ρ σ → RD K m H (.fnv f c q σ ρ) (.ref f)
  | fno {f c : Addr} {F : LF} : H f = some (LamO f c F) → Out m f → H c = some (LamX.CodeO c F.qual) → Out m c → RD K m H (.fno F) (.ref f)
inductive RDo (K : PySem.W.Frag) (m : Mp) (H : Hp) : List (Option D) → List (Option V) → Prop
  | nil : RDo K m H [] []
  | none {ρ : List (Option D)} {x : Option V} {σ : List (Option V)} : RDo K m H ρ σ → RDo K m H (none :: ρ) (x :: σ)
  | some {d : D} {v : V} {ρ : List (Option D)} {σ : List (Option V)} : RD K m H d v → RDo K m H ρ σ → RDo K m H (some d :: ρ) (some v :: σ)
inductive RDs (K : PySem.W.Frag) (m : Mp) (H : Hp) : List D → List V → Prop
  | nil : RDs K m H [] []
  | cons {x : D} {xs : List D} {v : V} {vs : List V} : RD K m H x v → RDs K m H xs vs → RDs K m H (x :: xs) (v :: vs)
end
/-- carried over: the numbers stay, what is in nobody's hand stays -/
theorem sqT_move {K : PySem.W.Frag} {m m' : Mp} {H H' : Hp} (ho : ∀ a o, H a = some o → Out m a → H' a = some o ∧ Out m' a) {a : Addr} {vs : List V} (h : SqT' K m H a vs) : SqT' K m' H' a vs := by
  rcases h with ⟨us, r, hn⟩ | h
  · exact .inl ⟨us, (ho _ _ r hn).1, (ho _ _ r hn).2⟩
  · exact .inr h
theorem qt_move {m m' : Mp} {H H' : Hp} (ho : ∀ a o, H a = some o → Out m a → H' a = some o ∧ Out m' a) {a : Addr} {vs : List V} (r : Rd H a (.tup vs)) (hn : Out m a) : Rd H' a (.tup vs) ∧ Out m' a := by
  rcases r with r | ⟨o, r⟩
  · exact ⟨.inl (ho _ _ r hn).1, (ho _ _ r hn).2⟩
  · exact ⟨.inr ⟨o, (ho _ _ r hn).1⟩, (ho _ _ r hn).2⟩
theorem sqL_move {K : PySem.W.Frag} {m m' : Mp} {H H' : Hp} (ho : ∀ a o, H a = some o → Out m a → H' a = some o ∧ Out m' a) {a : Addr} {vs : List V} (h : SqL' K m H a vs) : SqL' K m' H' a vs := by
  rcases h with ⟨r, hn⟩ | h
  · refine .inl ?_
    rcases r with r | ⟨o, r⟩
    · exact ⟨.inl (ho _ _ r hn).1, (ho _ _ r hn).2⟩
    · exact ⟨.inr ⟨o, (ho _ _ r hn).1⟩, (ho _ _ r hn).2⟩
  · exact .inr h
/-! no number of n or more is named -/
mutual
def clo (n : Nat) : D → Prop
  | .ref i => i < n
  | .tup xs => clos n xs
  | .qtup xs => clos n xs
  | .lst xs => clos n xs
  | .exv _ _ _ ds => clos n ds
  | .fnv _ _ _ _ ρ => cloo n ρ
  | .fno _ => True
  | .non => True
  | .bl _ => True
  | .int _ => True
  | .str _ => True
  | .ty _ => True
  | .abs _ => True
  | .cl _ => True
def cloo (n : Nat) : List (Option D) → Prop
  | [] => True
  | none :: ρ => cloo n ρ
  | some d :: ρ => clo n d ∧ cloo n ρ
def clos (n : Nat) : List D → Prop
  | [] => True
  | d :: ds => clo n d ∧ clos n ds
end
mutual
theorem RD.moveN {K : PySem.W.Frag} {m m' : Mp} {H H' : Hp} {n : Nat} (hr : ∀ (i : Nat) (a : Addr), i < n → m.1[i]? = some a → m'.1[i]? = some a) (ho : ∀ a o, H a = some o → Out m a → H' a = some o ∧ Out m' a) : ∀ (d : D) (v : V), clo n d → RD K m H d v → RD K m' H' d v
  | .non, _, _, h => by cases h; exact .non
  | .bl b, _, _, h => by cases h; exact .bl b
  | .int i, _, _, h => by cases h; exact .int i
  | .str x, _, _, h => by cases h; exact .str x
  | .ty x, _, _, h => by cases h; exact .ty x
  | .abs x, _, _, h => by cases h; exact .abs x
  | .cl x, _, _, h => by cases h with | cl h => exact .cl h
  | .ref n, _, c, h => by cases h with | ref h => exact .ref (hr _ _ c h)
  | .tup xs, _, c, h => by cases h with | tup h r => exact .tup (sqT_move ho h) (RDs.moveN hr ho xs _ c r)
  | .qtup xs, _, c, h => by cases h with | qtup h n r => exact .qtup (qt_move ho h n).1 (qt_move ho h n).2 (RDs.moveN hr ho xs _ c r)
  | .lst xs, _, c, h => by cases h with | lst h r => exact .lst (sqL_move ho h) (RDs.moveN hr ho xs _ c r)
  | .exv a d ns ds, _, c, h => by
    cases h with
    | exv0 => exact .exv0 a
    | exv1 h1 h2 h3 r => exact .exv1 (ho _ _ h1 h2).1 (ho _ _ h1 h2).2 h3 (RDs.moveN hr ho ds _ c r)
  | .fnv f a q σ ρ, _, c, h => by cases h with | fnv h1 h2 r => exact .fnv (ho _ _ h1 h2).1 (ho _ _ h1 h2).2 (RDo.moveN hr ho ρ _ c r)
  | .fno F, _, c, h => by cases h with | fno h1 h2 h3 h4 => exact .fno (ho _ _ h1 h2).1 (ho _ _ h1 h2).2 (ho _ _ h3 h4).1 (ho _ _ h3 h4).2
theorem RDo.moveN {K : PySem.W.Frag} {m m' : Mp} {H H' : Hp} {n : Nat} (hr : ∀ (i : Nat) (a : Addr), i < n → m.1[i]? = some a → m'.1[i]? = some a) (ho : ∀ a o, H a = some o → Out m a → H' a = some o ∧ Out m' a) : ∀ (ρ : List (Option D)) (σ : List (Option V)), cloo n ρ → RDo K m H ρ σ → RDo K m' H' ρ σ
  | [], _, _, h => by cases h; exact .nil
  | none :: ρ, _, c, h => by cases h with | none h => exact .none (RDo.moveN hr ho ρ _ c h)
  | some d :: ρ, _, c, h => by cases h with | some h r => exact .some (RD.moveN hr ho d _ c.1 h) (RDo.moveN hr ho ρ _ c.2 r)
theorem RDs.moveN {K : PySem.W.Frag} {m m' : Mp} {H H' : Hp} {n : Nat} (hr : ∀ (i : Nat) (a : Addr), i < n → m.1[i]? = some a → m'.1[i]? = some a) (ho : ∀ a o, H a = some o → Out m a → H' a = some o ∧ Out m' a) : ∀ (ds : List D) (vs : List V), clos n ds → RDs K m H ds vs → RDs K m' H' ds vs
  | [], _, _, h => by cases h; exact .nil
  | d :: ds, _, c, h => by cases h with | cons h r => exact .cons (RD.moveN hr ho d _ c.1 h) (RDs.moveN hr ho ds _ c.2 r)
end
mutual
theorem RD.clo {K : PySem.W.Frag} {m : Mp} {H : Hp} : ∀ (d : D) (v : V), RD K m H d v → DM.clo m.1.length d
  | .non, _, _ => trivial
  | .bl b, _, _ => trivial
  | .int b, _, _ => trivial
  | .str b, _, _ => trivial
  | .ty b, _, _ => trivial
  | .abs b, _, _ => trivial
  | .cl b, _, _ => trivial
  | .ref n, _, h => by cases h with | ref h => exact (List.getElem?_eq_some_iff.mp h).1
  | .tup xs, _, h => by cases h with | tup s r => exact RDs.clos xs _ r
  | .qtup xs, _, h => by cases h with | qtup s n r => exact RDs.clos xs _ r
  | .lst xs, _, h => by cases h with | lst s r => exact RDs.clos xs _ r
  | .exv a d ns ds, _, h => by
    cases h with
    | exv0 => trivial
    | exv1 _ _ _ r => exact RDs.clos ds _ r
  | .fnv f a q σ ρ, _, h => by cases h with | fnv _ _ r => exact RDo.cloo ρ _ r
  | .fno _, _, _ => trivial
theorem RDo.cloo {K : PySem.W.Frag} {m : Mp} {H : Hp} : ∀ (ρ : List (Option D)) (σ : List (Option V)), RDo K m H ρ σ → DM.cloo m.1.length ρ
  | [], _, _ => trivial
  | none :: ρ, _, h => by cases h with | none h => exact RDo.cloo ρ _ h
  | some d :: ρ, _, h => by cases h with | some h r => exact ⟨RD.clo d _ h, RDo.cloo ρ _ r⟩
theorem RDs.clos {K : PySem.W.Frag} {m : Mp} {H : Hp} : ∀ (ds : List D) (vs : List V), RDs K m H ds vs → DM.clos m.1.length ds
  | [], _, _ => trivial
  | d :: ds, _, h => by cases h with | cons h r => exact ⟨RD.clo d _ h, RDs.clos ds _ r⟩
end
/-- as above, all numbers -/
theorem RD.move {K : PySem.W.Frag} {m m' : Mp} {H H' : Hp} (hr : ∀ (i : Nat) (a : Addr), m.1[i]? = some a → m'.1[i]? = some a) (ho : ∀ a o, H a = some o → Out m a → H' a = some o ∧ Out m' a) (d : D) (v : V) (h : RD K m H d v) : RD K m' H' d v :=
  RD.moveN (n := m.1.length) (fun i a _ => hr i a) ho d v (RD.clo d v h) h
theorem RDs.move {K : PySem.W.Frag} {m m' : Mp} {H H' : Hp} (hr : ∀ (i : Nat) (a : Addr), m.1[i]? = some a → m'.1[i]? = some a) (ho : ∀ a o, H a = some o → Out m a → H' a = some o ∧ Out m' a) (d : List D) (v : List V) (h : RDs K m H d v) : RDs K m' H' d v :=
  RDs.moveN (n := m.1.length) (fun i a _ => hr i a) ho d v (RDs.clos d v h) h
structure Ext (m : Mp) (H : Hp) (m' : Mp) (H' : Hp) : Prop where
  pre : ∃ l, m'.1 = m.1 ++ l
  sub : ∀ p ∈ m.2, p ∈ m'.2
  pvs : ∀ p ∈ m'.2, p ∈ m.2 ∨ p ∈ m.1 ∨ H p = none
  new : ∀ p ∈ m'.1, p ∈ m.1 ∨ H p = none
  keep : ∀ p o, H p = some o → p ∉ m.1 → H' p = some o
theorem Ext.refl (m : Mp) (H : Hp) : Ext m H m H := ⟨⟨[], (List.append_nil m.1).symm⟩, fun _ h => h, fun _ h => .inl h, fun _ h => .inl h, fun _ _ h _ => h⟩
theorem Ext.none {m m1 : Mp} {H H1 : Hp} (a : Ext m H m1 H1) {p : Addr} (hm : p ∉ m.1) (z : H1 p = none) : H p = none := by
  cases q : H p with
  | none => rfl
  | some o =>
    have := a.keep p o q hm
    rw [z] at this; cases this
theorem Ext.trans {m m1 m2 : Mp} {H H1 H2 : Hp} (a : Ext m H m1 H1) (b : Ext m1 H1 m2 H2) : Ext m H m2 H2 := by
  have out : ∀ p o, H p = some o → p ∉ m.1 → p ∉ m1.1 := fun p o h hn hm => by
    rcases a.new p hm with z | z
    · exact hn z
    · rw [z] at h; cases h
  refine ⟨?_, fun p h => b.sub p (a.sub p h), fun p hp => ?_, fun p hp => ?_, fun p o h hn => b.keep p o (a.keep p o h hn) (out p o h hn)⟩
  · obtain ⟨l, h1⟩ := a.pre
    obtain ⟨l2, h2⟩ := b.pre
    exact ⟨l ++ l2, by rw [h2, h1, List.append_assoc]⟩
  · by_cases hm : p ∈ m.1
    · exact .inr (.inl hm)
    · rcases b.pvs p hp with z | z | z
      · exact a.pvs p z
      · rcases a.new p z with y | y
        · exact .inr (.inl y)
        · exact .inr (.inr y)
      · exact .inr (.inr (a.none hm z))
  · by_cases hm : p ∈ m.1
    · exact .inl hm
    · rcases b.new p hp with z | z
      · exact a.new p z
      · exact .inr (a.none hm z)
theorem Ext.get {m m' : Mp} {H H' : Hp} (e : Ext m H m' H') {n : Nat} {a : Addr} (h : m.1[n]? = some a) : m'.1[n]? = some a := by
  obtain ⟨l, h0⟩ := e.pre
  obtain ⟨h1, h2⟩ := List.getElem?_eq_some_iff.mp h
  rw [h0, List.getElem?_append_left h1]; exact h
theorem Ext.out {m m' : Mp} {H H' : Hp} (e : Ext m H m' H') {a : Addr} {o : HO} (q : H a = some o) (hn : Out m a) : H' a = some o ∧ Out m' a := by
  refine ⟨e.keep a o q hn.1, fun hm => ?_, fun hm => ?_⟩
  · rcases e.new a hm with z | z
    · exact hn.1 z
    · rw [z] at q; cases q
  · rcases e.pvs a hm with z | z | z
    · exact hn.2 z
    · exact hn.1 z
    · rw [z] at q; cases q
theorem RD.mono {K : PySem.W.Frag} {m m' : Mp} {H H' : Hp} (e : Ext m H m' H') (d : D) (v : V) (h : RD K m H d v) : RD K m' H' d v := RD.move (fun _ _ => e.get) (fun _ _ => e.out) d v h
theorem RDs.mono {K : PySem.W.Frag} {m m' : Mp} {H H' : Hp} (e : Ext m H m' H') (d : List D) (v : List V) (h : RDs K m H d v) : RDs K m' H' d v := RDs.move (fun _ _ => e.get) (fun _ _ => e.out) d v h
theorem RDs.length {K : PySem.W.Frag} {m : Mp} {H : Hp} : ∀ {ds : List D} {vs : List V}, RDs K m H ds vs → ds.length = vs.length
  | [], _, h => by cases h; rfl
  | d :: ds, _, h => by cases h with | cons h r => rw [List.length_cons, List.length_cons, RDs.length r]
theorem RDs.get {K : PySem.W.Frag} {m : Mp} {H : Hp} : ∀ {ds : List D} {vs : List V} {i : Nat} {d : D}, RDs K m H ds vs → ds[i]? = some d → ∃ v, vs[i]? = some v ∧ RD K m H d v
  | [], _, _, _, _, e => by simp at e
  | d :: ds, _, 0, x, h, e => by cases h with | cons h r => (simp at e; subst e; exact ⟨_, rfl, h⟩)
  | d :: ds, _, i + 1, x, h, e => by
    cases h with
    | cons h r =>
      obtain ⟨v, h1, h2⟩ := RDs.get (i := i) (d := x) r (by simpa using e)
      exact ⟨v, by simpa using h1, h2⟩
theorem RDs.append {K : PySem.W.Frag} {m : Mp} {H : Hp} : ∀ {ds es : List D} {vs ws : List V}, RDs K m H ds vs → RDs K m H es ws → RDs K m H (ds ++ es) (vs ++ ws)
  | [], _, _, _, h, q => by cases h; exact q
  | d :: ds, _, _, _, h, q => by cases h with | cons h r => exact .cons h (RDs.append r q)
theorem RDs.take {K : PySem.W.Frag} {m : Mp} {H : Hp} : ∀ {ds : List D} {vs : List V} (n : Nat), RDs K m H ds vs → RDs K m H (ds.take n) (vs.take n)
  | _, _, 0, _ => by simp; exact .nil
  | [], _, n + 1, h => by cases h; exact .nil
  | d :: ds, _, n + 1, h => by cases h with | cons h r => exact .cons h (RDs.take n r)
theorem RDs.drop {K : PySem.W.Frag} {m : Mp} {H : Hp} : ∀ {ds : List D} {vs : List V} (n : Nat), RDs K m H ds vs → RDs K m H (ds.drop n) (vs.drop n)
  | _, _, 0, h => h
  | [], _, n + 1, h => by cases h; exact .nil
  | d :: ds, _, n + 1, h => by cases h with | cons h r => exact RDs.drop n r
theorem RDs.set {K : PySem.W.Frag} {m : Mp} {H : Hp} {d : D} {v : V} (q : RD K m H d v) : ∀ {ds : List D} {vs : List V} (n : Nat), RDs K m H ds vs → RDs K m H (ds.set n d) (vs.set n v)
  | [], _, n, h => by cases h; exact .nil
  | _ :: ds, _, 0, h => by cases h with | cons h r => exact .cons q r
  | _ :: ds, _, n + 1, h => by cases h with | cons h r => exact .cons h (RDs.set q n r)


def RFs (K : PySem.W.Frag) (m : Mp) (H : Hp) (fs : List (Str × D)) (gs : List (Str × V)) : Prop := fs.map (·.1) = gs.map (·.1) ∧ RDs K m H (fs.map (·.2)) (gs.map (·.2))
/-- the values of a changing object -/
def AO.vals : AO → List D
  | .lst xs => xs
  | .dk kvs => kvs.map (·.2)
  | .dt _ kvs => kvs.map (·.1) ++ kvs.map (·.2)
  | .ins _ fs => fs.map (·.2)
  | .tab _ _ => []
  | .fk _ _ kvs => kvs.map (·.2)
/-- the table at P: each code object that it tells bears the name q -/
def TabR (m : Mp) (H : Hp) (P : Addr) (q : Str) : Prop := ∃ ps : Array Value, H P = some (.tbl ps) ∧ TriplesOk ps.toList ∧ ∀ (pos : Pos) (cv : Value), codeAmong pos ps.toList = some cv → ∃ c, cv = .ref c ∧ H c = some (LamX.CodeO c q) ∧ Out m c
def ObjR (K : PySem.W.Frag) (m : Mp) (H : Hp) : AO → Addr → Prop
  | .lst xs, a => ∃ vs, H a = some (.lst vs) ∧ RDs K m H xs vs
  | .dk kvs, a => ∃ ws : List (Key × V), (H a = some (.dK ws) ∧ kvs.map (·.1) = ws.map (·.1)) ∧ RDs K m H (kvs.map (·.2)) (ws.map (·.2))
  | .dt PW kvs, a => ∃ ws : DtW, (H a = some (dtH PW.1 PW.2 a ws) ∧ kvs.map (fun p => nkOf p.1) = ws.map (fun z => some z.1)) ∧ RDs K m H (kvs.map (·.1) ++ kvs.map (·.2)) (ws.map (fun z => V.ref z.2.1) ++ ws.map (·.2.2))
  | .ins C fs, a => ∃ gs : List (Str × V), (∃ c dx, clsV K C = some (.ref c) ∧ H a = some (.ins c dx gs) ∧ H dx = some (.own a) ∧ Out m dx ∧ fs.map (·.1) = gs.map (·.1)) ∧ RDs K m H (fs.map (·.2)) (gs.map (·.2))
  | .tab P q, a => a = P ∧ TabR m H P q
  | .fk od ws kvs, a => (H a = some (.frz od (.dK ws)) ∧ kvs.map (·.1) = ws.map (·.1)) ∧ RDs K m H (kvs.map (·.2)) (ws.map (·.2))
/-- its shape is carried over where its object is the same, its values where they are -/
theorem ObjR.moveN {K : PySem.W.Frag} {m m' : Mp} {H H' : Hp} {n : Nat} (hr : ∀ (i : Nat) (a : Addr), i < n → m.1[i]? = some a → m'.1[i]? = some a) (ho : ∀ a o, H a = some o → Out m a → H' a = some o ∧ Out m' a) {o : AO} {q : Addr} (hq : H' q = H q) (c : clos n o.vals) (h : ObjR K m H o q) : ObjR K m' H' o q := by
  cases o with
  | lst xs => obtain ⟨vs, e1, r⟩ := h; exact ⟨vs, hq.trans e1, RDs.moveN hr ho _ _ c r⟩
  | dk kvs => obtain ⟨vs, ⟨e1, e2⟩, r⟩ := h; exact ⟨vs, ⟨hq.trans e1, e2⟩, RDs.moveN hr ho _ _ c r⟩
  | dt PW kvs => obtain ⟨vs, ⟨e1, e2⟩, r⟩ := h; exact ⟨vs, ⟨hq.trans e1, e2⟩, RDs.moveN hr ho _ _ c r⟩
  | ins C fs =>
    obtain ⟨gs, ⟨cc, dx, e0, e1, e2, e3, e4⟩, r⟩ := h
    exact ⟨gs, ⟨cc, dx, e0, hq.trans e1, (ho _ _ e2 e3).1, (ho _ _ e2 e3).2, e4⟩, RDs.moveN hr ho _ _ c r⟩
  | fk od ws kvs => obtain ⟨⟨e1, e2⟩, r⟩ := h; exact ⟨⟨hq.trans e1, e2⟩, RDs.moveN hr ho _ _ c r⟩
  | tab P q =>
    obtain ⟨rfl, ps, e1, e2, e3⟩ := h
    refine ⟨rfl, ps, hq.trans e1, e2, fun pos cv hc => ?_⟩
    obtain ⟨c', f1, f2, f3⟩ := e3 pos cv hc
    exact ⟨c', f1, (ho _ _ f2 f3).1, (ho _ _ f2 f3).2⟩
theorem ObjR.clos {K : PySem.W.Frag} {m : Mp} {H : Hp} {o : AO} {q : Addr} (h : ObjR K m H o q) : DM.clos m.1.length o.vals := by
  cases o with
  | lst xs => obtain ⟨vs, e1, r⟩ := h; exact RDs.clos _ _ r
  | dk kvs => obtain ⟨vs, e1, r⟩ := h; exact RDs.clos _ _ r
  | dt PW kvs => obtain ⟨vs, e1, r⟩ := h; exact RDs.clos _ _ r
  | ins C fs => obtain ⟨vs, e1, r⟩ := h; exact RDs.clos _ _ r
  | tab P q => trivial
  | fk od ws kvs => exact RDs.clos _ _ h.2
theorem ObjR.move {K : PySem.W.Frag} {m m' : Mp} {H H' : Hp} (hr : ∀ (i : Nat) (a : Addr), m.1[i]? = some a → m'.1[i]? = some a) (ho : ∀ a o, H a = some o → Out m a → H' a = some o ∧ Out m' a) {o : AO} {q : Addr} (hq : H' q = H q) (h : ObjR K m H o q) : ObjR K m' H' o q :=
  ObjR.moveN (n := m.1.length) (fun i a _ => hr i a) ho hq h.clos h
theorem ObjR.held {K : PySem.W.Frag} {m : Mp} {H : Hp} {o : AO} {q : Addr} (h : ObjR K m H o q) : H q ≠ none := by
  cases o with
  | lst xs => obtain ⟨vs, e, _⟩ := h; rw [e]; exact fun z => nomatch z
  | dk xs => obtain ⟨vs, ⟨e, _⟩, _⟩ := h; rw [e]; exact fun z => nomatch z
  | dt PW xs => obtain ⟨vs, ⟨e, _⟩, _⟩ := h; rw [e]; exact fun z => nomatch z
  | ins C fs => obtain ⟨gs, ⟨c, dx, _, e, _⟩, _⟩ := h; rw [e]; exact fun z => nomatch z
  | tab P q => obtain ⟨rfl, ps, e, _⟩ := h; rw [e]; exact fun z => nomatch z
  | fk od ws kvs => obtain ⟨⟨e, _⟩, _⟩ := h; rw [e]; exact fun z => nomatch z
structure Rel (K : PySem.W.Frag) (m : Mp) (A : AH) (H : Hp) : Prop where
  len : m.1.length = A.length
  nd : m.1.Nodup
  pv : ∀ p ∈ m.2, H p ≠ none
  obj : ∀ (n : Nat) (o : AO), A[n]? = some o → ∃ a, m.1[n]? = some a ∧ ObjR K m H o a
/-- slots -/
def REnv (K : PySem.W.Frag) (m : Mp) (H : Hp) (ρ : Env) (σ : L2.St) : Prop := ρ.length = σ.length ∧ ∀ (i : Nat) (d : D), ρ[i]? = some (some d) → ∃ v, σ[i]? = some (some v) ∧ RD K m H d v
theorem REnv.mono {K : PySem.W.Frag} {m m' : Mp} {H H' : Hp} {ρ : Env} {σ : L2.St} (e : Ext m H m' H') (h : REnv K m H ρ σ) : REnv K m' H' ρ σ :=
  ⟨h.1, fun i d q => let ⟨v, h1, h2⟩ := h.2 i d q; ⟨v, h1, RD.mono e _ _ h2⟩⟩
theorem REnv.set {K : PySem.W.Frag} {m : Mp} {H : Hp} {ρ : Env} {σ : L2.St} {d : D} {v : V} (h : REnv K m H ρ σ) (r : RD K m H d v) (i : Nat) : REnv K m H (ρ.set i (some d)) (σ.set i (some v)) := by
  refine ⟨by rw [List.length_set, List.length_set]; exact h.1, fun j e q => ?_⟩
  by_cases hj : i = j
  · subst hj
    by_cases hl : i < ρ.length
    · rw [List.getElem?_set_self hl] at q
      cases q
      exact ⟨v, List.getElem?_set_self (by rw [← h.1]; exact hl), r⟩
    · rw [List.getElem?_eq_none (by simpa using hl)] at q; cases q
  · rw [List.getElem?_set_ne hj] at q ⊢
    exact h.2 j e q
theorem REnv.unset {K : PySem.W.Frag} {m : Mp} {H : Hp} {ρ : Env} {σ : L2.St} (h : REnv K m H ρ σ) (i : Nat) (x : Option V) : REnv K m H (ρ.set i none) (σ.set i x) := by
  refine ⟨by rw [List.length_set, List.length_set]; exact h.1, fun j e q => ?_⟩
  by_cases hj : i = j
  · subst hj
    by_cases hl : i < ρ.length
    · rw [List.getElem?_set_self hl] at q; cases q
    · rw [List.getElem?_eq_none (by simpa using hl)] at q; cases q
  · rw [List.getElem?_set_ne hj] at q ⊢
    exact h.2 j e q

theorem REnv.toO {K : PySem.W.Frag} {m : Mp} {H : Hp} : ∀ {ρ : Env} {σ : L2.St}, REnv K m H ρ σ → RDo K m H ρ σ
  | [], [], _ => .nil
  | [], _ :: _, h => by have := h.1; simp at this
  | _ :: _, [], h => by have := h.1; simp at this
  | o :: ρ, x :: σ, h => by
    have hr : REnv K m H ρ σ := ⟨by have := h.1; simpa using this, fun i d e => by
      have := h.2 (i + 1) d (by simpa using e)
      simpa using this⟩
    cases o with
    | none => exact .none (REnv.toO hr)
    | some d =>
      obtain ⟨v, e, r⟩ := h.2 0 d (by simp)
      simp at e
      subst e
      exact .some r (REnv.toO hr)
theorem RDo.env {K : PySem.W.Frag} {m : Mp} {H : Hp} : ∀ {ρ : Env} {σ : L2.St}, RDo K m H ρ σ → REnv K m H ρ σ
  | [], _, h => by cases h; exact ⟨rfl, fun i d e => by simp at e⟩
  | Option.none :: ρ, _, h => by
    cases h with
    | none h =>
      have r := RDo.env h
      refine ⟨by simp [r.1], fun i d e => ?_⟩
      cases i with
      | zero => simp at e
      | succ i => simpa using r.2 i d (by simpa using e)
  | Option.some x :: ρ, _, h => by
    cases h with
    | some q h =>
      have r := RDo.env h
      refine ⟨by simp [r.1], fun i d e => ?_⟩
      cases i with
      | zero => simp at e; subst e; exact ⟨_, by simp, q⟩
      | succ i => simpa using r.2 i d (by simpa using e)

/-! ### what follows -/
/-- an exception's dict -/
def ExcAt (K : PySem.W.Frag) (m : Mp) (H : Hp) (fs : List (Str × D)) (d : Option Addr) : Prop := match d with
  | some dx => fs ≠ [] ∧ ∃ gs, H dx = some (.xd gs) ∧ Out m dx ∧ RFs K m H fs gs
  | none => fs = []
def Post {α β : Type} (K : PySem.W.Frag) (R : Mp → Hp → α → β → Prop) (W : WX) (σ : L2.St) (m : Mp) (H : Hp) (r : Res α) (Q : β → Hp → Prop) : Prop := match r with
  | .ok d A' => ∀ m' H' v, Ext m H m' H' → Rel K m' A' H' → R m' H' d v → Q v H'
  | .exc C fs A' => ∀ m' H' c dx, Ext m H m' H' → Rel K m' A' H' → clsV K C = some c → ExcAt K m' H' fs dx → W c dx σ H'
  | .no => False
def PostS (K : PySem.W.Frag) (W : WX) (m : Mp) (H : Hp) (r : SRes) (D : Ends) : Prop := match r with
  | .nx ρ A' => ∀ m' H' σ', Ext m H m' H' → Rel K m' A' H' → REnv K m' H' ρ σ' → D.nx σ' H'
  | .bk ρ A' => ∀ m' H' σ', Ext m H m' H' → Rel K m' A' H' → REnv K m' H' ρ σ' → D.bk σ' H'
  | .ct ρ A' => ∀ m' H' σ', Ext m H m' H' → Rel K m' A' H' → REnv K m' H' ρ σ' → D.ct σ' H'
  | .rt d A' => ∀ m' H' v, Ext m H m' H' → Rel K m' A' H' → RD K m' H' d v → D.rt v H'
  | .exc C fs ρ A' => ∀ m' H' c dx σ', Ext m H m' H' → Rel K m' A' H' → REnv K m' H' ρ σ' → clsV K C = some c → ExcAt K m' H' fs dx → W c dx σ' H'
  | .no => False
section
variable {K : PySem.W.Frag} {W : WX} {σ : L2.St} {m m' m1 : Mp} {H H' H1 : Hp} {α β γ δ : Type}
theorem Post.mono {R : Mp → Hp → α → β → Prop} {r : Res α} {Q : β → Hp → Prop} (e : Ext m H m1 H1) (h : Post K R W σ m H r Q) : Post K R W σ m1 H1 r Q := by
  cases r with
  | ok d A' => exact fun m' H' v e' => h m' H' v (e.trans e')
  | exc C fs A' => exact fun m' H' c dx e' => h m' H' c dx (e.trans e')
  | no => exact h
theorem PostS.mono {r : SRes} {D : Ends} (e : Ext m H m1 H1) (h : PostS K W m H r D) : PostS K W m1 H1 r D := by
  cases r with
  | nx ρ A' => exact fun m' H' v e' => h m' H' v (e.trans e')
  | bk ρ A' => exact fun m' H' v e' => h m' H' v (e.trans e')
  | ct ρ A' => exact fun m' H' v e' => h m' H' v (e.trans e')
  | rt d A' => exact fun m' H' v e' => h m' H' v (e.trans e')
  | exc C fs ρ A' => exact fun m' H' c dx σ' e' => h m' H' c dx σ' (e.trans e')
  | no => exact h
theorem Post.imp {R : Mp → Hp → α → β → Prop} {r : Res α} {Q Q' : β → Hp → Prop} (h : Post K R W σ m H r Q) (q : ∀ v H', Q v H' → Q' v H') : Post K R W σ m H r Q' := by
  cases r with
  | ok d A' => exact fun m' H' v e R' r' => q _ _ (h m' H' v e R' r')
  | exc C fs A' => exact h
  | no => exact h
theorem Post.bind {R : Mp → Hp → α → β → Prop} {R2 : Mp → Hp → γ → δ → Prop} {r : Res α} {k : α → AH → Res γ} {Q : δ → Hp → Prop} (h : Post K R2 W σ m H (r.bind k) Q) :
    Post K R W σ m H r fun v H1 => ∃ m1 A1 d, Ext m H m1 H1 ∧ Rel K m1 A1 H1 ∧ R m1 H1 d v ∧ Post K R2 W σ m1 H1 (k d A1) Q := by
  cases r with
  | ok d A' => exact fun m' H' v e R' r' => ⟨m', A', d, e, R', r', Post.mono e h⟩
  | exc C fs A' => exact h
  | no => exact h
end

/-! ### judgements -/
def tE (K : PySem.W.Frag) (W : WX) (me : ME) : TE := fun σ H Q => ∃ m A ρ, Rel K m A H ∧ REnv K m H ρ σ ∧ Post K (RD K) W σ m H (me ρ A) Q
def tT (K : PySem.W.Frag) (W : WX) (me : MT) : TT := fun σ H Q => ∃ m A ρ, Rel K m A H ∧ REnv K m H ρ σ ∧ Post K (fun _ _ a b => a = b) W σ m H (me ρ A) Q
def tA (K : PySem.W.Frag) (W : WX) (me : MA) : TA := fun σ H Q => ∃ m A ρ, Rel K m A H ∧ REnv K m H ρ σ ∧ Post K (RDs K) W σ m H (me ρ A) Q
def tS (K : PySem.W.Frag) (W : WX) (ms : MS) : TS := fun D σ H => ∃ m A ρ, Rel K m A H ∧ REnv K m H ρ σ ∧ PostS K W m H (ms ρ A) D
abbrev DE (X : Cx) (W : WX) (e : Expr) (me : ME) : Prop := PE X e (tE X.K W me)
abbrev DT (X : Cx) (W : WX) (e : Expr) (me : MT) : Prop := PT X e (tT X.K W me)
abbrev DW (X : Cx) (W : WX) (e : Expr) (me : MT) : Prop := PW X e (tT X.K W me)
abbrev DA (X : Cx) (W : WX) (es : List Expr) (me : MA) : Prop := PA X es (tA X.K W me)
abbrev DS (X : Cx) (W : WX) (st : Stmt) (ms : MS) : Prop := PS X st (tS X.K W ms)
abbrev DSs (X : Cx) (W : WX) (st : List Stmt) (ms : MS) : Prop := PSs X st (tS X.K W ms)
theorem PEi {X : Cx} {e : Expr} {t t' : TE} (h : PE X e t) (q : ∀ σ H Q, t' σ H Q → t σ H Q) : PE X e t' := ⟨fun pins s σ H Q I w => h.run pins s σ H Q I (q σ H Q w)⟩
theorem PTi {X : Cx} {e : Expr} {t t' : TT} (h : PT X e t) (q : ∀ σ H Q, t' σ H Q → t σ H Q) : PT X e t' := ⟨fun pins s σ H Q I w => h.run pins s σ H Q I (q σ H Q w)⟩
theorem PWi {X : Cx} {e : Expr} {t t' : TT} (h : PW X e t) (q : ∀ σ H Q, t' σ H Q → t σ H Q) : PW X e t' := ⟨fun wh pins s σ H Q I w => h.run wh pins s σ H Q I (q σ H Q w)⟩
theorem PAi {X : Cx} {e : List Expr} {t t' : TA} (h : PA X e t) (q : ∀ σ H Q, t' σ H Q → t σ H Q) : PA X e t' := ⟨fun pos pins s σ H Q I w => h.run pos pins s σ H Q I (q σ H Q w)⟩
theorem PSi {X : Cx} {e : Stmt} {t t' : TS} (h : PS X e t) (q : ∀ D σ H, t' D σ H → t D σ H) : PS X e t' := ⟨fun pins s σ H D I w => h.run pins s σ H D I (q D σ H w)⟩
theorem PSsi {X : Cx} {e : List Stmt} {t t' : TS} (h : PSs X e t) (q : ∀ D σ H, t' D σ H → t D σ H) : PSs X e t' := ⟨fun pins s σ H D I w => h.run pins s σ H D I (q D σ H w)⟩

section
variable {K : PySem.W.Frag} {W : WX} {σ : L2.St} {m : Mp} {A : AH} {ρ : Env} {H : Hp} {α β γ : Type}
/-- first an expression, then k -/
theorem tE.bind {R2 : Mp → Hp → γ → β → Prop} {me : ME} {k : D → AH → Res γ} {Q : β → Hp → Prop} {T : V → Hp → Prop} (R : Rel K m A H) (E : REnv K m H ρ σ) (h : Post K R2 W σ m H ((me ρ A).bind k) Q)
    (q : ∀ m1 A1 d v H1, Ext m H m1 H1 → Rel K m1 A1 H1 → REnv K m1 H1 ρ σ → RD K m1 H1 d v → Post K R2 W σ m1 H1 (k d A1) Q → T v H1) : tE K W me σ H T :=
  ⟨m, A, ρ, R, E, Post.imp (Post.bind h) fun v H1 ⟨m1, A1, d, e, R1, r, p⟩ => q m1 A1 d v H1 e R1 (E.mono e) r p⟩
theorem tT.bind {R2 : Mp → Hp → γ → β → Prop} {me : MT} {k : Bool → AH → Res γ} {Q : β → Hp → Prop} {T : Bool → Hp → Prop} (R : Rel K m A H) (E : REnv K m H ρ σ) (h : Post K R2 W σ m H ((me ρ A).bind k) Q)
    (q : ∀ m1 A1 b H1, Ext m H m1 H1 → Rel K m1 A1 H1 → REnv K m1 H1 ρ σ → Post K R2 W σ m1 H1 (k b A1) Q → T b H1) : tT K W me σ H T :=
  ⟨m, A, ρ, R, E, Post.imp (Post.bind (R := fun _ _ a b => a = b) h) fun v H1 ⟨m1, A1, d, e, R1, r, p⟩ => by subst r; exact q m1 A1 _ H1 e R1 (E.mono e) p⟩
theorem tA.bind {R2 : Mp → Hp → γ → β → Prop} {me : MA} {k : List D → AH → Res γ} {Q : β → Hp → Prop} {T : List V → Hp → Prop} (R : Rel K m A H) (E : REnv K m H ρ σ) (h : Post K R2 W σ m H ((me ρ A).bind k) Q)
    (q : ∀ m1 A1 ds vs H1, Ext m H m1 H1 → Rel K m1 A1 H1 → REnv K m1 H1 ρ σ → RDs K m1 H1 ds vs → Post K R2 W σ m1 H1 (k ds A1) Q → T vs H1) : tA K W me σ H T :=
  ⟨m, A, ρ, R, E, Post.imp (Post.bind h) fun v H1 ⟨m1, A1, d, e, R1, r, p⟩ => q m1 A1 d v H1 e R1 (E.mono e) r p⟩
/-- the end: a value, nothing changed -/
theorem Post.here {R : Mp → Hp → α → β → Prop} {d : α} {v : β} {Q : β → Hp → Prop} (R1 : Rel K m A H) (r : R m H d v) (h : Post K R W σ m H (.ok d A) Q) : Q v H := h m H v (Ext.refl m H) R1 r
end
end DM
end
section
set_option maxHeartbeats 2000000
namespace DM
open PySem PySem.Spec PyProof.Rows L2
section
variable {X : Cx} {W : WX} {a b c e : Expr} {es : List Expr} {ma mb mc me : ME} {pos p : Pos}
/-! ### names, constants -/
def mVar (i : Nat) : ME := fun ρ A => match ρ[i]? with | some (some d) => .ok d A | _ => .no
def mK (d : D) : ME := fun _ A => .ok d A
theorem d_var (i : Nat) {x : Str} (hN : X.N[i]? = some x := by rfl) (hv : Vis X.env.scope x := by first | exact Or.inl rfl | exact Or.inr (Or.inl rfl) | exact Or.inr (Or.inr rfl)) (hd : (x == ("__debug__" : Str)) = false := by decide)
    (hcd : (x == ("__classdict__" : Str)) = false := by decide) : DE X W (.Name x pos) (mVar i) := PEi (pe_var hN hv hd hcd) fun σ H Q ⟨m, A, ρ, R, E, h⟩ => by
  unfold mVar at h
  split at h
  · rename_i d hd
    obtain ⟨v, h1, h2⟩ := E.2 i d hd
    exact ⟨v, h1, Post.here R h2 h⟩
  · exact h.elim
theorem d_int {i : Int} {j : Nat} : DE X W (.Constant (.int i) j pos) (mK (.int i)) := PEi pe_int fun σ H Q ⟨m, A, ρ, R, E, h⟩ => Post.here R (.int i) h
theorem d_bl {i : Bool} {j : Nat} : DE X W (.Constant (.bool i) j pos) (mK (.bl i)) := PEi pe_bl fun σ H Q ⟨m, A, ρ, R, E, h⟩ => Post.here R (.bl i) h
theorem d_non {j : Nat} : DE X W (.Constant .none j pos) (mK .non) := PEi pe_non fun σ H Q ⟨m, A, ρ, R, E, h⟩ => Post.here R .non h
theorem d_str {i : Str} {j : Nat} : DE X W (.Constant (.str i) j pos) (mK (.str i)) := PEi pe_str fun σ H Q ⟨m, A, ρ, R, E, h⟩ => Post.here R (.str i) h
/-- a module's number, text .. -/
theorem d_glob {x : Str} {d : D} {v : V} {u : Value} (hg : Gl X x) (hm : X.mg x = some u) (r : RelV v u) (q : ∀ m H, RD X.K m H d v) (hd : (x == ("__debug__" : Str)) = false := by decide) : DE X W (.Name x pos) (mK d) :=
  PEi (pe_glob hg hm r hd) fun σ H Q ⟨m, A, ρ, R, E, h⟩ => Post.here R (q m H) h

theorem d_gint {x : Str} {i : Int} {t : Tok} (hm : X.mg x = some (.int i t)) (hg : Gl X x := by rfl) (hd : (x == ("__debug__" : Str)) = false := by decide) : DE X W (.Name x pos) (mK (.int i)) := d_glob hg hm (v := .int i) ⟨t, rfl⟩ (fun _ _ => .int i) hd
/-! ### two-place operations -/
def OpD (K : PySem.W.Frag) (f : D → D → AH → Res D) (r : R2) : Prop :=
  ∀ (W : WX) (σ : L2.St) (m : Mp) (A : AH) (H : Hp) (x y : V) (d e : D) (Q : VK), Rel K m A H → RD K m H d x → RD K m H e y → Post K (RD K) W σ m H (f d e A) Q → r x y H Q
def mOp (f : D → D → AH → Res D) (ma mb : ME) : ME := fun ρ A => (ma ρ A).bind fun x A1 => (mb ρ A1).bind fun y A2 => f x y A2
theorem tOpD {K : PySem.W.Frag} {f : D → D → AH → Res D} {r : R2} (hf : OpD K f r) {σ : L2.St} {H : Hp} {Q : VK} (h : tE K W (mOp f ma mb) σ H Q) : tOp r (tE K W ma) (tE K W mb) σ H Q := by
  obtain ⟨m, A, ρ, R, E, h⟩ := h
  exact tE.bind R E h fun m1 A1 d v H1 e1 R1 E1 r1 h1 => tE.bind R1 E1 h1 fun m2 A2 d2 v2 H2 e2 R2 E2 r2 h2 => hf W σ m2 A2 H2 v v2 d d2 Q R2 (RD.mono e2 _ _ r1) r2 h2
theorem d_op {op : Operator} {f : D → D → AH → Res D} {r : R2} (ho : OpR X (binaryOp op) r) (hf : OpD X.K f r) (ha : DE X W a ma) (hb : DE X W b mb) : DE X W (.BinOp a op b pos) (mOp f ma mb) :=
  PEi (pe_op ho ha hb) fun _ _ _ h => tOpD hf h
/-- ints in -/
def fI (C : Int → Int → Prop) [∀ i j, Decidable (C i j)] (g : Int → Int → D) : D → D → AH → Res D := fun d e A => match d, e with
  | .int i, .int j => if C i j then .ok (g i j) A else .no
  | _, _ => .no
theorem fI_ok {K : PySem.W.Frag} {C C' : Int → Int → Prop} [∀ i j, Decidable (C i j)] {g : Int → Int → D} {g' : Int → Int → V} (hC : ∀ i j, C i j → C' i j) (hg : ∀ m H i j, RD K m H (g i j) (g' i j)) : OpD K (fI C g) (rI C' g') := by
  intro W σ m A H x y d e Q R hx hy h
  unfold fI at h
  split at h
  · rename_i i j
    cases hx; cases hy
    split at h
    · rename_i hc
      exact ⟨i, j, rfl, rfl, hC i j hc, Post.here R (hg m H i j) h⟩
    · exact h.elim
  · exact h.elim
def fI0 (g : Int → Int → D) : D → D → AH → Res D := fun d e A => match d, e with
  | .int i, .int j => .ok (g i j) A
  | _, _ => .no
theorem fI0_ok {K : PySem.W.Frag} {g : Int → Int → D} {g' : Int → Int → V} (hg : ∀ m H i j, RD K m H (g i j) (g' i j)) : OpD K (fI0 g) (rI0 g') := by
  intro W σ m A H x y d e Q R hx hy h
  unfold fI0 at h
  split at h
  · rename_i i j
    cases hx; cases hy
    exact ⟨i, j, rfl, rfl, Post.here R (hg m H i j) h⟩
  · exact h.elim
instance (i j : Int) : Decidable (CMul i j) := by unfold CMul; infer_instance
instance (i j : Int) : Decidable (CPow i j) := by unfold CPow; infer_instance
instance (i j : Int) : Decidable (CDiv i j) := by unfold CDiv; infer_instance
instance (i j : Int) : Decidable (CDivW i j) := by unfold CDivW; infer_instance
theorem cdw_big {i j : Int} (h0 : 0 < j) (h1 : j < 1180591620717411303424) : CDivW i j := wide_div (b := 70) h0 (by omega) (by decide) (by decide)
def fSub : D → D → AH → Res D := fI0 fun i j => .int (i - j)
def fDiv : D → D → AH → Res D := fI CDivW fun i j => .int (i / j)
def fMod : D → D → AH → Res D := fI (fun _ j => 0 < j) fun i j => .int (i % j)
def fPow : D → D → AH → Res D := fI CPow fun i j => .int (i ^ j.toNat)
theorem d_sub (ha : DE X W a ma) (hb : DE X W b mb) : DE X W (.BinOp a .Sub b pos) (mOp fSub ma mb) := d_op op_sub (fI0_ok fun _ _ _ _ => .int _) ha hb
theorem d_div (ha : DE X W a ma) (hb : DE X W b mb) : DE X W (.BinOp a .FloorDiv b pos) (mOp fDiv ma mb) := d_op op_fdivW (fI_ok (fun _ _ h => h) fun _ _ _ _ => .int _) ha hb
theorem d_mod (ha : DE X W a ma) (hb : DE X W b mb) : DE X W (.BinOp a .Mod b pos) (mOp fMod ma mb) := d_op op_mod (fI_ok (fun _ _ h => h) fun _ _ _ _ => .int _) ha hb
theorem d_pow (ha : DE X W a ma) (hb : DE X W b mb) : DE X W (.BinOp a .Pow b pos) (mOp fPow ma mb) := d_op op_pow (fI_ok (fun _ _ h => h) fun _ _ _ _ => .int _) ha hb
/-! ### a new object that is a value -/
theorem Rel.there {K : PySem.W.Frag} {m : Mp} {A : AH} {H : Hp} (R : Rel K m A H) {q : Addr} (hq : q ∈ m.1) : ∃ (n : Nat) (o : AO), m.1[n]? = some q ∧ A[n]? = some o ∧ ObjR K m H o q := by
  obtain ⟨n, hn, e⟩ := List.mem_iff_getElem.mp hq
  have hA : A[n]? = some (A[n]'(by rw [← R.len]; exact hn)) := List.getElem?_eq_getElem _
  obtain ⟨a, h1, h2⟩ := R.obj n _ hA
  have h0 : m.1[n]? = some q := by rw [List.getElem?_eq_getElem hn, e]
  rw [h0] at h1; cases h1
  exact ⟨n, _, h0, hA, h2⟩
theorem ObjR.keep {K : PySem.W.Frag} {m m' : Mp} {H H' : Hp} (e : Ext m H m' H') {o : AO} {q : Addr} (hq : H' q = H q) (h : ObjR K m H o q) : ObjR K m' H' o q := ObjR.move (fun _ _ => e.get) (fun _ _ => e.out) hq h
theorem Rel.out {K : PySem.W.Frag} {m : Mp} {A : AH} {H : Hp} (R : Rel K m A H) {q : Addr} (h : H q = none) : Out m q := ⟨fun hq => by
  obtain ⟨n, o, _, _, r⟩ := R.there hq
  exact r.held h, fun hq => R.pv q hq h⟩
theorem held_keep {H H' : Hp} (k : ∀ p o, H p = some o → H' p = some o) {q : Addr} (h : H q ≠ none) : H' q ≠ none := by
  cases z : H q with
  | none => exact absurd z h
  | some u => rw [k q u z]; exact fun y => nomatch y
/-- the numbered objects as they were, something else new -/
theorem Rel.beside {K : PySem.W.Frag} {m : Mp} {A : AH} {H H' : Hp} (R : Rel K m A H) (k : ∀ p o, H p = some o → H' p = some o) : Rel K m A H' ∧ Ext m H m H' := by
  have e : Ext m H m H' := ⟨⟨[], (List.append_nil m.1).symm⟩, fun _ h => h, fun _ h => .inl h, fun _ h => .inl h, fun p o h _ => k p o h⟩
  refine ⟨⟨R.len, R.nd, fun p hp => held_keep k (R.pv p hp), fun n o hn => ?_⟩, e⟩
  obtain ⟨q, h1, h2⟩ := R.obj n o hn
  refine ⟨q, h1, h2.keep e ?_⟩
  cases z : H q with
  | none => exact absurd z h2.held
  | some u => exact k q u z
theorem Rel.new {K : PySem.W.Frag} {m : Mp} {A : AH} {H : Hp} (R : Rel K m A H) {q : Addr} (h : H q = none) (o : HO) : Rel K m A (upd H q o) ∧ Ext m H m (upd H q o) :=
  R.beside fun p u z => by rw [upd_ne (ne_of_none z h)]; exact z
/-- one of them changed -/
theorem Rel.write {K : PySem.W.Frag} {m : Mp} {A : AH} {H H' : Hp} (R : Rel K m A H) {n : Nat} {q : Addr} {o : AO} (hn : m.1[n]? = some q) (k : ∀ p u, p ≠ q → H p = some u → H' p = some u) (ho : Ext m H m H' → ObjR K m H' o q) : Rel K m (A.set n o) H' ∧ Ext m H m H' := by
  have hm : q ∈ m.1 := List.mem_of_getElem? hn
  have e : Ext m H m H' := ⟨⟨[], (List.append_nil m.1).symm⟩, fun _ h => h, fun _ h => .inl h, fun _ h => .inl h, fun p u h hp => k p u (fun z => hp (by rw [z]; exact hm)) h⟩
  refine ⟨⟨by rw [List.length_set]; exact R.len, R.nd, fun p hp z => ?_, fun j u hj => ?_⟩, e⟩
  · by_cases hpq : p = q
    · subst hpq
      exact (ho e).held z
    · cases y : H p with
      | none => exact R.pv p hp y
      | some u => rw [k p u hpq y] at z; cases z
  · by_cases hjn : n = j
    · subst hjn
      have hl : n < A.length := by rw [← R.len]; exact (List.getElem?_eq_some_iff.mp hn).1
      rw [List.getElem?_set_self hl] at hj; cases hj
      exact ⟨q, hn, ho e⟩
    · rw [List.getElem?_set_ne hjn] at hj
      obtain ⟨p, h1, h2⟩ := R.obj j u hj
      refine ⟨p, h1, h2.keep e ?_⟩
      have hpq : p ≠ q := fun z => by
        subst z
        obtain ⟨l1, e1⟩ := List.getElem?_eq_some_iff.mp h1
        obtain ⟨l2, e2⟩ := List.getElem?_eq_some_iff.mp hn
        exact hjn ((List.getElem_inj R.nd).mp (e2.trans e1.symm))
      cases z : H p with
      | none => exact absurd z h2.held
      | some w => exact k p w hpq z
/-- a new one -/
theorem Rel.push {K : PySem.W.Frag} {m : Mp} {A : AH} {H H' : Hp} (R : Rel K m A H) {q : Addr} {o : AO} (h : H q = none) (k : ∀ p u, H p = some u → H' p = some u) (ho : Ext m H (m.1 ++ [q], m.2) H' → ObjR K (m.1 ++ [q], m.2) H' o q) : Rel K (m.1 ++ [q], m.2) (A ++ [o]) H' ∧ Ext m H (m.1 ++ [q], m.2) H' := by
  have e : Ext m H (m.1 ++ [q], m.2) H' := ⟨⟨[q], rfl⟩, fun _ h => h, fun _ h => .inl h, fun p hp => (List.mem_append.mp hp).elim .inl fun z => .inr (by rw [List.mem_singleton.mp z]; exact h), fun p u z _ => k p u z⟩
  refine ⟨⟨by rw [List.length_append, List.length_append, R.len]; rfl, List.nodup_append.mpr ⟨R.nd, by simp, fun x hx y hy z => (R.out h).1 (by rw [← List.mem_singleton.mp hy, ← z]; exact hx)⟩, fun p hp => held_keep k (R.pv p hp), fun n u hn => ?_⟩, e⟩
  by_cases hl : n < A.length
  · rw [List.getElem?_append_left hl] at hn
    obtain ⟨p, h1, h2⟩ := R.obj n u hn
    refine ⟨p, e.get h1, h2.keep e ?_⟩
    cases z : H p with
    | none => exact absurd z h2.held
    | some w => exact k p w z
  · rw [List.getElem?_append_right (by omega)] at hn
    have h0 : n - A.length = 0 := by
      have := (List.getElem?_eq_some_iff.mp hn).1
      simp at this; omega
    rw [h0] at hn
    cases hn
    refine ⟨q, ?_, ho e⟩
    show (m.1 ++ [q])[n]? = some q
    rw [List.getElem?_append_right (by rw [R.len]; omega), R.len, h0]; rfl
theorem tup_new {K : PySem.W.Frag} {m : Mp} {A : AH} {H : Hp} {σ : L2.St} {ds : List D} {vs : List V} {Q : VK} (R : Rel K m A H) (r : RDs K m H ds vs) (h : Post K (RD K) W σ m H (.ok (.tup ds) A) Q) : ∀ p us, H p = none → Q (.ref p) (upd H p (plH us vs)) := fun p us hp =>
  let ⟨R1, e1⟩ := R.new hp (plH us vs)
  h m _ _ e1 R1 (.tup (.inl ⟨us, upd_same, R.out hp⟩) (RDs.mono e1 _ _ r))
theorem lst_new {K : PySem.W.Frag} {m : Mp} {A : AH} {H : Hp} {σ : L2.St} {ds : List D} {vs : List V} {Q : VK} (R : Rel K m A H) (r : RDs K m H ds vs) (h : Post K (RD K) W σ m H (.ok (.lst ds) A) Q) : ∀ p, H p = none → Q (.ref p) (upd H p (.lst vs)) := fun p hp =>
  let ⟨R1, e1⟩ := R.new hp (.lst vs)
  h m _ _ e1 R1 (.lst (.inl ⟨.inl upd_same, R.out hp⟩) (RDs.mono e1 _ _ r))
theorem ref_new {K : PySem.W.Frag} {m : Mp} {A : AH} {H : Hp} {σ : L2.St} {ds : List D} {vs : List V} {Q : VK} (R : Rel K m A H) (r : RDs K m H ds vs) (h : Post K (RD K) W σ m H (.ok (.ref A.length) (A ++ [.lst ds])) Q) : ∀ p, H p = none → Q (.ref p) (upd H p (.lst vs)) := fun p hp =>
  let ⟨R1, e1⟩ := R.push (H' := upd H p (.lst vs)) (o := .lst ds) hp (fun q u z => by rw [upd_ne (ne_of_none z hp)]; exact z) fun e => ⟨vs, upd_same, RDs.mono e _ _ r⟩
  h _ _ _ e1 R1 (.ref (by rw [← R.len]; simp))
/-! ### a + b -/
def fAdd : D → D → AH → Res D := fun d e A => match d, e with
  | .int i, .int j => .ok (.int (i + j)) A
  | .str x, .str y => if x.length + y.length ≤ 16777216 then .ok (.str (x ++ y)) A else .no
  | .tup xs, .tup ys => if xs.length + ys.length ≤ 16777216 then .ok (.tup (xs ++ ys)) A else .no
  | .lst xs, .lst ys => if xs.length + ys.length ≤ 16777216 then .ok (.lst (xs ++ ys)) A else .no
  | _, _ => .no
def rCatL (K : PySem.W.Frag) : R2 := fun x y H Q => ∃ l b xs zs, x = .ref l ∧ y = .ref b ∧ SqL K H l xs ∧ SqL K H b zs ∧ xs.length + zs.length ≤ sizeLine ∧ ∀ p, H p = none → Q (.ref p) (upd H p (.lst (xs ++ zs)))
theorem fAdd_ok {K : PySem.W.Frag} : OpD K fAdd (fun x y H Q => rI0 (fun i j => .int (i + j)) x y H Q ∨ (∃ i j, x = .str i ∧ y = .str j ∧ i.length + j.length ≤ sizeLine ∧ Q (.str (i ++ j)) H) ∨ rCatP K x y H Q ∨ rCatL K x y H Q) := by
  intro W σ m A H x y d e Q R hx hy h
  have sz : (sizeLine : Nat) = 16777216 := sizeLine_eq
  unfold fAdd at h
  split at h
  · rename_i i j
    cases hx; cases hy
    exact .inl ⟨i, j, rfl, rfl, Post.here R (.int _) h⟩
  · rename_i i j
    cases hx; cases hy
    split at h
    · rename_i hz
      exact .inr (.inl ⟨i, j, rfl, rfl, by rw [sz]; exact hz, Post.here R (.str _) h⟩)
    · exact h.elim
  · rename_i xs ys
    cases hx with
    | tup sx rx =>
      cases hy with
      | tup sy ry =>
        rename_i a vs b ws
        split at h
        · rename_i hz
          refine .inr (.inr (.inl ⟨a, b, vs, ws, rfl, rfl, sx.sq, sy.sq, by rw [sz, ← rx.length, ← ry.length]; exact hz, fun e0 => ?_, fun _ e0 => ?_, fun _ _ => tup_new R (rx.append ry) h⟩))
          · subst e0
            cases rx
            exact Post.here R (.tup sy ry) h
          · subst e0
            cases ry
            rw [List.append_nil] at h
            exact Post.here R (.tup sx rx) h
        · exact h.elim
  · rename_i xs ys
    cases hx with
    | lst sx rx =>
      cases hy with
      | lst sy ry =>
        rename_i a vs b ws
        split at h
        · rename_i hz
          exact .inr (.inr (.inr ⟨a, b, vs, ws, rfl, rfl, sx.sq, sy.sq, by rw [sz, ← rx.length, ← ry.length]; exact hz, lst_new R (rx.append ry) h⟩))
        · exact h.elim
  · exact h.elim
/-- two lists that are read, joined -/
theorem op_catL : OpR X (binaryOp .Add) (rCatL X.K) := by
  intro pins s σ H x y v u Q I rx ry h
  obtain ⟨l, b, xs, zs, rfl, rfl, hx, hz, hl, q⟩ := h
  cases rx; cases ry
  obtain ⟨i1, r1, ⟨o1, n1, g1, c1, d1, t1⟩, l1⟩ := I.list hx
  obtain ⟨i2, r2, ⟨o2, n2, g2, c2, d2, t2⟩, l2⟩ := I.list hz
  obtain ⟨oc1, od1, ot1, os1⟩ := o1
  obtain ⟨oc2, od2, ot2, os2⟩ := o2
  simp only at c1 d1 t1 c2 d2 t2
  subst c1 d1 t1 c2 d2 t2
  have e1 := r1.length
  have e2 := r2.length
  refine concat_meets ⟨_, g1, rfl⟩ ⟨_, g2, rfl⟩ noFill_list_add seq_list_add PySem.F.slot_list_add PySem.F.entry_list_add (PySem.F.args_list_add_2 _ _)
    (list_addW l b i1.toArray i2.toArray n1 n2 none none os1 os2 (by rw [List.size_toArray, List.size_toArray]; omega)) ⟨g1, g2, ?_⟩
  rw [show i1.toArray ++ i2.toArray = (i1 ++ i2).toArray by simp]
  exact ⟨.ref _, _, I.lnew (t' := s.toks) (r1.append r2) (by rw [List.length_append]; omega), rfl, q _ I.fresh⟩
end
end DM
end
section
set_option maxHeartbeats 2000000
namespace DM
open PySem PySem.Spec PyProof.Rows L2
/-! ### plain data -/
mutual
def toPy : D → Option PyData
  | .non => some .none
  | .bl b => some (.bool b)
  | .int i => some (.int i)
  | .str x => some (.str x)
  | .tup xs => (toPys xs).map .tuple
  | .qtup xs => (toPys xs).map .tuple
  | .lst xs => (toPys xs).map .list
  | .ty _ => none
  | .abs _ => none
  | .cl _ => none
  | .ref _ => none
  | .exv _ _ _ _ => none
  | .fnv _ _ _ _ _ => none
  | .fno _ => none
def toPys : List D → Option (List PyData)
  | [] => some []
  | x :: xs => match toPy x, toPys xs with
    | some d, some ds => some (d :: ds)
    | _, _ => none
end
mutual
def toPyG (g : Nat → Option PyData) : D → Option PyData
  | .non => some .none
  | .bl b => some (.bool b)
  | .int i => some (.int i)
  | .str x => some (.str x)
  | .tup xs => (toPysG g xs).map .tuple
  | .qtup xs => (toPysG g xs).map .tuple
  | .lst xs => (toPysG g xs).map .list
  | .ty _ => none
  | .abs _ => none
  | .cl _ => none
  | .ref n => g n
  | .exv _ _ _ _ => none
  | .fnv _ _ _ _ _ => none
  | .fno _ => none
def toPysG (g : Nat → Option PyData) : List D → Option (List PyData)
  | [] => some []
  | x :: xs => match toPyG g x, toPysG g xs with
    | some d, some ds => some (d :: ds)
    | _, _ => none
end
/-- changing lists, within one another k deep -/
def refPy (A : AH) : Nat → Nat → Option PyData
  | 0, _ => none
  | k + 1, n => match A[n]? with
    | some (.lst xs) => (toPysG (refPy A k) xs).map .list
    | _ => none
def toPyA (A : AH) (d : D) : Option PyData := match toPy d with
  | some p => some p
  | none => toPyG (refPy A 3) d
mutual
theorem RD.dp {K : PySem.W.Frag} {m : Mp} {H : Hp} : ∀ (d : D) (v : V) (p : PyData), RD K m H d v → toPy d = some p → Dp K H v p
  | .non, _, _, h, e => by cases h; cases e; exact .non
  | .bl b, _, _, h, e => by cases h; cases e; exact .bl b
  | .int b, _, _, h, e => by cases h; cases e; exact .int b
  | .str b, _, _, h, e => by cases h; cases e; exact .str b
  | .tup xs, _, _, h, e => by
    cases h with
    | tup s r =>
      simp only [toPy, Option.map_eq_some_iff] at e
      obtain ⟨ds, e1, rfl⟩ := e
      exact .tup s.sq (RDs.dp xs _ ds r e1)
  | .qtup xs, _, _, h, e => by
    cases h with
    | qtup s n r =>
      simp only [toPy, Option.map_eq_some_iff] at e
      obtain ⟨ds, e1, rfl⟩ := e
      exact .tup (.inl s) (RDs.dp xs _ ds r e1)
  | .lst xs, _, _, h, e => by
    cases h with
    | lst s r =>
      simp only [toPy, Option.map_eq_some_iff] at e
      obtain ⟨ds, e1, rfl⟩ := e
      exact .lst s.sq (RDs.dp xs _ ds r e1)
  | .ty _, _, _, _, e => by cases e
  | .abs _, _, _, _, e => by cases e
  | .cl _, _, _, _, e => by cases e
  | .ref _, _, _, _, e => by cases e
  | .exv _ _ _ _, _, _, _, e => by cases e
  | .fnv _ _ _ _ _, _, _, _, e => by cases e
  | .fno _, _, _, _, e => by cases e
theorem RDs.dp {K : PySem.W.Frag} {m : Mp} {H : Hp} : ∀ (ds : List D) (vs : List V) (ps : List PyData), RDs K m H ds vs → toPys ds = some ps → DpAll K H vs ps
  | [], _, _, h, e => by cases h; cases e; exact .nil
  | d :: ds, _, _, h, e => by
    cases h with
    | cons h r =>
      unfold toPys at e
      split at e
      · rename_i p ps e1 e2
        cases e
        exact .cons (RD.dp d _ p h e1) (RDs.dp ds _ ps r e2)
      · cases e
end
mutual
theorem RD.dpG {K : PySem.W.Frag} {m : Mp} {H : Hp} {g : Nat → Option PyData} (hg : ∀ n a p, m.1[n]? = some a → g n = some p → Dp K H (.ref a) p) : ∀ (d : D) (v : V) (p : PyData), RD K m H d v → toPyG g d = some p → Dp K H v p
  | .non, _, _, h, e => by cases h; cases e; exact .non
  | .bl b, _, _, h, e => by cases h; cases e; exact .bl b
  | .int b, _, _, h, e => by cases h; cases e; exact .int b
  | .str b, _, _, h, e => by cases h; cases e; exact .str b
  | .tup xs, _, _, h, e => by
    cases h with
    | tup s r =>
      simp only [toPyG, Option.map_eq_some_iff] at e
      obtain ⟨ds, e1, rfl⟩ := e
      exact .tup s.sq (RDs.dpG hg xs _ ds r e1)
  | .qtup xs, _, _, h, e => by
    cases h with
    | qtup s n r =>
      simp only [toPyG, Option.map_eq_some_iff] at e
      obtain ⟨ds, e1, rfl⟩ := e
      exact .tup (.inl s) (RDs.dpG hg xs _ ds r e1)
  | .lst xs, _, _, h, e => by
    cases h with
    | lst s r =>
      simp only [toPyG, Option.map_eq_some_iff] at e
      obtain ⟨ds, e1, rfl⟩ := e
      exact .lst s.sq (RDs.dpG hg xs _ ds r e1)
  | .ty _, _, _, _, e => by cases e
  | .abs _, _, _, _, e => by cases e
  | .cl _, _, _, _, e => by cases e
  | .ref n, _, _, h, e => by cases h with | ref hm => exact hg n _ _ hm e
  | .exv _ _ _ _, _, _, _, e => by cases e
  | .fnv _ _ _ _ _, _, _, _, e => by cases e
  | .fno _, _, _, _, e => by cases e
theorem RDs.dpG {K : PySem.W.Frag} {m : Mp} {H : Hp} {g : Nat → Option PyData} (hg : ∀ n a p, m.1[n]? = some a → g n = some p → Dp K H (.ref a) p) : ∀ (ds : List D) (vs : List V) (ps : List PyData), RDs K m H ds vs → toPysG g ds = some ps → DpAll K H vs ps
  | [], _, _, h, e => by cases h; cases e; exact .nil
  | d :: ds, _, _, h, e => by
    cases h with
    | cons h r =>
      unfold toPysG at e
      split at e
      · rename_i p ps e1 e2
        cases e
        exact .cons (RD.dpG hg d _ p h e1) (RDs.dpG hg ds _ ps r e2)
      · cases e
end
theorem refPy_ok {K : PySem.W.Frag} {m : Mp} {A : AH} {H : Hp} (R : Rel K m A H) : ∀ (k n : Nat) (a : Addr) (p : PyData), m.1[n]? = some a → refPy A k n = some p → Dp K H (.ref a) p
  | 0, _, _, _, _, e => by cases e
  | k + 1, n, a, p, hm, e => by
    unfold refPy at e
    split at e
    · rename_i xs hA
      obtain ⟨q, h1, vs, h2, r⟩ := R.obj n _ hA
      rw [hm] at h1; cases h1
      simp only [Option.map_eq_some_iff] at e
      obtain ⟨ds, e1, rfl⟩ := e
      exact .lst (.inl (.inl h2)) (RDs.dpG (refPy_ok R k) xs _ ds r e1)
    · cases e
theorem RD.dpA {K : PySem.W.Frag} {m : Mp} {A : AH} {H : Hp} {d : D} {v : V} {p : PyData} (R : Rel K m A H) (h : RD K m H d v) (e : toPyA A d = some p) : Dp K H v p := by
  unfold toPyA at e
  split at e
  · rename_i q hq
    cases e
    exact RD.dp _ _ _ h hq
  · exact RD.dpG (refPy_ok R 3) _ _ _ h e

section
variable {X : Cx} {W : WX} {a b c e : Expr} {es : List Expr} {ma mb mc me : ME} {mt mu : MT} {ms : MA} {pos p : Pos}
/-! ### comparisons -/
/-- == -/
def cEq (A : AH) (d e : D) : Option Bool := match d, e with
  | .int i, .int j => some (decide (i = j))
  | .str x, .str y => some (decide (x = y))
  | .bl x, .bl y => some (decide (x = y))
  | d, e => match toPyA A d, toPyA A e with
    | some p, some q => if SeqAt.shaped p = true ∧ SeqAt.shaped q = true then some (PyData.eqv p q) else none
    | _, _ => none
def fEq (neg : Bool) : D → D → AH → Res D := fun d e A => match cEq A d e with
  | some k => .ok (.bl (if neg then !k else k)) A
  | none => .no
theorem cEq_ok {K : PySem.W.Frag} {m : Mp} {A : AH} {H : Hp} {x y : V} {d e : D} {k : Bool} (R : Rel K m A H) (hx : RD K m H d x) (hy : RD K m H e y) (h : cEq A d e = some k) :
    (scal x y = true ∧ k = decide (x = y)) ∨ ∃ p q, Dp K H x p ∧ Dp K H y q ∧ SeqAt.shaped p = true ∧ SeqAt.shaped q = true ∧ k = PyData.eqv p q := by
  unfold cEq at h
  split at h
  · cases hx; cases hy
    cases h
    refine .inl ⟨rfl, ?_⟩
    simp
  · cases hx; cases hy
    cases h
    refine .inl ⟨rfl, ?_⟩
    simp
  · cases hx; cases hy
    cases h
    refine .inl ⟨rfl, ?_⟩
    simp
  · split at h
    · rename_i p q h1 h2
      split at h
      · rename_i hs
        cases h
        exact .inr ⟨p, q, RD.dpA R hx h1, RD.dpA R hy h2, hs.1, hs.2, rfl⟩
      · cases h
    · cases h
theorem fEq_ok {K : PySem.W.Frag} : OpD K (fEq false) (fun x y H Q => rEq x y H Q ∨ rEqD K x y H Q) := by
  intro W σ m A H x y d e Q R hx hy h
  unfold fEq at h
  split at h
  · rename_i k hk
    have q := Post.here R (.bl _) h
    rcases cEq_ok R hx hy hk with ⟨h1, rfl⟩ | ⟨p, q', h1, h2, h3, h4, rfl⟩
    · exact .inl ⟨h1, q⟩
    · exact .inr ⟨p, q', h1, h2, h3, h4, q⟩
  · exact h.elim
theorem fNe_ok {K : PySem.W.Frag} : OpD K (fEq true) (fun x y H Q => rNe x y H Q ∨ rNeD K x y H Q) := by
  intro W σ m A H x y d e Q R hx hy h
  unfold fEq at h
  split at h
  · rename_i k hk
    have q := Post.here R (.bl _) h
    rcases cEq_ok R hx hy hk with ⟨h1, rfl⟩ | ⟨p, q', h1, h2, h3, h4, rfl⟩
    · exact .inl ⟨h1, q⟩
    · exact .inr ⟨p, q', h1, h2, h3, h4, q⟩
  · exact h.elim
/-- is None -/
def isNon : D → Bool
  | .non => true
  | _ => false
def fIsN (neg : Bool) : D → D → AH → Res D := fun d e A => match e with
  | .non => .ok (.bl (if neg then !isNon d else isNon d)) A
  | _ => .no
theorem isNon_ok {K : PySem.W.Frag} {m : Mp} {H : Hp} {d : D} {x : V} (h : RD K m H d x) : isNon d = decide (x = .non) := by
  cases h <;> simp [isNon]
theorem fIsN_ok {K : PySem.W.Frag} : OpD K (fIsN false) (fun x y H Q => y = .non ∧ Q (.bl (decide (x = .non))) H) := by
  intro W σ m A H x y d e Q R hx hy h
  unfold fIsN at h
  split at h
  · cases hy
    rw [← isNon_ok hx]
    exact ⟨rfl, Post.here R (.bl _) h⟩
  · exact h.elim
theorem fNotN_ok {K : PySem.W.Frag} : OpD K (fIsN true) (fun x y H Q => y = .non ∧ Q (.bl (!decide (x = .non))) H) := by
  intro W σ m A H x y d e Q R hx hy h
  unfold fIsN at h
  split at h
  · cases hy
    rw [← isNon_ok hx]
    exact ⟨rfl, Post.here R (.bl _) h⟩
  · exact h.elim
/-- the items of a list, a tuple -/
def seqOf (A : AH) (d : D) : Option (List D) := match d with
  | .tup xs => some xs
  | .lst xs => some xs
  | .ref n => match A[n]? with
    | some (.lst xs) => some xs
    | _ => none
  | _ => none
theorem seqOf_ok {K : PySem.W.Frag} {m : Mp} {A : AH} {H : Hp} {d : D} {v : V} {xs : List D} (R : Rel K m A H) (h : RD K m H d v) (e : seqOf A d = some xs) :
    ∃ a vs, v = .ref a ∧ (SqL K H a vs ∨ SqT K H a vs) ∧ RDs K m H xs vs := by
  unfold seqOf at e
  split at e
  · cases e
    cases h with
    | tup s r => exact ⟨_, _, rfl, .inr s.sq, r⟩
  · cases e
    cases h with
    | lst s r => exact ⟨_, _, rfl, .inl s.sq, r⟩
  · split at e
    · rename_i hA
      cases e
      cases h with
      | ref hm =>
        obtain ⟨q, h1, vs, h2, r⟩ := R.obj _ _ hA
        rw [hm] at h1; cases h1
        exact ⟨_, vs, rfl, .inl (.inl (.inl h2)), r⟩
    · cases e
  · cases e
def fLt : D → D → AH → Res D := fI0 fun i j => .bl (decide (i < j))
def fLe : D → D → AH → Res D := fI0 fun i j => .bl (decide (i ≤ j))
def fGt : D → D → AH → Res D := fI0 fun i j => .bl (decide (j < i))
def fGe : D → D → AH → Res D := fI0 fun i j => .bl (decide (j ≤ i))
theorem fCmp_ok {K : PySem.W.Frag} {g : Int → Int → Bool} : OpD K (fI0 fun i j => .bl (g i j)) (rI0 fun i j => .bl (g i j)) := fI0_ok fun _ _ _ _ => .bl _
/-- a value as a test: a bool -/
def mTst (me : ME) : MT := fun ρ A => (me ρ A).bind fun d A1 => match d with
  | .bl k => .ok k A1
  | _ => .no
theorem d_cmp {op : CmpOp} {f : D → D → AH → Res D} {r : R2} (ho : OpR X (compareOp op) r) (hf : OpD X.K f r) (ha : DE X W a ma) (hb : DE X W b mb) (hm : behindInMarks op b = false := by first | exact nomark _ | rfl) : DE X W (.Compare a [op] [b] pos) (mOp f ma mb) :=
  PEi (pe_cmpR ho ha hb hm) fun _ _ _ h => tOpD hf h
theorem tTstD {K : PySem.W.Frag} {t : TE} {σ : L2.St} {H : Hp} {Q : Bool → Hp → Prop} (ht : ∀ Q' : VK, tE K W me σ H Q' → t σ H Q') (h : tT K W (mTst me) σ H Q) : t σ H fun x H' => ∃ k, x = .bl k ∧ Q k H' := by
  obtain ⟨m, A, ρ, R, E, h⟩ := h
  refine ht _ (tE.bind R E h fun m1 A1 d v H1 e1 R1 E1 r1 h1 => ?_)
  split at h1
  · cases r1
    exact ⟨_, rfl, Post.here R1 rfl h1⟩
  · exact h1.elim
theorem t_cmp {op : CmpOp} {f : D → D → AH → Res D} {r : R2} (ho : OpR X (compareOp op) r) (hf : OpD X.K f r) (ha : DE X W a ma) (hb : DE X W b mb) (hm : behindInMarks op b = false := by first | exact nomark _ | rfl) : DT X W (.Compare a [op] [b] pos) (mTst (mOp f ma mb)) :=
  PTi (pt_cmpR ho ha hb hm) fun _ _ _ h => tTstD (fun _ q => tOpD hf q) h
/-- a < b < c -/
def mChn (f g : D → D → AH → Res D) (ma mb mc : ME) : ME := fun ρ A => (ma ρ A).bind fun x A1 => (mb ρ A1).bind fun y A2 => (f x y A2).bind fun z A3 => match z with
  | .bl true => (mc ρ A3).bind fun w A4 => g y w A4
  | .bl false => .ok (.bl false) A3
  | _ => .no
/-- tests -/
theorem t_val (ha : DE X W a ma) (he : ∀ whole, isTrue a X.env whole = (do let v ← whole; standAt a.pos; holding [v] (truthy v)) := by intro _; rfl) : DT X W a (mTst ma) :=
  PTi (pt_val ha he) fun _ _ _ h => tTstD (fun _ q => q) h
def mAnd (mt mu : MT) : MT := fun ρ A => (mt ρ A).bind fun k A1 => if k = true then mu ρ A1 else .ok false A1
def mOr (mt mu : MT) : MT := fun ρ A => (mt ρ A).bind fun k A1 => if k = true then .ok true A1 else mu ρ A1
def mNot (mt : MT) : MT := fun ρ A => (mt ρ A).bind fun k A1 => .ok (!k) A1
theorem w_and1 (ha : DT X W a mt) : DW X W (.BoolOp .And [a] pos) mt := pw_and1 ha
theorem w_or1 (ha : DT X W a mt) : DW X W (.BoolOp .Or [a] pos) mt := pw_or1 ha
theorem w_and (ha : DT X W a mt) (hb : DW X W (.BoolOp .And (b :: es) pos) mu) : DW X W (.BoolOp .And (a :: b :: es) pos) (mAnd mt mu) :=
  PWi (pw_and ha hb) fun σ H Q ⟨m, A, ρ, R, E, h⟩ => tT.bind R E h fun m1 A1 k H1 e1 R1 E1 h1 => by
    cases k with
    | true => exact ⟨m1, A1, ρ, R1, E1, h1⟩
    | false => exact Post.here R1 rfl h1
theorem w_or (ha : DT X W a mt) (hb : DW X W (.BoolOp .Or (b :: es) pos) mu) : DW X W (.BoolOp .Or (a :: b :: es) pos) (mOr mt mu) :=
  PWi (pw_or ha hb) fun σ H Q ⟨m, A, ρ, R, E, h⟩ => tT.bind R E h fun m1 A1 k H1 e1 R1 E1 h1 => by
    cases k with
    | false => exact ⟨m1, A1, ρ, R1, E1, h1⟩
    | true => exact Post.here R1 rfl h1
theorem t_not (ha : DT X W a mt) : DT X W (.UnaryOp .Not a pos) (mNot mt) :=
  PTi (pt_not ha) fun σ H Q ⟨m, A, ρ, R, E, h⟩ => tT.bind R E h fun m1 A1 k H1 e1 R1 E1 h1 => Post.here R1 rfl h1
/-- as values -/
def mAndV (ma mb : ME) : ME := fun ρ A => (ma ρ A).bind fun d A1 => match d with
  | .bl true => mb ρ A1
  | .bl false => .ok (.bl false) A1
  | _ => .no
def mOrV (ma mb : ME) : ME := fun ρ A => (ma ρ A).bind fun d A1 => match d with
  | .bl true => .ok (.bl true) A1
  | .bl false => mb ρ A1
  | _ => .no
def mNotV (ma : ME) : ME := fun ρ A => (ma ρ A).bind fun d A1 => match d with
  | .bl k => .ok (.bl (!k)) A1
  | _ => .no
theorem d_one {op : BoolOp} (h : DE X W a ma) : DE X W (.BoolOp op [a] pos) ma := pe_one h
theorem d_andV (ha : DE X W a ma) (hb : DE X W (.BoolOp .And (b :: es) pos) mb) : DE X W (.BoolOp .And (a :: b :: es) pos) (mAndV ma mb) :=
  PEi (pe_and ha hb) fun σ H Q ⟨m, A, ρ, R, E, h⟩ => tE.bind R E h fun m1 A1 d v H1 e1 R1 E1 r1 h1 => by
    split at h1
    · cases r1; exact ⟨true, rfl, m1, A1, ρ, R1, E1, h1⟩
    · cases r1; exact ⟨false, rfl, Post.here R1 (.bl _) h1⟩
    · exact h1.elim
theorem d_notV (ha : DE X W a ma) : DE X W (.UnaryOp .Not a pos) (mNotV ma) :=
  PEi (pe_not ha) fun σ H Q ⟨m, A, ρ, R, E, h⟩ => tE.bind R E h fun m1 A1 d v H1 e1 R1 E1 r1 h1 => by
    split at h1
    · cases r1; exact ⟨_, rfl, Post.here R1 (.bl _) h1⟩
    · exact h1.elim
def mIf (mt : MT) (ma mb : ME) : ME := fun ρ A => (mt ρ A).bind fun k A1 => if k = true then ma ρ A1 else mb ρ A1
theorem d_if (hc : DT X W c mt) (ha : DE X W a ma) (hb : DE X W b mb) : DE X W (.IfExp c a b pos) (mIf mt ma mb) :=
  PEi (pe_ifExp hc ha hb) fun σ H Q ⟨m, A, ρ, R, E, h⟩ => tT.bind R E h fun m1 A1 k H1 e1 R1 E1 h1 => by
    cases k with
    | true => exact ⟨m1, A1, ρ, R1, E1, h1⟩
    | false => exact ⟨m1, A1, ρ, R1, E1, h1⟩
/-- - a -/
def mNeg (ma : ME) : ME := fun ρ A => (ma ρ A).bind fun d A1 => match d with
  | .int i => .ok (.int (-i)) A1
  | _ => .no
theorem d_neg (ha : DE X W a ma) : DE X W (.UnaryOp .USub a pos) (mNeg ma) :=
  PEi (pe_un un_neg ha) fun σ H Q ⟨m, A, ρ, R, E, h⟩ => tE.bind R E h fun m1 A1 d v H1 e1 R1 E1 r1 h1 => by
    split at h1
    · cases r1; exact ⟨_, rfl, Post.here R1 (.int _) h1⟩
    · exact h1.elim
/-- the comparisons one writes -/
theorem d_add (ha : DE X W a ma) (hb : DE X W b mb) : DE X W (.BinOp a .Add b pos) (mOp fAdd ma mb) := d_op (op_add.or (op_add_str.or (op_catP.or op_catL))) fAdd_ok ha hb
theorem d_eq (hu : X.A.units + 64 < cLine) (ha : DE X W a ma) (hb : DE X W b mb) : DE X W (.Compare a [.Eq] [b] pos) (mOp (fEq false) ma mb) := d_cmp (op_eq.or (op_eqD hu)) fEq_ok ha hb
theorem t_eq (hu : X.A.units + 64 < cLine) (ha : DE X W a ma) (hb : DE X W b mb) : DT X W (.Compare a [.Eq] [b] pos) (mTst (mOp (fEq false) ma mb)) := t_cmp (op_eq.or (op_eqD hu)) fEq_ok ha hb
theorem t_ne (hu : X.A.units + 64 < cLine) (ha : DE X W a ma) (hb : DE X W b mb) : DT X W (.Compare a [.NotEq] [b] pos) (mTst (mOp (fEq true) ma mb)) := t_cmp (op_ne.or (op_neD hu)) fNe_ok ha hb
theorem d_is (ha : DE X W a ma) (hb : DE X W b mb) : DE X W (.Compare a [.Is] [b] pos) (mOp (fIsN false) ma mb) := d_cmp op_isN fIsN_ok ha hb
theorem t_isnt (ha : DE X W a ma) (hb : DE X W b mb) : DT X W (.Compare a [.IsNot] [b] pos) (mTst (mOp (fIsN true) ma mb)) := t_cmp op_notN fNotN_ok ha hb
theorem t_lt (ha : DE X W a ma) (hb : DE X W b mb) : DT X W (.Compare a [.Lt] [b] pos) (mTst (mOp fLt ma mb)) := t_cmp op_lt fCmp_ok ha hb
theorem t_gt (ha : DE X W a ma) (hb : DE X W b mb) : DT X W (.Compare a [.Gt] [b] pos) (mTst (mOp fGt ma mb)) := t_cmp op_gt fCmp_ok ha hb
theorem t_ge (ha : DE X W a ma) (hb : DE X W b mb) : DT X W (.Compare a [.GtE] [b] pos) (mTst (mOp fGe ma mb)) := t_cmp op_ge fCmp_ok ha hb
/-- a chain of two orders of ints -/
theorem chnD {K : PySem.W.Frag} {f g : D → D → AH → Res D} {r r' : R2} (hf : OpD K f r) (hg : OpD K g r') {σ : L2.St} {H : Hp} {Q : VK} (h : tE K W (mChn f g ma mb mc) σ H Q) : tChain r r' (tE K W ma) (tE K W mb) (tE K W mc) σ H Q := by
  obtain ⟨m, A, ρ, R, E, h⟩ := h
  refine tE.bind R E h fun m1 A1 d v H1 e1 R1 E1 r1 h1 => tE.bind R1 E1 h1 fun m2 A2 d2 v2 H2 e2 R2 E2 r2 h2 => ?_
  refine hf W σ m2 A2 H2 v v2 d d2 _ R2 (RD.mono e2 _ _ r1) r2 (Post.imp (Post.bind (R := RD K) h2) fun z H3 ⟨m3, A3, dz, e3, R3, rz, h3⟩ => ?_)
  split at h3
  · cases rz
    refine ⟨true, rfl, ?_⟩
    rw [if_pos rfl]
    exact tE.bind R3 (E2.mono e3) h3 fun m4 A4 d4 v4 H4 e4 R4 E4 r4 h4 => hg W σ m4 A4 H4 v2 v4 d2 d4 Q R4 (RD.mono (e3.trans e4) _ _ r2) r4 h4
  · cases rz
    refine ⟨false, rfl, ?_⟩
    rw [if_neg (by decide)]
    exact Post.here R3 (.bl _) h3
  · exact h3.elim
theorem d_chn {op op' : CmpOp} {f g : D → D → AH → Res D} {r r' : R2} (ho : OpR X (compareOp op) r) (ho' : OpR X (compareOp op') r') (hf : OpD X.K f r) (hg : OpD X.K g r') (ha : DE X W a ma) (hb : DE X W b mb) (hc : DE X W c mc) (hm : lastMarks [op, op'] [b, c] = false := by with_unfolding_all rfl) :
    DE X W (.Compare a [op, op'] [b, c] pos) (mChn f g ma mb mc) := PEi (pe_chain ho ho' ha hb hc hm) fun _ _ _ h => chnD hf hg h
end
end DM
end
section
set_option maxHeartbeats 2000000
namespace DM
open PySem PySem.Spec PyProof.Rows L2
section
variable {X : Cx} {W : WX} {a b c e tg : Expr} {es : List Expr} {ma mb mc me : ME} {mt mu : MT} {ms : MA} {pos p p2 : Pos}
/-! ### argument lists, displays -/
def mNil : MA := fun _ A => .ok [] A
def mCons (me : ME) (ms : MA) : MA := fun ρ A => (me ρ A).bind fun d A1 => (ms ρ A1).bind fun ds A2 => .ok (d :: ds) A2
theorem a_nil : DA X W [] mNil := PAi pa_nil fun σ H Q ⟨m, A, ρ, R, E, h⟩ => Post.here R .nil h
theorem a_cons (ha : DE X W e me) (hr : DA X W es ms) (hs : starEach (e :: es) X.env = (false, eval e X.env) :: starEach es X.env := by rfl) : DA X W (e :: es) (mCons me ms) :=
  PAi (pa_cons ha hr hs) fun σ H Q ⟨m, A, ρ, R, E, h⟩ => tE.bind R E h fun m1 A1 d v H1 e1 R1 E1 r1 h1 => tA.bind R1 E1 h1 fun m2 A2 ds vs H2 e2 R2 E2 r2 h2 => Post.here R2 (.cons (RD.mono e2 _ _ r1) r2) h2
def mTup (ms : MA) : ME := fun ρ A => (ms ρ A).bind fun ds A1 => if ds.length ≤ 1000 then .ok (.tup ds) A1 else .no
def mLst (ms : MA) : ME := fun ρ A => (ms ρ A).bind fun ds A1 => if ds.length ≤ 1000 then .ok (.lst ds) A1 else .no
/-- a list that will change -/
def mNew (ms : MA) : ME := fun ρ A => (ms ρ A).bind fun ds A1 => if ds.length ≤ 1000 then .ok (.ref A1.length) (A1 ++ [.lst ds]) else .no
theorem k1000 {ds : List D} {vs : List V} {K : PySem.W.Frag} {m : Mp} {H : Hp} (r : RDs K m H ds vs) (h : ds.length ≤ 1000) : vs.length ≤ sizeLine := by
  rw [← r.length, sizeLine_eq]; omega
theorem d_tup {x1 : Nat} (h : DA X W es ms) : DE X W (.Tuple es x1 pos) (mTup ms) :=
  PEi (pe_tupP h) fun σ H Q ⟨m, A, ρ, R, E, h⟩ => tA.bind R E h fun m1 A1 ds vs H1 e1 R1 E1 r1 h1 => by
    split at h1
    · rename_i hz
      exact ⟨k1000 r1 hz, tup_new R1 r1 h1⟩
    · exact h1.elim
theorem d_lst (h : DA X W es ms) : DE X W (.List es pos) (mLst ms) :=
  PEi (pe_lst h) fun σ H Q ⟨m, A, ρ, R, E, h⟩ => tA.bind R E h fun m1 A1 ds vs H1 e1 R1 E1 r1 h1 => by
    split at h1
    · rename_i hz
      exact ⟨k1000 r1 hz, lst_new R1 r1 h1⟩
    · exact h1.elim
theorem d_new (h : DA X W es ms) : DE X W (.List es pos) (mNew ms) :=
  PEi (pe_lst h) fun σ H Q ⟨m, A, ρ, R, E, h⟩ => tA.bind R E h fun m1 A1 ds vs H1 e1 R1 E1 r1 h1 => by
    split at h1
    · rename_i hz
      exact ⟨k1000 r1 hz, ref_new R1 r1 h1⟩
    · exact h1.elim
/-- a list written out, times a number -/
def mRep (ms : MA) (mb : ME) : ME := fun ρ A => (ms ρ A).bind fun ds A1 => if ds.length ≤ 1000 then (mb ρ A1).bind fun y A2 => (match y with
  | .int k => if -(2 ^ 63) ≤ k ∧ k < 2 ^ 63 ∧ ds.length * k.toNat ≤ 16777216 then .ok (.lst (List.replicate k.toNat ds).flatten) A2 else .no
  | _ => .no) else .no
theorem RDs.rep {K : PySem.W.Frag} {m : Mp} {H : Hp} {ds : List D} {vs : List V} (r : RDs K m H ds vs) : ∀ n : Nat, RDs K m H (List.replicate n ds).flatten (List.replicate n vs).flatten
  | 0 => .nil
  | n + 1 => by
    rw [List.replicate_succ, List.replicate_succ, List.flatten_cons, List.flatten_cons]
    exact r.append (RDs.rep r n)
theorem d_rep {b : Expr} {mb : ME} {pos2 : Pos} (h : DA X W es ms) (hb : DE X W b mb) : DE X W (.BinOp (.List es pos2) .Mult b pos) (mRep ms mb) :=
  PEi (pe_op op_rep (pe_lst h) hb) fun σ H Q ⟨m, A, ρ, R, E, h⟩ => tA.bind R E h fun m1 A1 ds vs H1 e1 R1 E1 r1 h1 => by
    split at h1
    · rename_i hz
      refine ⟨k1000 r1 hz, fun p hp => ?_⟩
      obtain ⟨R2, e2⟩ := R1.new hp (.lst vs)
      refine tE.bind R2 (E1.mono e2) (Post.mono e2 h1) fun m2 A2 y v H2 e3 R3 E3 r3 h3 => ?_
      have hH : H2 p = some (.lst vs) := e3.keep p _ upd_same (R1.out hp).1
      split at h3
      · rename_i k
        cases r3
        split at h3
        · rename_i hk
          exact ⟨p, k, vs, rfl, rfl, hH, hk.1, hk.2.1, by rw [← r1.length, sizeLine_eq]; exact hk.2.2, lst_new R3 (RDs.rep (RDs.mono (e2.trans e3) _ _ r1) k.toNat) h3⟩
        · exact h3.elim
      · exact h3.elim
    · exact h1.elim
/-! ### built-ins -/
def CallD (K : PySem.W.Frag) (f : List D → AH → Res D) (r : List V → Hp → VK → Prop) : Prop :=
  ∀ (W : WX) (σ : L2.St) (m : Mp) (A : AH) (H : Hp) (xs : List V) (ds : List D) (Q : VK), Rel K m A H → RDs K m H ds xs → Post K (RD K) W σ m H (f ds A) Q → r xs H Q
def mCall (f : List D → AH → Res D) (ms : MA) : ME := fun ρ A => (ms ρ A).bind fun ds A1 => f ds A1
theorem tCB_D {K : PySem.W.Frag} {f : List D → AH → Res D} {r : List V → Hp → VK → Prop} (hf : CallD K f r) {σ : L2.St} {H : Hp} {Q : VK} (h : tE K W (mCall f ms) σ H Q) : tCB r (tA K W ms) σ H Q := by
  obtain ⟨m, A, ρ, R, E, h⟩ := h
  exact tA.bind R E h fun m1 A1 ds vs H1 e1 R1 E1 r1 h1 => hf W σ m1 A1 H1 vs ds Q R1 r1 h1
theorem d_callB {id : String} {x : Str} {f : List D → AH → Res D} {r : List V → Hp → VK → Prop} (hc : CallR X (.builtin id) r) (hf : CallD X.K f r) (hg : Gl X x) (hm : X.mg x = none) (hv : bootBuiltins x = some (.builtin id)) (ha : DA X W (e :: es) ms) (hn : x ≠ "__name__" := by decide)
    (hdb : (x == ("__debug__" : Str)) = false := by decide) (he : starEach (e :: es) X.env = (false, eval e X.env) :: starEach es X.env := by rfl) (hpl : (backTo pos (starEach es X.env)).any (·.1) = false := by rfl) :
    DE X W (.Call (.Name x p) (e :: es) [] pos) (mCall f ms) := PEi (pe_callB hc hg hm hv ha hn hdb he hpl) fun _ _ _ h => tCB_D hf h
theorem d_callTy {T : String} {x : Str} {f : List D → AH → Res D} {r : List V → Hp → VK → Prop} (hc : CallR X (.type T) r) (hf : CallD X.K f r) (hg : Gl X x) (hm : X.mg x = none) (hv : bootBuiltins x = some (.type T)) (ha : DA X W (e :: es) ms) (hn : x ≠ "__name__" := by decide)
    (hdb : (x == ("__debug__" : Str)) = false := by decide) (he : starEach (e :: es) X.env = (false, eval e X.env) :: starEach es X.env := by rfl) (hpl : (backTo pos (starEach es X.env)).any (·.1) = false := by rfl) :
    DE X W (.Call (.Name x p) (e :: es) [] pos) (mCall f ms) := PEi (pe_callTy hc hg hm hv ha hn hdb he hpl) fun _ _ _ h => tCB_D hf h
theorem RDs.one {K : PySem.W.Frag} {m : Mp} {H : Hp} {d : D} {xs : List V} (h : RDs K m H [d] xs) : ∃ v, xs = [v] ∧ RD K m H d v := by
  cases h with
  | cons h r => cases r; exact ⟨_, rfl, h⟩
/-- len -/
def fLen : List D → AH → Res D := fun ds A => match ds with
  | [.str x] => if x.length ≤ 16777216 then .ok (.int x.length) A else .no
  | [d] => match seqOf A d with
    | some xs => .ok (.int xs.length) A
    | none => .no
  | _ => .no
theorem fLen_ok {K : PySem.W.Frag} : CallD K fLen (fun xs H Q => ∃ x n, xs = [x] ∧ LenV K x H n ∧ Q (.int n) H) := by
  intro W σ m A H xs ds Q R hx h
  unfold fLen at h
  split at h
  · rename_i x
    obtain ⟨v, rfl, r⟩ := hx.one
    cases r
    split at h
    · rename_i hz
      exact ⟨.str x, x.length, rfl, ⟨by rw [sizeLine_eq]; exact hz, rfl⟩, Post.here R (.int _) h⟩
    · exact h.elim
  · rename_i d _
    obtain ⟨v, rfl, r⟩ := hx.one
    split at h
    · rename_i ys hs
      obtain ⟨q, vs, rfl, sq, rs⟩ := seqOf_ok R r hs
      refine ⟨.ref q, vs.length, rfl, ?_, ?_⟩
      · rcases sq with sq | sq
        · exact .inl ⟨vs, sq, rfl⟩
        · exact .inr ⟨vs, sq, rfl⟩
      · rw [← rs.length]
        exact Post.here R (.int _) h
    · exact h.elim
  · exact h.elim
theorem d_len (hm : X.mg "len" = none) (ha : DA X W [e] ms) (hg : Gl X "len" := by rfl) (he : starEach [e] X.env = (false, eval e X.env) :: starEach [] X.env := by rfl) (hpl : (backTo pos (starEach [] X.env)).any (·.1) = false := by rfl) :
    DE X W (.Call (.Name "len" p) [e] [] pos) (mCall fLen ms) := d_callB call_len fLen_ok hg hm PySem.boot_len ha (by decide) (by decide) he hpl
/-- int of an int, of a bool -/
def fInt : List D → AH → Res D := fun ds A => match ds with
  | [.int i] => .ok (.int i) A
  | [.bl k] => .ok (.int (if k then 1 else 0)) A
  | _ => .no
theorem fInt_ok {K : PySem.W.Frag} : CallD K fInt (fun xs H Q => (∃ i, xs = [.int i] ∧ Q (.int i) H) ∨ ∃ k, xs = [.bl k] ∧ Q (.int (if k then 1 else 0)) H) := by
  intro W σ m A H xs ds Q R hx h
  unfold fInt at h
  split at h
  · obtain ⟨v, rfl, r⟩ := hx.one
    cases r
    exact .inl ⟨_, rfl, Post.here R (.int _) h⟩
  · obtain ⟨v, rfl, r⟩ := hx.one
    cases r
    exact .inr ⟨_, rfl, Post.here R (.int _) h⟩
  · exact h.elim
theorem d_intf (hm : X.mg "int" = none) (ha : DA X W [e] ms) (hg : Gl X "int" := by rfl) (he : starEach [e] X.env = (false, eval e X.env) :: starEach [] X.env := by rfl) (hpl : (backTo pos (starEach [] X.env)).any (·.1) = false := by rfl) :
    DE X W (.Call (.Name "int" p) [e] [] pos) (mCall fInt ms) := d_callTy call_int1 fInt_ok hg hm (by decide +kernel) ha (by decide) (by decide) he hpl
def fAbs : List D → AH → Res D := fun ds A => match ds with
  | [.int i] => .ok (.int (if i < 0 then -i else i)) A
  | _ => .no
theorem fAbs_ok {K : PySem.W.Frag} : CallD K fAbs (fun xs H Q => ∃ i, xs = [.int i] ∧ Q (.int (if i < 0 then -i else i)) H) := by
  intro W σ m A H xs ds Q R hx h
  unfold fAbs at h
  split at h
  · obtain ⟨v, rfl, r⟩ := hx.one
    cases r
    exact ⟨_, rfl, Post.here R (.int _) h⟩
  · exact h.elim
theorem d_abs (hm : X.mg "abs" = none) (ha : DA X W [e] ms) (hg : Gl X "abs" := by rfl) (he : starEach [e] X.env = (false, eval e X.env) :: starEach [] X.env := by rfl) (hpl : (backTo pos (starEach [] X.env)).any (·.1) = false := by rfl) :
    DE X W (.Call (.Name "abs" p) [e] [] pos) (mCall fAbs ms) := d_callB call_abs fAbs_ok hg hm (by decide +kernel) ha (by decide) (by decide) he hpl
/-- tuple of a list, a tuple -/
def fTup : List D → AH → Res D := fun ds A => match ds with
  | [d] => match seqOf A d with
    | some xs => .ok (.tup xs) A
    | none => .no
  | _ => .no
def isTup : D → Bool
  | .tup _ => true
  | _ => false
theorem seqOf_is {K : PySem.W.Frag} {m : Mp} {A : AH} {H : Hp} {d : D} {v : V} {xs : List D} (R : Rel K m A H) (h : RD K m H d v) (e : seqOf A d = some xs) :
    ∃ a vs, v = .ref a ∧ RDs K m H xs vs ∧ ((d = .tup xs ∧ SqT K H a vs) ∨ (isTup d = false ∧ SqL K H a vs)) := by
  unfold seqOf at e
  split at e
  · cases e
    cases h with
    | tup s r => exact ⟨_, _, rfl, r, .inl ⟨rfl, s.sq⟩⟩
  · cases e
    cases h with
    | lst s r => exact ⟨_, _, rfl, r, .inr ⟨rfl, s.sq⟩⟩
  · split at e
    · rename_i hA
      cases e
      cases h with
      | ref hm =>
        obtain ⟨q, h1, vs, h2, r⟩ := R.obj _ _ hA
        rw [hm] at h1; cases h1
        exact ⟨_, vs, rfl, r, .inr ⟨rfl, .inl (.inl h2)⟩⟩
    · cases e
  · cases e
theorem fTup_ok {K : PySem.W.Frag} : CallD K fTup (fun xs H Q => ∃ p ys, xs = [.ref p] ∧ ((SqL K H p ys ∧ ∀ l us, H l = none → Q (.ref l) (upd H l (plH us ys))) ∨ (SqT K H p ys ∧ Q (.ref p) H))) := by
  intro W σ m A H xs ds Q R hx h
  unfold fTup at h
  split at h
  · rename_i d
    obtain ⟨v, rfl, r⟩ := hx.one
    split at h
    · rename_i ys hs
      obtain ⟨q, vs, rfl, rs, sq⟩ := seqOf_is R r hs
      refine ⟨q, vs, rfl, ?_⟩
      rcases sq with ⟨rfl, sq⟩ | ⟨_, sq⟩
      · exact .inr ⟨sq, Post.here R r h⟩
      · exact .inl ⟨sq, tup_new R rs h⟩
    · exact h.elim
  · exact h.elim
theorem d_tuple (hm : X.mg "tuple" = none) (ha : DA X W [e] ms) (hg : Gl X "tuple" := by rfl) (he : starEach [e] X.env = (false, eval e X.env) :: starEach [] X.env := by rfl) (hpl : (backTo pos (starEach [] X.env)).any (·.1) = false := by rfl) :
    DE X W (.Call (.Name "tuple" p) [e] [] pos) (mCall fTup ms) := d_callTy tuple_ofP fTup_ok hg hm (by decide +kernel) ha (by decide) (by decide) he hpl
/-- list of these: a list that stays -/
def fList : List D → AH → Res D := fun ds A => match ds with
  | [d] => match seqOf A d with
    | some xs => .ok (.lst xs) A
    | none => .no
  | _ => .no
def rListOf (K : PySem.W.Frag) : List V → Hp → VK → Prop := fun xs H Q => ∃ p ys, xs = [.ref p] ∧ (SqL K H p ys ∨ SqT K H p ys) ∧ ∀ l, H l = none → Q (.ref l) (upd H l (.lst ys))
theorem fList_ok {K : PySem.W.Frag} : CallD K fList (rListOf K) := by
  intro W σ m A H xs ds Q R hx h
  unfold fList at h
  split at h
  · obtain ⟨v, rfl, r⟩ := hx.one
    split at h
    · rename_i ys hs
      obtain ⟨q, vs, rfl, sq, rs⟩ := seqOf_ok R r hs
      exact ⟨q, vs, rfl, sq, lst_new R rs h⟩
    · exact h.elim
  · exact h.elim
theorem d_list (hm : X.mg "list" = none) (ha : DA X W [e] ms) (hg : Gl X "list" := by rfl) (he : starEach [e] X.env = (false, eval e X.env) :: starEach [] X.env := by rfl) (hpl : (backTo pos (starEach [] X.env)).any (·.1) = false := by rfl) :
    DE X W (.Call (.Name "list" p) [e] [] pos) (mCall fList ms) := d_callTy call_list_of fList_ok hg hm (by decide +kernel) ha (by decide) (by decide) he hpl
/-- repr -/
def fRepr : List D → AH → Res D := fun ds A => match ds with
  | [d] => match toPyA A d with
    | some q => if q.showable = true ∧ q.shown.length ≤ 16777216 ∧ q.depth ≤ 32 then .ok (.str q.shown) A else .no
    | none => .no
  | _ => .no
def rRepr (K : PySem.W.Frag) : List V → Hp → VK → Prop := fun xs H Q => ∃ x q, xs = [x] ∧ Dp K H x q ∧ q.showable = true ∧ q.shown.length ≤ sizeLine ∧ q.depth ≤ 32 ∧ Q (.str q.shown) H
mutual
theorem Dp.noDict {K : PySem.W.Frag} {H : Hp} : ∀ (q : PyData) (x : V), Dp K H x q → q.hasDict = false
  | .none, _, _ => by simp [PyData.hasDict]
  | .bool _, _, _ => by simp [PyData.hasDict]
  | .int _, _, _ => by simp [PyData.hasDict]
  | .str _, _, _ => by simp [PyData.hasDict]
  | .list ds, _, h => by cases h with | lst s r => (simp only [PyData.hasDict]; exact DpAll.noDict ds _ r)
  | .tuple ds, _, h => by cases h with | tup s r => (simp only [PyData.hasDict]; exact DpAll.noDict ds _ r)
  | .dict _, _, h => by cases h
theorem DpAll.noDict {K : PySem.W.Frag} {H : Hp} : ∀ (qs : List PyData) (xs : List V), DpAll K H xs qs → PyData.hasDictAll qs = false
  | [], _, _ => by simp [PyData.hasDictAll]
  | q :: qs, _, h => by
    cases h with
    | cons h r => simp only [PyData.hasDictAll, Dp.noDict q _ h, DpAll.noDict qs _ r, Bool.or_self]
end
theorem call_reprD (hg : X.A.guards = some []) (hu : X.A.units + 64 < cLine) : CallR X (.builtin "repr") (rRepr X.K) := by
  intro pins s σ H xs us Q I r h
  obtain ⟨x, q, rfl, hd, hs, hz, hdep, k⟩ := h
  obtain ⟨u, rfl, ru⟩ := vals1 r
  obtain ⟨as, rd⟩ := Dp.reads I q x u hd ru
  have hn := Dp.noDict q x hd
  have fin : ∀ h' t tk, (∀ b o, s.heap.get? b = some o → h'.get? b = some o) → EP X pins σ Q (.str q.shown t) { s with heap := h', toks := tk } := fun h' t tk kp => ⟨.str q.shown, H, I.kept (t' := tk) kp, ⟨t, rfl⟩, k⟩
  cases rd with
  | none =>
    simp only [PyData.shown] at fin
    exact PySem.P.repr_of_none (fin s.heap _ _ fun _ _ z => z)
  | bool b => 
    simp only [PyData.shown] at fin
    exact PySem.P.repr_of_bool (fin s.heap _ _ fun _ _ z => z)
  | int i t =>
    simp only [PyData.shown] at fin
    exact PySem.P.repr_of_int (by simpa [PyData.showable] using hs) (fin s.heap _ _ fun _ _ z => z)
  | str y t => 
    simp only [PyData.shown] at fin
    exact PySem.P.repr_of_str (fin s.heap _ _ fun _ _ z => z) (by simpa only [PyData.shown] using hz)
  | list h1 h2 h3 h4 =>
    exact repr_of_reads' (Reads.list h1 h2 h3 h4) hs (fun z => by rw [hn] at z; cases z) hg (by omega) (fun _ _ z => z) fin hz
  | tuple h1 h2 h3 h4 =>
    exact repr_of_reads' (Reads.tuple h1 h2 h3 h4) hs (fun z => by rw [hn] at z; cases z) hg (by omega) (fun _ _ z => z) fin hz
  | dict h1 h2 h3 h4 h5 => exact repr_of_reads' (Reads.dict h1 h2 h3 h4 h5) hs (fun z => by rw [hn] at z; cases z) hg (by omega) (fun _ _ z => z) fin hz
theorem fRepr_ok {K : PySem.W.Frag} : CallD K fRepr (rRepr K) := by
  intro W σ m A H xs ds Q R hx h
  unfold fRepr at h
  split at h
  · obtain ⟨v, rfl, r⟩ := hx.one
    split at h
    · rename_i q hq
      split at h
      · rename_i hc
        exact ⟨v, q, rfl, RD.dpA R r hq, hc.1, by rw [sizeLine_eq]; exact hc.2.1, hc.2.2, Post.here R (.str _) h⟩
      · exact h.elim
    · exact h.elim
  · exact h.elim
theorem d_repr (gd : X.A.guards = some []) (hu : X.A.units + 64 < cLine) (hm : X.mg "repr" = none) (ha : DA X W [e] ms) (hg : Gl X "repr" := by rfl) (he : starEach [e] X.env = (false, eval e X.env) :: starEach [] X.env := by rfl) (hpl : (backTo pos (starEach [] X.env)).any (·.1) = false := by rfl) :
    DE X W (.Call (.Name "repr" p) [e] [] pos) (mCall fRepr ms) := d_callB (call_reprD gd hu) fRepr_ok hg hm (by decide +kernel) ha (by decide) (by decide) he hpl
end
end DM
end
section
set_option maxHeartbeats 2000000
namespace DM
open PySem PySem.Spec PyProof.Rows L2
section
variable {X : Cx} {W : WX} {a b c e tg : Expr} {es : List Expr} {ma mb mc me : ME} {mt mu : MT} {ms : MA} {pos p p2 : Pos}
/-! ### a[b] -/
def fIx : D → D → AH → Res D := fun d e A => match d, e with
  | .str z, .int i => if z.length ≤ 16777216 then (match atI z.cps.toList i with | some c => .ok (.str ⟨#[c]⟩) A | none => .no) else .no
  | d, .int i => match seqOf A d with
    | some xs => match atI xs i with
      | some v => .ok v A
      | none => .no
    | none => .no
  | _, _ => .no
theorem atI_rel {K : PySem.W.Frag} {m : Mp} {H : Hp} {xs : List D} {vs : List V} {i : Int} {d : D} (r : RDs K m H xs vs) (h : atI xs i = some d) : ∃ v, atI vs i = some v ∧ RD K m H d v := by
  unfold atI at h ⊢
  rw [← r.length]
  cases hn : ixN xs.length i with
  | none => rw [hn] at h; cases h
  | some j =>
    rw [hn] at h
    obtain ⟨v, h1, h2⟩ := r.get h
    exact ⟨v, h1, h2⟩
theorem fIx_ok {K : PySem.W.Frag} : OpD K fIx (rIx K) := by
  intro W σ m A H x y d e Q R hx hy h
  unfold fIx at h
  split at h
  · rename_i z i
    cases hx; cases hy
    split at h
    · rename_i hz
      split at h
      · rename_i c hc
        exact .inr (.inr ⟨z, i, c, rfl, rfl, by rw [sizeLine_eq]; exact hz, hc, Post.here R (.str _) h⟩)
      · exact h.elim
    · exact h.elim
  · rename_i i _
    cases hy
    split at h
    · rename_i xs hs
      obtain ⟨q, vs, rfl, rs, sq⟩ := seqOf_is R hx hs
      split at h
      · rename_i v hv
        obtain ⟨w, h1, h2⟩ := atI_rel rs hv
        have k := Post.here R h2 h
        rcases sq with ⟨_, sq⟩ | ⟨_, sq⟩
        · exact .inr (.inl ⟨q, vs, i, w, rfl, rfl, sq, h1, k⟩)
        · exact .inl ⟨q, vs, i, w, rfl, rfl, sq, h1, k⟩
      · exact h.elim
    · exact h.elim
  · exact h.elim
theorem d_ix (ha : DE X W a ma) (hb : DE X W b mb) (hs : PlainIx b := by exact fun _ _ => rfl) : DE X W (.Subscript a b pos) (mOp fIx ma mb) := PEi (pe_ix ix_seq ha hb hs) fun _ _ _ h => tOpD fIx_ok h
/-! ### slices -/
abbrev MO := Env → AH → Res (Option Int)
def tO (K : PySem.W.Frag) (W : WX) (mo : MO) : TO := fun σ H Q => ∃ m A ρ, Rel K m A H ∧ REnv K m H ρ σ ∧ Post K (fun _ _ a b => a = b) W σ m H (mo ρ A) Q
def mNone : MO := fun _ A => .ok none A
def mSome (me : ME) : MO := fun ρ A => (me ρ A).bind fun d A1 => match d with
  | .int i => .ok (some i) A1
  | _ => .no
structure DO (X : Cx) (W : WX) (e : Option Expr) (mo : MO) : Prop where
  go : PO X e (tO X.K W mo)
theorem POi {X : Cx} {e : Option Expr} {t t' : TO} (h : PO X e t) (q : ∀ σ H Q, t' σ H Q → t σ H Q) : PO X e t' := ⟨fun pins s σ H Q I w => h.run pins s σ H Q I (q σ H Q w)⟩
theorem o_none : DO X W none mNone := ⟨POi po_none fun σ H Q ⟨m, A, ρ, R, E, h⟩ => Post.here R rfl h⟩
theorem o_some (ha : DE X W e me) : DO X W (some e) (mSome me) := ⟨POi (po_some ha) fun σ H Q ⟨m, A, ρ, R, E, h⟩ => tE.bind R E h fun m1 A1 d v H1 e1 R1 E1 r1 h1 => by
  split at h1
  · cases r1; exact ⟨_, rfl, Post.here R1 rfl h1⟩
  · exact h1.elim⟩
theorem tO.bind {K : PySem.W.Frag} {σ : L2.St} {m : Mp} {A : AH} {ρ : Env} {H : Hp} {β γ : Type} {R2 : Mp → Hp → γ → β → Prop} {me : MO} {k : Option Int → AH → Res γ} {Q : β → Hp → Prop} {T : Option Int → Hp → Prop} (R : Rel K m A H) (E : REnv K m H ρ σ)
    (h : Post K R2 W σ m H ((me ρ A).bind k) Q) (q : ∀ m1 A1 b H1, Ext m H m1 H1 → Rel K m1 A1 H1 → REnv K m1 H1 ρ σ → Post K R2 W σ m1 H1 (k b A1) Q → T b H1) : tO K W me σ H T :=
  ⟨m, A, ρ, R, E, Post.imp (Post.bind (R := fun _ _ a b => a = b) h) fun v H1 ⟨m1, A1, d, e, R1, r, p⟩ => by subst r; exact q m1 A1 _ H1 e R1 (E.mono e) p⟩
def cutD (xs : List D) (lo hi : Option Int) : List D := (xs.drop (HT.sIx xs.length 0 lo)).take (HT.sIx xs.length xs.length hi - HT.sIx xs.length 0 lo)
theorem cut_rel {K : PySem.W.Frag} {m : Mp} {H : Hp} {xs : List D} {vs : List V} {lo hi : Option Int} (r : RDs K m H xs vs) : RDs K m H (cutD xs lo hi) (cutV vs lo hi) := by
  unfold cutD cutV
  rw [← r.length]
  exact (r.drop _).take _
theorem cut_whole {xs : List D} {lo hi : Option Int} (h : HT.sIx xs.length 0 lo = 0 ∧ HT.sIx xs.length xs.length hi = xs.length) : cutD xs lo hi = xs := by
  unfold cutD
  rw [h.1, h.2]
  simp
def fSl : D → Option Int → Option Int → AH → Res D := fun d lo hi A => match d with
  | .tup xs => .ok (.tup (cutD xs lo hi)) A
  | d => match seqOf A d with
    | some xs => .ok (.lst (cutD xs lo hi)) A
    | none => .no
def mSl (me : ME) (ml mh : MO) : ME := fun ρ A => (me ρ A).bind fun d A1 => (ml ρ A1).bind fun lo A2 => (mh ρ A2).bind fun hi A3 => fSl d lo hi A3
theorem d_sl {lo hi : Option Expr} {ml mh : MO} (he : DE X W e me) (hl : DO X W lo ml) (hh : DO X W hi mh) : DE X W (.Subscript e (.Slice lo hi none p2) pos) (mSl me ml mh) :=
  PEi (pe_slice (sl_tupP.or sl_list) he hl.go hh.go) fun σ H Q ⟨m, A, ρ, R, E, h⟩ => tE.bind R E h fun m1 A1 d v H1 e1 R1 E1 r1 h1 => tO.bind R1 E1 h1 fun m2 A2 l H2 e2 R2 E2 h2 => tO.bind R2 E2 h2 fun m3 A3 u H3 e3 R3 E3 h3 => by
    have r3 := RD.mono (e2.trans e3) _ _ r1
    unfold fSl at h3
    split at h3
    · rename_i xs
      have r3' := r3
      cases r3 with
      | tup s r =>
        rename_i q vs
        refine .inl ⟨q, vs, rfl, s.sq, fun hw => ?_, fun _ => tup_new R3 (cut_rel r) h3⟩
        rw [← r.length] at hw
        rw [cut_whole hw] at h3
        exact Post.here R3 r3' h3
    · rename_i d hd
      split at h3
      · rename_i xs hs
        obtain ⟨q, vs, rfl, rs, sq⟩ := seqOf_is R3 r3 hs
        rcases sq with ⟨rfl, _⟩ | ⟨_, sq⟩
        · exact (hd xs rfl).elim
        · exact .inr ⟨q, vs, rfl, sq, lst_new R3 (cut_rel rs) h3⟩
      · exact h3.elim
theorem RDs.rev {K : PySem.W.Frag} {m : Mp} {H : Hp} : ∀ {xs : List D} {vs : List V}, RDs K m H xs vs → RDs K m H xs.reverse vs.reverse
  | [], _, h => by cases h; exact .nil
  | x :: xs, _, h => by
    cases h with
    | cons h r =>
      rw [List.reverse_cons, List.reverse_cons]
      exact (RDs.rev r).append (.cons h .nil)
/-- xs[::-1] of a list, to stay or to change -/
def mRev (chg : Bool) (me : ME) : ME := fun ρ A => (me ρ A).bind fun d A1 => if isTup d = true then .no else match seqOf A1 d with
  | some xs => if chg then .ok (.ref A1.length) (A1 ++ [.lst xs.reverse]) else .ok (.lst xs.reverse) A1
  | none => .no
theorem d_rev {k : Nat} {q1 q2 q3 : Pos} (chg : Bool) (he : DE X W e me) : DE X W (.Subscript e (.Slice none none (some (.UnaryOp .USub (.Constant (.int 1) k q1) q2)) q3) pos) (mRev chg me) :=
  PEi (pe_revL he) fun σ H Q ⟨m, A, ρ, R, E, h⟩ => tE.bind R E h fun m1 A1 d v H1 e1 R1 E1 r1 h1 => by
    split at h1
    · exact h1.elim
    · rename_i hn
      split at h1
      · rename_i xs hs
        obtain ⟨q, vs, rfl, rs, sq⟩ := seqOf_is R1 r1 hs
        rcases sq with ⟨rfl, _⟩ | ⟨_, sq⟩
        · exact (hn rfl).elim
        · cases chg with
          | true => exact ⟨q, vs, rfl, sq, ref_new R1 rs.rev h1⟩
          | false => exact ⟨q, vs, rfl, sq, lst_new R1 rs.rev h1⟩
      · exact h1.elim
/-! ### methods of lists -/
def fApp : Nat → List D → AH → Res D := fun n ds A => match ds with
  | [x] => match A[n]? with
    | some (.lst xs) => if xs.length < 16777216 then .ok .non (A.set n (.lst (xs ++ [x]))) else .no
    | _ => .no
  | _ => .no
/-- a method of a changing list -/
def mMet (f : Nat → List D → AH → Res D) (mo : ME) (ms : MA) : ME := fun ρ A => (mo ρ A).bind fun d A1 => match d with
  | .ref n => (match A1[n]? with
    | some (.lst _) => (ms ρ A1).bind fun ds A2 => f n ds A2
    | _ => .no)
  | _ => .no
theorem Rel.lst {K : PySem.W.Frag} {m : Mp} {A : AH} {H : Hp} (R : Rel K m A H) {n : Nat} {q : Addr} {xs : List D} (hm : m.1[n]? = some q) (hA : A[n]? = some (.lst xs)) : ∃ vs, H q = some (.lst vs) ∧ RDs K m H xs vs := by
  obtain ⟨q2, h3, ws, h4, rw4⟩ := R.obj _ _ hA
  rw [hm] at h3; cases h3
  exact ⟨ws, h4, rw4⟩
theorem wr_lst {K : PySem.W.Frag} {m : Mp} {A : AH} {H : Hp} {σ : L2.St} {n : Nat} {q : Addr} {ds : List D} {vs : List V} {d : D} {v : V} {Q : VK} (R : Rel K m A H) (hn : m.1[n]? = some q) (r : RDs K m H ds vs) (rv : RD K m H d v)
    (h : Post K (RD K) W σ m H (.ok d (A.set n (.lst ds))) Q) : Q v (upd H q (.lst vs)) :=
  let ⟨R1, e1⟩ := R.write (H' := upd H q (.lst vs)) (o := .lst ds) hn (fun p u hp z => by rw [upd_ne hp]; exact z) fun e => ⟨vs, upd_same, RDs.mono e _ _ r⟩
  h m _ _ e1 R1 (RD.mono e1 _ _ rv)
theorem d_app {o : Expr} {mo : ME} {apos : Pos} (ho : DE X W o mo) (ha : DA X W [e] ms) (hb1 : attributeBase o "append" X.env (eval o X.env) = eval o X.env := by rfl)
    (hfew : ((backTo pos (starEach [e] X.env)).all (fun x => !x.1) && (backToKw pos (keywordEach [] X.env)).all (fun x => x.1.isSome)
      && decide ([e].length + ([] : List Keyword).length + (if ([] : List Keyword).isEmpty then 0 else 1) < 30)) = true := by rfl)
    (hline : (apos.endLine == pos.line) = true := by rfl) (hs : starEach [e] X.env = (false, eval e X.env) :: starEach [] X.env := by rfl) (hpl : (backTo pos (starEach [] X.env)).any (·.1) = false := by rfl) :
    DE X W (.Call (.Attribute o "append" apos) [e] [] pos) (mMet fApp mo ms) :=
  PEi (pe_bm PySem.F.plainAttrs_list PySem.F.slot_list_append PySem.F.type_list_append mt_append ho ha hb1 hfew hline hs hpl) fun σ H Q ⟨m, A, ρ, R, E, h⟩ => tE.bind R E h fun m1 A1 d v H1 e1 R1 E1 r1 h1 => by
    split at h1
    · rename_i n
      split at h1
      rotate_left
      · exact h1.elim
      rename_i xs0 hA0
      cases r1 with
      | ref hm =>
        rename_i q
        obtain ⟨ws, hw, _⟩ := R1.lst hm hA0
        refine ⟨.inl ⟨rfl, ws, .inl (.inl hw)⟩, tA.bind R1 E1 h1 fun m2 A2 ds vs H2 e2 R2 E2 r2 h2 => ?_⟩
        unfold fApp at h2
        split at h2
        · obtain ⟨y, rfl, ry⟩ := r2.one
          split at h2
          · rename_i xs hA
            split at h2
            · rename_i hz
              have hm2 := e2.get hm
              obtain ⟨us, h4, rw4⟩ := R2.lst hm2 hA
              exact ⟨q, us, y, rfl, rfl, h4, by rw [← rw4.length, sizeLine_eq]; exact hz, wr_lst R2 hm2 (rw4.append (.cons ry .nil)) .non h2⟩
            · exact h2.elim
          · exact h2.elim
        · exact h2.elim
    · exact h1.elim
/-- xs.pop() -/
def mPop (mo : ME) : ME := fun ρ A => (mo ρ A).bind fun d A1 => match d with
  | .ref n => match A1[n]? with
    | some (.lst xs) => match xs[xs.length - 1]? with
      | some x => .ok x (A1.set n (.lst xs.dropLast))
      | none => .no
    | _ => .no
  | _ => .no
theorem RDs.dropLast {K : PySem.W.Frag} {m : Mp} {H : Hp} {xs : List D} {vs : List V} (h : RDs K m H xs vs) : RDs K m H xs.dropLast vs.dropLast := by
  rw [List.dropLast_eq_take, List.dropLast_eq_take, ← h.length]
  exact h.take _
theorem d_pop {o : Expr} {mo : ME} {apos : Pos} (ho : DE X W o mo) (hb1 : attributeBase o "pop" X.env (eval o X.env) = eval o X.env := by rfl) (hline : (apos.endLine == pos.line) = true := by rfl) :
    DE X W (.Call (.Attribute o "pop" apos) [] [] pos) (mPop mo) :=
  PEi (pe_bm0 PySem.F.plainAttrs_list PySem.F.slot_list_pop PySem.F.type_list_pop mt_pop ho hb1 hline) fun σ H Q ⟨m, A, ρ, R, E, h⟩ => tE.bind R E h fun m1 A1 d v H1 e1 R1 E1 r1 h1 => by
    split at h1
    · rename_i n
      cases r1 with
      | ref hm =>
        rename_i q
        split at h1
        · rename_i xs hA
          split at h1
          · rename_i x hx
            obtain ⟨us, h4, rw4⟩ := R1.lst hm hA
            obtain ⟨y, h5, r5⟩ := rw4.get hx
            exact ⟨.inl ⟨rfl, us, .inl (.inl h4)⟩, q, us, y, rfl, rfl, h4, by rw [← rw4.length]; exact h5, wr_lst R1 hm rw4.dropLast r5 h1⟩
          · exact h1.elim
        · exact h1.elim
    · exact h1.elim
end
end DM
end
section
set_option maxHeartbeats 2000000
namespace DM
open PySem PySem.Spec PyProof.Rows L2
/-! ### statements -/
def lift {α : Type} (r : Res α) (ρ : Env) (k : α → AH → SRes) : SRes := match r with
  | .ok d A => k d A
  | .exc C fs A => .exc C fs ρ A
  | .no => .no
@[simp] theorem lift_ok {α : Type} (d : α) (A : AH) (ρ : Env) (k : α → AH → SRes) : lift (.ok d A) ρ k = k d A := rfl
@[simp] theorem lift_exc {α : Type} (C : Str) (fs : List (Str × D)) (A : AH) (ρ : Env) (k : α → AH → SRes) : lift (.exc C fs A) ρ k = .exc C fs ρ A := rfl
@[simp] theorem lift_no {α : Type} (ρ : Env) (k : α → AH → SRes) : lift .no ρ k = .no := rfl
section
variable {K : PySem.W.Frag} {W : WX} {σ : L2.St} {m : Mp} {A : AH} {ρ : Env} {H : Hp} {D0 : Ends}
theorem post_lift {α β : Type} {R0 : Mp → Hp → α → β → Prop} {r : Res α} {k : α → AH → SRes} {T : β → Hp → Prop} (E : REnv K m H ρ σ) (h : PostS K W m H (lift r ρ k) D0)
    (q : ∀ m1 A1 d v H1, Ext m H m1 H1 → Rel K m1 A1 H1 → R0 m1 H1 d v → PostS K W m1 H1 (k d A1) D0 → T v H1) : Post K R0 W σ m H r T := by
  cases r with
  | ok d A' => exact fun m' H' v e R' r' => q m' A' d v H' e R' r' (PostS.mono e h)
  | exc C fs A' => exact fun m' H' c dx e R' hc hx => h m' H' c dx σ e R' (E.mono e) hc hx
  | no => exact h
theorem tE.lift {me : ME} {k : D → AH → SRes} {T : V → Hp → Prop} (R : Rel K m A H) (E : REnv K m H ρ σ) (h : PostS K W m H (lift (me ρ A) ρ k) D0)
    (q : ∀ m1 A1 d v H1, Ext m H m1 H1 → Rel K m1 A1 H1 → REnv K m1 H1 ρ σ → RD K m1 H1 d v → PostS K W m1 H1 (k d A1) D0 → T v H1) : tE K W me σ H T :=
  ⟨m, A, ρ, R, E, post_lift E h fun m1 A1 d v H1 e R1 r p => q m1 A1 d v H1 e R1 (E.mono e) r p⟩
theorem tT.lift {me : MT} {k : Bool → AH → SRes} {T : Bool → Hp → Prop} (R : Rel K m A H) (E : REnv K m H ρ σ) (h : PostS K W m H (lift (me ρ A) ρ k) D0)
    (q : ∀ m1 A1 b H1, Ext m H m1 H1 → Rel K m1 A1 H1 → REnv K m1 H1 ρ σ → PostS K W m1 H1 (k b A1) D0 → T b H1) : tT K W me σ H T :=
  ⟨m, A, ρ, R, E, post_lift E h fun m1 A1 d v H1 e R1 r p => by subst r; exact q m1 A1 _ H1 e R1 (E.mono e) p⟩
theorem tA.lift {me : MA} {k : List D → AH → SRes} {T : List V → Hp → Prop} (R : Rel K m A H) (E : REnv K m H ρ σ) (h : PostS K W m H (lift (me ρ A) ρ k) D0)
    (q : ∀ m1 A1 ds vs H1, Ext m H m1 H1 → Rel K m1 A1 H1 → REnv K m1 H1 ρ σ → RDs K m1 H1 ds vs → PostS K W m1 H1 (k ds A1) D0 → T vs H1) : tA K W me σ H T :=
  ⟨m, A, ρ, R, E, post_lift E h fun m1 A1 d v H1 e R1 r p => q m1 A1 d v H1 e R1 (E.mono e) r p⟩
theorem PostS.nx (R : Rel K m A H) (E : REnv K m H ρ σ) (h : PostS K W m H (.nx ρ A) D0) : D0.nx σ H := h m H σ (Ext.refl m H) R E
theorem PostS.bk (R : Rel K m A H) (E : REnv K m H ρ σ) (h : PostS K W m H (.bk ρ A) D0) : D0.bk σ H := h m H σ (Ext.refl m H) R E
theorem PostS.ct (R : Rel K m A H) (E : REnv K m H ρ σ) (h : PostS K W m H (.ct ρ A) D0) : D0.ct σ H := h m H σ (Ext.refl m H) R E
theorem PostS.rt {d : D} {v : V} (R : Rel K m A H) (r : RD K m H d v) (h : PostS K W m H (.rt d A) D0) : D0.rt v H := h m H v (Ext.refl m H) R r
end
def mNext : MS := fun ρ A => .nx ρ A
def mSeq (a b : MS) : MS := fun ρ A => match a ρ A with
  | .nx ρ1 A1 => b ρ1 A1
  | r => r
def mDrop (me : ME) : MS := fun ρ A => lift (me ρ A) ρ fun _ A1 => .nx ρ A1
def mRet (me : ME) : MS := fun ρ A => lift (me ρ A) ρ fun d A1 => .rt d A1
def mIfS (mt : MT) (a b : MS) : MS := fun ρ A => lift (mt ρ A) ρ fun k A1 => if k = true then a ρ A1 else b ρ A1
def mSet (i : Nat) (me : ME) : MS := fun ρ A => lift (me ρ A) ρ fun d A1 => .nx (ρ.set i (some d)) A1
section
variable {X : Cx} {W : WX} {a b c e tg : Expr} {es : List Expr} {st : Stmt} {sts sts' : List Stmt} {ma mb mc me : ME} {mt mu : MT} {ms : MA} {sa sb : MS} {pos p p2 : Pos}
theorem s_nil : DSs X W [] mNext := PSsi pss_nil fun D σ H ⟨m, A, ρ, R, E, h⟩ => PostS.nx R E h
/-- behind a statement, the rest -/
theorem seqD {K : PySem.W.Frag} {t : TS} {D : Ends} {σ : L2.St} {H : Hp} (hs : ∀ D' : Ends, tS K W sa D' σ H → t D' σ H) (h : tS K W (mSeq sa sb) D σ H) : tSeq t (tS K W sb) D σ H := by
  obtain ⟨m, A, ρ, R, E, h⟩ := h
  refine hs _ ⟨m, A, ρ, R, E, ?_⟩
  unfold mSeq at h
  cases hr : sa ρ A with
  | nx ρ1 A1 => rw [hr] at h; exact fun m' H' σ' e R' E' => ⟨m', A1, ρ1, R', E', PostS.mono e h⟩
  | rt d A1 => rw [hr] at h; exact h
  | bk ρ1 A1 => rw [hr] at h; exact h
  | ct ρ1 A1 => rw [hr] at h; exact h
  | exc C fs ρ1 A1 => rw [hr] at h; exact h
  | no => rw [hr] at h; exact h
theorem s_cons (h1 : DS X W st sa) (h2 : DSs X W sts sb) : DSs X W (st :: sts) (mSeq sa sb) := PSsi (pss_cons h1 h2) fun _ _ _ h => seqD (fun _ q => q) h
theorem s_one (h1 : DS X W st sa) : DSs X W [st] sa := pss_one h1
theorem s_expr (he : DE X W e me) (hs : swapsWith e none pos.line X.env = pure false := by rfl) : DS X W (.Expr e pos) (mDrop me) :=
  PSi (ps_expr he hs) fun D σ H ⟨m, A, ρ, R, E, h⟩ => tE.lift R E h fun m1 A1 d v H1 e1 R1 E1 r1 h1 => PostS.nx R1 E1 h1
theorem s_ret (he : DE X W e me) : DS X W (.Return (some e) pos) (mRet me) :=
  PSi (ps_ret he) fun D σ H ⟨m, A, ρ, R, E, h⟩ => tE.lift R E h fun m1 A1 d v H1 e1 R1 E1 r1 h1 => PostS.rt R1 r1 h1
theorem s_if (hc : DT X W c mt) (ha : DSs X W sts sa) (hb : DSs X W sts' sb) : DS X W (.If c sts sts' pos) (mIfS mt sa sb) :=
  PSi (ps_if hc ha hb) fun D σ H ⟨m, A, ρ, R, E, h⟩ => tT.lift R E h fun m1 A1 k H1 e1 R1 E1 h1 => by
    cases k with
    | true => exact ⟨m1, A1, ρ, R1, E1, h1⟩
    | false => exact ⟨m1, A1, ρ, R1, E1, h1⟩
theorem setD {K : PySem.W.Frag} {t : TE} {D : Ends} {σ : L2.St} {H : Hp} {i : Nat} (ht : ∀ Q : VK, tE K W me σ H Q → t σ H Q) (h : tS K W (mSet i me) D σ H) : tAsg t (gName i) D σ H := by
  obtain ⟨m, A, ρ, R, E, h⟩ := h
  exact ht _ (tE.lift R E h fun m1 A1 d v H1 e1 R1 E1 r1 h1 => PostS.nx R1 (E1.set r1 i) h1)
theorem s_set {i : Nat} {x : Str} {pos' : Pos} (hN : X.N.Nodup) (he : DE X W e me) (hi : X.N[i]? = some x := by rfl) (hx : Loc X.env.scope x := by first | exact Or.inl rfl | exact Or.inr rfl) (hs : swapsWith e (some (.Name x pos')) pos.line X.env = pure false := by rfl)
    (hf : X.fn x = true ∨ X.env.scope.names.lookup x = some .local := by first | exact .inl rfl | exact .inr rfl | assumption) : DS X W (.Assign [.Name x pos'] e pos) (mSet i me) := PSi (ps_set hN hi hx he hs hf) fun _ _ _ h => setD (fun _ q => q) h
/-- x, y = a, b -/
def mPar2 (i j : Nat) (ms : MA) : MS := fun ρ A => lift (ms ρ A) ρ fun ds A1 => match ds with
  | [x, y] => .nx ((ρ.set i (some x)).set j (some y)) A1
  | _ => .no
def mPar3 (i j l : Nat) (ms : MA) : MS := fun ρ A => lift (ms ρ A) ρ fun ds A1 => match ds with
  | [x, y, z] => .nx (((ρ.set i (some x)).set j (some y)).set l (some z)) A1
  | _ => .no
theorem par2D {K : PySem.W.Frag} {i j : Nat} {D : Ends} {σ : L2.St} {H : Hp} (h : tS K W (mPar2 i j ms) D σ H) : tPar i j (tA K W ms) D σ H := by
  obtain ⟨m, A, ρ, R, E, h⟩ := h
  refine tA.lift R E h fun m1 A1 ds vs H1 e1 R1 E1 r1 h1 => ?_
  split at h1
  · cases r1 with
    | cons r1 q => cases q with
      | cons r2 q => cases q; exact ⟨_, _, rfl, PostS.nx R1 ((E1.set r1 i).set r2 j) h1⟩
  · exact h1.elim
/-! ### targets -/
inductive Tg where
  | nm (i : Nat) | tp (ts : List Tg)
mutual
def bindT : Tg → D → Env → Option Env
  | .nm i, d, ρ => some (ρ.set i (some d))
  | .tp ts, .tup ds, ρ => bindTs ts ds ρ
  | .tp ts, .qtup ds, ρ => bindTs ts ds ρ
  | .tp _, _, _ => none
def bindTs : List Tg → List D → Env → Option Env
  | [], [], ρ => some ρ
  | t :: ts, d :: ds, ρ => (bindT t d ρ).bind fun ρ1 => bindTs ts ds ρ1
  | _, _, _ => none
end
def outside (sl : List Nat) (σ σ' : L2.St) : Prop := σ'.length = σ.length ∧ ∀ i, i ∉ sl → σ'[i]? = σ[i]?
def GD (K : PySem.W.Frag) (sl : List Nat) (g : TG) (bt : D → Env → Option Env) : Prop :=
  ∀ (m : Mp) (H : Hp) (ρ : Env) (σ : L2.St) (d : D) (v : V) (Q : L2.St → Hp → Prop) (ρ' : Env), REnv K m H ρ σ → RD K m H d v → bt d ρ = some ρ' → (∀ σ', REnv K m H ρ' σ' → outside sl σ σ' → Q σ' H) → g v σ H Q
def GDs (K : PySem.W.Frag) (sl : List Nat) (g : TGs) (bt : List D → Env → Option Env) : Prop :=
  ∀ (m : Mp) (H : Hp) (ρ : Env) (σ : L2.St) (ds : List D) (vs : List V) (Q : L2.St → Hp → Prop) (ρ' : Env), REnv K m H ρ σ → RDs K m H ds vs → bt ds ρ = some ρ' → (∀ σ', REnv K m H ρ' σ' → outside sl σ σ' → Q σ' H) → g vs σ H Q
theorem outside.refl (sl : List Nat) (σ : L2.St) : outside sl σ σ := ⟨rfl, fun _ _ => rfl⟩
theorem outside.trans {sl : List Nat} {σ σ1 σ2 : L2.St} (a : outside sl σ σ1) (b : outside sl σ1 σ2) : outside sl σ σ2 := ⟨b.1.trans a.1, fun i hi => (b.2 i hi).trans (a.2 i hi)⟩
theorem g_nm {K : PySem.W.Frag} {sl : List Nat} {i : Nat} (hi : i ∈ sl) : GD K sl (gName i) (bindT (.nm i)) := by
  intro m H ρ σ d v Q ρ' E r hb h
  cases hb
  exact h _ (E.set r i) ⟨List.length_set .., fun j hj => List.getElem?_set_ne fun z => hj (by rw [← z]; exact hi)⟩
theorem gs_nil {K : PySem.W.Frag} {sl : List Nat} : GDs K sl gNil (bindTs []) := by
  intro m H ρ σ ds vs Q ρ' E r hb h
  cases ds with
  | nil => cases r; cases hb; exact ⟨rfl, h σ E (outside.refl sl σ)⟩
  | cons d ds => cases hb
theorem gs_cons {K : PySem.W.Frag} {sl : List Nat} {g : TG} {gs : TGs} {t : Tg} {ts : List Tg} (h1 : GD K sl g (bindT t)) (h2 : GDs K sl gs (bindTs ts)) : GDs K sl (gCons g gs) (bindTs (t :: ts)) := by
  intro m H ρ σ ds vs Q ρ' E r hb h
  cases ds with
  | nil => cases hb
  | cons d ds =>
    cases r with
    | cons r rs =>
      unfold bindTs at hb
      cases hb1 : bindT t d ρ with
      | none => rw [hb1] at hb; cases hb
      | some ρ1 =>
        rw [hb1] at hb
        exact ⟨_, _, rfl, h1 m H ρ σ d _ _ ρ1 E r hb1 fun σ1 E1 o1 => h2 m H ρ1 σ1 ds _ _ ρ' E1 rs hb fun σ2 E2 o2 => h σ2 E2 (o1.trans o2)⟩
theorem bindTs_len : ∀ (ts : List Tg) (ds : List D) (ρ ρ' : Env), bindTs ts ds ρ = some ρ' → ds.length = ts.length
  | [], [], _, _, _ => rfl
  | [], _ :: _, _, _, h => by cases h
  | t :: ts, [], _, _, h => by cases h
  | t :: ts, d :: ds, ρ, ρ', h => by
    unfold bindTs at h
    cases hb1 : bindT t d ρ with
    | none => rw [hb1] at h; cases h
    | some ρ1 =>
      rw [hb1] at h
      rw [List.length_cons, List.length_cons, bindTs_len ts ds ρ1 ρ' h]
theorem g_tp {K : PySem.W.Frag} {sl : List Nat} {gs : TGs} {ts : List Tg} {n : Nat} (hn : n = ts.length) (h1 : GDs K sl gs (bindTs ts)) : GD K sl (gTup K n gs) (bindT (.tp ts)) := by
  intro m H ρ σ d v Q ρ' E r hb h
  cases d with
  | tup ds =>
    cases r with
    | tup s r => exact ⟨_, _, rfl, s.sq, by rw [hn, ← r.length]; exact bindTs_len ts ds ρ ρ' hb, h1 m H ρ σ ds _ Q ρ' E r hb h⟩
  | qtup ds =>
    cases r with
    | qtup s n r => exact ⟨_, _, rfl, .inl s, by rw [hn, ← r.length]; exact bindTs_len ts ds ρ ρ' hb, h1 m H ρ σ ds _ Q ρ' E r hb h⟩
  | _ => cases hb
mutual
def gOf (K : PySem.W.Frag) : Tg → TG
  | .nm i => gName i
  | .tp ts => gTup K ts.length (gOfs K ts)
def gOfs (K : PySem.W.Frag) : List Tg → TGs
  | [] => gNil
  | t :: ts => gCons (gOf K t) (gOfs K ts)
end
mutual
def slots : Tg → List Nat
  | .nm i => [i]
  | .tp ts => slotss ts
def slotss : List Tg → List Nat
  | [] => []
  | t :: ts => slots t ++ slotss ts
end
mutual
theorem gOf_ok {K : PySem.W.Frag} {sl : List Nat} : ∀ t : Tg, (∀ i ∈ slots t, i ∈ sl) → GD K sl (gOf K t) (bindT t)
  | .nm i, h => by
    unfold gOf
    exact g_nm (h i (by simp [slots]))
  | .tp ts, h => by
    unfold gOf
    exact g_tp rfl (gOfs_ok ts fun i hi => h i (by simpa [slots] using hi))
theorem gOfs_ok {K : PySem.W.Frag} {sl : List Nat} : ∀ ts : List Tg, (∀ i ∈ slotss ts, i ∈ sl) → GDs K sl (gOfs K ts) (bindTs ts)
  | [], _ => by unfold gOfs; exact gs_nil
  | t :: ts, h => by
    unfold gOfs
    exact gs_cons (gOf_ok t fun i hi => h i (by simp [slotss, hi])) (gOfs_ok ts fun i hi => h i (by simp [slotss, hi]))
end
abbrev DG (X : Cx) (e : Expr) (t : Tg) : Prop := PG X e (gOf X.K t)
abbrev DGs (X : Cx) (es : List Expr) (ts : List Tg) : Prop := PGs X es (gOfs X.K ts)
theorem tg_nm {i : Nat} {x : Str} (hN : X.N.Nodup) (hi : X.N[i]? = some x := by rfl) (hx : Loc X.env.scope x := by first | exact Or.inl rfl | exact Or.inr rfl) (hf : X.fn x = true ∨ X.env.scope.names.lookup x = some .local := by first | exact .inl rfl | exact .inr rfl | assumption) :
    DG X (.Name x pos) (.nm i) := pg_name hN hi hx hf
theorem tgs_nil : DGs X [] [] := pgs_nil
theorem tgs_cons {t : Tg} {ts : List Tg} (h1 : DG X e t) (h2 : DGs X es ts) (hs : (assignEach (e :: es) X.env).map (·.2) = assign e X.env :: (assignEach es X.env).map (·.2) := by rfl) : DGs X (e :: es) (t :: ts) := pgs_cons h1 h2 hs
theorem tg_tp {ts : List Tg} {k : Nat} (hc : X.calm = true) (h : DGs X es ts) (hn : (assignEach es X.env).length = ts.length := by rfl) (hst : (assignEach es X.env).findIdx? (·.1) = none := by rfl) : DG X (.Tuple es k pos) (.tp ts) := pg_tup hc h hn hst
/-- target = e -/
def mAsg (t : Tg) (me : ME) : MS := fun ρ A => lift (me ρ A) ρ fun d A1 => match bindT t d ρ with
  | some ρ1 => .nx ρ1 A1
  | none => .no
theorem s_asg {t : Tg} (he : DE X W e me) (hg : DG X tg t) (hs : swapsWithSole [tg] e pos.line X.env = pure false := by rfl) (hw : swappedStores [tg] e X.env = pure none := by rfl) (h1 : (assignEach [tg] X.env).map (·.2) = [assign tg X.env] := by rfl) :
    DS X W (.Assign [tg] e pos) (mAsg t me) := PSi (ps_asg he hg hs hw h1) fun D σ H ⟨m, A, ρ, R, E, h⟩ => tE.lift R E h fun m1 A1 d v H1 e1 R1 E1 r1 h1 => by
  split at h1
  · rename_i ρ1 hb
    exact gOf_ok (sl := slots t) t (fun _ h => h) m1 H1 ρ σ d v _ ρ1 E1 r1 hb fun σ' E' _ => PostS.nx R1 E' h1
  · exact h1.elim
end
end DM
end
section
set_option maxHeartbeats 2000000
namespace DM
open PySem PySem.Spec PyProof.Rows L2
/-! ### what is walked -/
inductive ItV where
  | sq (d : D) | rng (lo hi : Int) | en (d : D) | zp (d e : D) | fd (n : Nat) (od : Obj) (ws : List (Key × V)) (kvs : List (Key × D))
/-- a key as data -/
def keyD : Key → D
  | .inl i => .int i
  | .inr x => .str x
/-- numbered -/
def enumD : Nat → List D → List D
  | _, [] => []
  | i, x :: xs => .qtup [.int (i : Nat), x] :: enumD (i + 1) xs
theorem enum_length : ∀ (xs : List D) (i : Nat), (enumD i xs).length = xs.length
  | [], _ => rfl
  | x :: xs, i => by rw [enumD, List.length_cons, enum_length xs, List.length_cons]
theorem enum_at : ∀ (xs : List D) (i j : Nat), (enumD i xs)[j]? = xs[j]?.map fun x => .qtup [.int ((i + j : Nat) : Int), x]
  | [], _, _ => rfl
  | x :: xs, i, 0 => rfl
  | x :: xs, i, j + 1 => by
    rw [enumD, List.getElem?_cons_succ, List.getElem?_cons_succ, enum_at xs, show i + 1 + j = i + (j + 1) by omega]
def zipD : List D → List D → List D
  | x :: xs, y :: ys => .qtup [x, y] :: zipD xs ys
  | _, _ => []
open Classical in
noncomputable def itemsOf (A : AH) : ItV → Option (List D)
  | .sq d => seqOf A d
  | .en d => (seqOf A d).map (enumD 0)
  | .zp d e => match seqOf A d, seqOf A e with
    | some xs, some ys => some (zipD xs ys)
    | _, _ => none
  | .rng lo hi => some ((List.range (hi - lo).toNat).map fun i => .int (lo + (i : Nat)))
  | .fd n od ws kvs => if A[n]? = some (.fk od ws kvs) then some (kvs.map fun kv => keyD kv.1) else none
structure Iter (K : PySem.W.Frag) (J : It) (m : Mp) (H : Hp) (iv : ItV) : Prop where
  go : ∀ (m' : Mp) (A' : AH) (H' : Hp) (all : List D) (i : Nat) (d : D), Ext m H m' H' → Rel K m' A' H' → itemsOf A' iv = some all → all[i]? = some d → J.go i H' ∧ ∀ x H'', J.yld i H' x H'' → Rel K m' A' H'' ∧ Ext m' H' m' H'' ∧ RD K m' H'' d x
  stop : ∀ (m' : Mp) (A' : AH) (H' : Hp) (all : List D) (i : Nat), Ext m H m' H' → Rel K m' A' H' → itemsOf A' iv = some all → all.length ≤ i → J.stop i H'
abbrev MI := Env → AH → Res ItV
def tI (K : PySem.W.Frag) (W : WX) (mi : MI) : TI := fun σ H Q => ∃ m A ρ, Rel K m A H ∧ REnv K m H ρ σ ∧ Post K (fun m' H' iv J => Iter K J m' H' iv) W σ m H (mi ρ A) Q
abbrev DI (X : Cx) (W : WX) (tg e : Expr) (mi : MI) : Prop := PI X tg e (tI X.K W mi)
theorem PIor {X : Cx} {tg e : Expr} {t t' u : TI} (h : PI X tg e t) (h' : PI X tg e t') (q : ∀ σ H R, u σ H R → t σ H R ∨ t' σ H R) : PI X tg e u := ⟨fun pins s σ H Q I w => (q σ H Q w).elim (h.run pins s σ H Q I) (h'.run pins s σ H Q I)⟩
theorem PIi {X : Cx} {tg e : Expr} {t u : TI} (h : PI X tg e t) (q : ∀ σ H R, u σ H R → t σ H R) : PI X tg e u := ⟨fun pins s σ H Q I w => h.run pins s σ H Q I (q σ H Q w)⟩
section
variable {X : Cx} {W : WX} {a b c e tg : Expr} {es : List Expr} {ma mb mc me : ME} {mt mu : MT} {ms : MA} {mi : MI} {sa sb : MS} {pos p p2 : Pos} {sts : List Stmt} {t : Tg}
theorem iter_list {K : PySem.W.Frag} {m : Mp} {A : AH} {H : Hp} {d : D} {q : Addr} (hd : isTup d = false) (r : RD K m H d (.ref q)) : Iter K (Itl K q) m H (.sq d) := by
  refine ⟨fun m' A' H' all i x e R hs hi => ?_, fun m' A' H' all i e R hs hl => ?_⟩
  · obtain ⟨q', vs, hq, rs, sq⟩ := seqOf_is R (RD.mono e _ _ r) hs
    cases hq
    rcases sq with ⟨rfl, _⟩ | ⟨_, sq⟩
    · cases hd
    · obtain ⟨v, h1, h2⟩ := rs.get hi
      refine ⟨⟨vs, v, sq, h1⟩, fun y H'' hy => ?_⟩
      obtain ⟨rfl, hy⟩ := hy
      have := hy vs sq
      rw [h1] at this; cases this
      exact ⟨R, Ext.refl _ _, h2⟩
  · obtain ⟨q', vs, hq, rs, sq⟩ := seqOf_is R (RD.mono e _ _ r) hs
    cases hq
    rcases sq with ⟨rfl, _⟩ | ⟨_, sq⟩
    · cases hd
    · exact ⟨vs, sq, by rw [← rs.length]; exact hl⟩
theorem iter_tup {K : PySem.W.Frag} {m : Mp} {A : AH} {H : Hp} {xs : List D} {q : Addr} (r : RD K m H (.tup xs) (.ref q)) : Iter K (Itt K q) m H (.sq (.tup xs)) := by
  refine ⟨fun m' A' H' all i x e R hs hi => ?_, fun m' A' H' all i e R hs hl => ?_⟩
  · cases hs
    cases RD.mono e _ _ r with
    | tup s rs =>
      obtain ⟨v, h1, h2⟩ := rs.get hi
      refine ⟨⟨_, v, s.sq, h1⟩, fun y H'' hy => ?_⟩
      obtain ⟨rfl, hy⟩ := hy
      have := hy _ s.sq
      rw [h1] at this; cases this
      exact ⟨R, Ext.refl _ _, h2⟩
  · cases hs
    cases RD.mono e _ _ r with
    | tup s rs => exact ⟨_, s.sq, by rw [← rs.length]; exact hl⟩
theorem iter_rng {K : PySem.W.Frag} {m : Mp} {H : Hp} {lo hi : Int} : Iter K (Itr lo (hi - lo).toNat) m H (.rng lo hi) := by
  refine ⟨fun m' A' H' all i x e R hs hx => ?_, fun m' A' H' all i e R hs hl => ?_⟩
  · cases hs
    have hlt : i < (hi - lo).toNat := by
      have := (List.getElem?_eq_some_iff.mp hx).1
      rw [List.length_map, List.length_range] at this
      exact this
    rw [List.getElem?_map, List.getElem?_range hlt] at hx
    cases hx
    refine ⟨hlt, fun y H'' hy => ?_⟩
    obtain ⟨rfl, rfl⟩ := hy
    exact ⟨R, Ext.refl _ _, .int _⟩
  · cases hs
    rw [List.length_map, List.length_range] at hl
    exact hl
theorem iter_enum {K : PySem.W.Frag} {m : Mp} {A : AH} {H : Hp} {d : D} {q : Addr} (hd : isTup d = false) (r : RD K m H d (.ref q)) : Iter K (Ite K q) m H (.en d) := by
  refine ⟨fun m' A' H' all i x e R hs hi => ?_, fun m' A' H' all i e R hs hl => ?_⟩
  · obtain ⟨xs, hs0, rfl⟩ := Option.map_eq_some_iff.mp hs
    obtain ⟨q', vs, hq, rs, sq⟩ := seqOf_is R (RD.mono e _ _ r) hs0
    cases hq
    rcases sq with ⟨rfl, _⟩ | ⟨_, sq⟩
    · cases hd
    · rw [enum_at] at hi
      obtain ⟨x0, hx0, rfl⟩ := Option.map_eq_some_iff.mp hi
      obtain ⟨v, h1, h2⟩ := rs.get hx0
      refine ⟨⟨vs, v, sq, h1⟩, fun y H'' hy => ?_⟩
      obtain ⟨T, v', rfl, hT, rfl, hy⟩ := hy
      have := hy vs sq
      rw [h1] at this; cases this
      obtain ⟨R1, e1⟩ := R.new hT (.tup [.int (i : Nat), v])
      refine ⟨R1, e1, ?_⟩
      rw [Nat.zero_add]
      exact .qtup (.inl upd_same) (R.out hT) (.cons (.int _) (.cons (RD.mono e1 _ _ h2) .nil))
  · obtain ⟨xs, hs0, rfl⟩ := Option.map_eq_some_iff.mp hs
    obtain ⟨q', vs, hq, rs, sq⟩ := seqOf_is R (RD.mono e _ _ r) hs0
    cases hq
    rcases sq with ⟨rfl, _⟩ | ⟨_, sq⟩
    · cases hd
    · exact ⟨vs, sq, by rw [enum_length] at hl; rw [← rs.length]; exact hl⟩
/-- enumerate(list) -/
def mEn (ms : MA) : MI := fun ρ A => (ms ρ A).bind fun ds A1 => match ds with
  | [d] => if isTup d = true then .no else (match seqOf A1 d with
    | some _ => .ok (.en d) A1
    | none => .no)
  | _ => .no
theorem i_en {elts : List Expr} {kk : Nat} {tpos : Pos} (hm : X.mg "enumerate" = none) (ha : DA X W [e] ms) (hg : Gl X "enumerate" := by rfl) (hs : starEach [e] X.env = [(false, eval e X.env)] := by rfl) : DI X W (.Tuple elts kk tpos) (.Call (.Name "enumerate" p) [e] [] pos) (mEn ms) :=
  PIi (pi_enum hg hm ha hs) fun σ H Q ⟨m, A, ρ, R, E, h⟩ => tA.bind R E h fun m1 A1 ds vs H1 e1 R1 E1 r1 h1 => by
    split at h1
    · rename_i d
      obtain ⟨v, rfl, r⟩ := r1.one
      split at h1
      · exact h1.elim
      · rename_i ht
        split at h1
        · rename_i xs hs
          obtain ⟨q, ws, rfl, rs, sq⟩ := seqOf_is R1 r hs
          have ht' : isTup d = false := by cases hh : isTup d <;> simp_all
          rcases sq with ⟨rfl, _⟩ | ⟨hd, sq⟩
          · cases ht'
          · exact ⟨q, ws, rfl, sq, Post.here R1 (iter_enum (A := A1) ht' r) h1⟩
        · exact h1.elim
    · exact h1.elim
def mSq (me : ME) : MI := fun ρ A => (me ρ A).bind fun d A1 => match seqOf A1 d with
  | some _ => .ok (.sq d) A1
  | none => .no
theorem i_sq (he : DE X W e me) : DI X W tg e (mSq me) := by
  refine PIor (pi_list he) (pi_tup he) fun σ H Q ⟨m, A, ρ, R, E, h⟩ => ?_
  by_cases ht : ∃ xs A1, me ρ A = .ok (.tup xs) A1
  · obtain ⟨xs, A1, ht⟩ := ht
    refine .inr ⟨m, A, ρ, R, E, ?_⟩
    have h' : Post X.K (fun m' H' iv J => Iter X.K J m' H' iv) W σ m H ((me ρ A).bind fun d A1 => match seqOf A1 d with | some _ => .ok (.sq d) A1 | none => .no) Q := h
    rw [ht] at h' ⊢
    intro m1 H1 v e1 R1 r1
    cases r1 with
    | tup s rs => exact ⟨_, rfl, ⟨_, s.sq⟩, h' m1 H1 _ e1 R1 (iter_tup (A := A1) (.tup s rs))⟩
  · refine .inl ⟨m, A, ρ, R, E, ?_⟩
    have h' : Post X.K (fun m' H' iv J => Iter X.K J m' H' iv) W σ m H ((me ρ A).bind fun d A1 => match seqOf A1 d with | some _ => .ok (.sq d) A1 | none => .no) Q := h
    cases hr : me ρ A with
    | ok d A1 =>
      rw [hr] at h'
      intro m1 H1 v e1 R1 r1
      rw [bind_ok] at h'
      split at h'
      · rename_i xs hs
        obtain ⟨q, vs, rfl, rs, sq⟩ := seqOf_is R1 r1 hs
        rcases sq with ⟨rfl, _⟩ | ⟨hd, sq⟩
        · exact (ht ⟨_, _, hr⟩).elim
        · exact ⟨q, rfl, ⟨vs, sq⟩, h' m1 H1 _ e1 R1 (iter_list (A := A1) hd r1)⟩
      · exact h'.elim
    | exc C fs A1 => rw [hr] at h'; exact h'
    | no => rw [hr] at h'; exact h'
/-- range(n), range(a, b) -/
def mR1 (ms : MA) : MI := fun ρ A => (ms ρ A).bind fun ds A1 => match ds with
  | [.int j] => if -(2 ^ 62) ≤ j ∧ j < 2 ^ 62 then .ok (.rng 0 j) A1 else .no
  | _ => .no
theorem i_r1 (hm : X.mg "range" = none) (ha : DA X W [a] ms) (hg : Gl X "range" := by rfl) (hs : starEach [a] X.env = [(false, eval a X.env)] := by rfl) : DI X W tg (.Call (.Name "range" p) [a] [] pos) (mR1 ms) :=
  PIi (pi_range1 hg hm ha hs) fun σ H Q ⟨m, A, ρ, R, E, h⟩ => tA.bind R E h fun m1 A1 ds vs H1 e1 R1 E1 r1 h1 => by
    split at h1
    · obtain ⟨v, rfl, r⟩ := r1.one
      cases r
      split at h1
      · rename_i j hj
        have z := iter_rng (K := X.K) (m := m1) (H := H1) (lo := 0) (hi := j)
        rw [Int.sub_zero] at z
        exact ⟨j, rfl, hj.1, hj.2, Post.here R1 z h1⟩
      · exact h1.elim
    · exact h1.elim
/-! ### for -/
open Classical in
noncomputable def forGo (iv : ItV) (all : List D) (t : Tg) (sb : MS) : List D → Env → AH → SRes
  | [], ρ, A => if itemsOf A iv = some all then .nx ρ A else .no
  | x :: xs, ρ, A => if itemsOf A iv = some all then (match bindT t x ρ with
    | some ρ1 => (match sb ρ1 A with
      | .nx ρ2 A2 => forGo iv all t sb xs ρ2 A2
      | .ct ρ2 A2 => forGo iv all t sb xs ρ2 A2
      | .bk ρ2 A2 => .nx ρ2 A2
      | .rt d A2 => .rt d A2
      | .exc C fs ρ2 A2 => .exc C fs ρ2 A2
      | .no => .no)
    | none => .no) else .no
noncomputable def mFor (mi : MI) (t : Tg) (sb : MS) : MS := fun ρ A => lift (mi ρ A) ρ fun iv A1 => match itemsOf A1 iv with
  | some all => forGo iv all t sb all ρ A1
  | none => .no
theorem s_for (hp : PassesOwn (model X.prog X.w) X.A X.env X.xe) (hc : X.calm = true) (hi : DI X W tg e mi) (hg : DG X tg t) (hb : DSs X W sts sb) (hs : ∀ x, foldedSetIterable e X.env x = pure x := by intro _; rfl) : DS X W (.For tg e sts [] pos) (mFor mi t sb) :=
  PSi (ps_for hp hc hi hg hb hs) fun D0 σ H ⟨m, A, ρ, R, E, h⟩ => by
    refine ⟨m, A, ρ, R, E, post_lift E h fun m1 A1 iv J H1 e1 R1 itr h1 => ?_⟩
    have E1 := E.mono e1
    split at h1
    · rename_i all hall
      refine ⟨fun i n σ' H' => n = all.length - i ∧ i ≤ all.length ∧ ∃ m' A' ρ', Ext m1 H1 m' H' ∧ Rel X.K m' A' H' ∧ REnv X.K m' H' ρ' σ' ∧ PostS X.K W m' H' (forGo iv all t sb (all.drop i) ρ' A') D0,
        ⟨all.length, by simp, Nat.zero_le _, m1, A1, ρ, Ext.refl _ _, R1, E1, by simpa using h1⟩, ?_⟩
      rintro i n σ' H' ⟨rfl, hi, m', A', ρ', e', R', E', h'⟩
      by_cases hlt : i < all.length
      · rw [List.drop_eq_getElem_cons hlt] at h'
        unfold forGo at h'
        split at h'
        · rename_i hit
          have go := itr.go m' A' H' all i _ e' R' hit (List.getElem?_eq_getElem hlt)
          refine .inr ⟨go.1, fun σ2 H2 => ∃ m2 A2 ρ2, Ext m1 H1 m2 H2 ∧ Rel X.K m2 A2 H2 ∧ REnv X.K m2 H2 ρ2 σ2 ∧ PostS X.K W m2 H2 (forGo iv all t sb (all.drop (i + 1)) ρ2 A2) D0,
            fun σ2 H2 h2 => ⟨all.length - (i + 1), by omega, rfl, hlt, h2⟩, fun x H2 hy => ?_⟩
          obtain ⟨R2, e2, rx⟩ := go.2 x H2 hy
          split at h'
          · rename_i ρ1 hb1
            refine gOf_ok (sl := slots t) t (fun _ h => h) m' H2 ρ' σ' _ x _ ρ1 (E'.mono e2) rx hb1 fun σ3 E3 _ => ⟨m', A', ρ1, R2, E3, ?_⟩
            cases hr : sb ρ1 A' with
            | nx ρ2 A2 => rw [hr] at h'; exact fun m3 H3 σ4 e3 R3 E4 => ⟨m3, A2, ρ2, (e'.trans e2).trans e3, R3, E4, PostS.mono (e2.trans e3) h'⟩
            | ct ρ2 A2 => rw [hr] at h'; exact fun m3 H3 σ4 e3 R3 E4 => ⟨m3, A2, ρ2, (e'.trans e2).trans e3, R3, E4, PostS.mono (e2.trans e3) h'⟩
            | bk ρ2 A2 => rw [hr] at h'; exact fun m3 H3 σ4 e3 R3 E4 => h' m3 H3 σ4 (e2.trans e3) R3 E4
            | rt d A2 => rw [hr] at h'; exact fun m3 H3 v e3 R3 r3 => h' m3 H3 v (e2.trans e3) R3 r3
            | exc C fs ρ2 A2 => rw [hr] at h'; exact fun m3 H3 dx gs σ4 e3 => h' m3 H3 dx gs σ4 (e2.trans e3)
            | no => rw [hr] at h'; exact h'
          · exact h'.elim
        · exact h'.elim
      · have hz : all.drop i = [] := List.drop_eq_nil_of_le (by omega)
        rw [hz] at h'
        unfold forGo at h'
        split at h'
        · rename_i hit
          exact .inl ⟨itr.stop m' A' H' all i e' R' hit (by omega), PostS.nx R' E' h'⟩
        · exact h'.elim
    · exact h1.elim
/-! ### while -/
def iterW (mt : MT) (sb : MS) : Nat → Env → AH → SRes
  | 0, _, _ => .no
  | n + 1, ρ, A => match mt ρ A with
    | .ok true A1 => (match sb ρ A1 with
      | .nx ρ2 A2 => iterW mt sb n ρ2 A2
      | .ct ρ2 A2 => iterW mt sb n ρ2 A2
      | .bk ρ2 A2 => .nx ρ2 A2
      | .rt d A2 => .rt d A2
      | .exc C fs ρ2 A2 => .exc C fs ρ2 A2
      | .no => .no)
    | .ok false A1 => .nx ρ A1
    | .exc C fs A1 => .exc C fs ρ A1
    | .no => .no
theorem iterW_more (mt : MT) (sb : MS) : ∀ (n : Nat) (ρ : Env) (A : AH), iterW mt sb n ρ A ≠ .no → iterW mt sb (n + 1) ρ A = iterW mt sb n ρ A
  | 0, _, _, h => (h rfl).elim
  | n + 1, ρ, A, h => by
    unfold iterW at h ⊢
    split
    · rename_i A1 ht
      rw [ht] at h
      simp only at h
      split
      · rename_i ρ2 A2 hb
        rw [hb] at h
        exact iterW_more mt sb n ρ2 A2 h
      · rename_i ρ2 A2 hb
        rw [hb] at h
        exact iterW_more mt sb n ρ2 A2 h
      · rfl
      · rfl
      · rfl
      · rfl
    · rfl
    · rfl
    · rfl
theorem iterW_le (mt : MT) (sb : MS) {n k : Nat} {ρ : Env} {A : AH} (h : iterW mt sb n ρ A ≠ .no) (hk : n ≤ k) : iterW mt sb k ρ A = iterW mt sb n ρ A := by
  induction k with
  | zero => cases Nat.le_zero.mp hk; rfl
  | succ k ih =>
    by_cases hz : n ≤ k
    · have q := ih hz
      rw [iterW_more mt sb k ρ A (by rw [q]; exact h), q]
    · have : n = k + 1 := by omega
      rw [this]
open Classical in
noncomputable def mWhile (mt : MT) (sb : MS) : MS := fun ρ A => if h : ∃ n, iterW mt sb n ρ A ≠ .no then iterW mt sb (Classical.choose h) ρ A else .no
theorem mWhile_eq {mt : MT} {sb : MS} {n : Nat} {ρ : Env} {A : AH} {r : SRes} (h : iterW mt sb n ρ A = r) (hr : r ≠ .no) : mWhile mt sb ρ A = r := by
  have hx : ∃ n, iterW mt sb n ρ A ≠ .no := ⟨n, by rw [h]; exact hr⟩
  unfold mWhile
  rw [dif_pos hx]
  have hs := Classical.choose_spec hx
  rcases Nat.le_total n (Classical.choose hx) with hle | hle
  · rw [iterW_le mt sb (by rw [h]; exact hr) hle, h]
  · rw [← iterW_le mt sb hs hle, h]
theorem s_while (hp : PassesOwn (model X.prog X.w) X.A X.env X.xe) (hc : DT X W c mt) (hb : DSs X W sts sb) : DS X W (.While c sts [] pos) (mWhile mt sb) :=
  PSi (ps_while hp hc hb) fun D0 σ H ⟨m, A, ρ, R, E, h⟩ => by
    unfold mWhile at h
    split at h
    · rename_i hx
      refine ⟨fun n σ' H' => ∃ m' A' ρ', Rel X.K m' A' H' ∧ REnv X.K m' H' ρ' σ' ∧ PostS X.K W m' H' (iterW mt sb n ρ' A') D0, ⟨_, m, A, ρ, R, E, h⟩, ?_⟩
      rintro n σ' H' ⟨m', A', ρ', R', E', h'⟩
      cases n with
      | zero => exact h'.elim
      | succ n =>
        unfold iterW at h'
        refine ⟨m', A', ρ', R', E', ?_⟩
        cases ht : mt ρ' A' with
        | ok k A1 =>
          rw [ht] at h'
          intro m1 H1 b e1 R1 hb
          subst hb
          have E1 := E'.mono e1
          cases k with
          | true =>
            rw [if_pos rfl]
            refine ⟨fun σ2 H2 => ∃ m2 A2 ρ2, Rel X.K m2 A2 H2 ∧ REnv X.K m2 H2 ρ2 σ2 ∧ PostS X.K W m2 H2 (iterW mt sb n ρ2 A2) D0, fun σ2 H2 h2 => ⟨n, Nat.lt_succ_self n, h2⟩, m1, A1, ρ', R1, E1, ?_⟩
            simp only at h'
            cases hr : sb ρ' A1 with
            | nx ρ2 A2 => rw [hr] at h'; exact fun m3 H3 σ4 e3 R3 E4 => ⟨m3, A2, ρ2, R3, E4, PostS.mono (e1.trans e3) h'⟩
            | ct ρ2 A2 => rw [hr] at h'; exact fun m3 H3 σ4 e3 R3 E4 => ⟨m3, A2, ρ2, R3, E4, PostS.mono (e1.trans e3) h'⟩
            | bk ρ2 A2 => rw [hr] at h'; exact fun m3 H3 σ4 e3 R3 E4 => h' m3 H3 σ4 (e1.trans e3) R3 E4
            | rt d A2 => rw [hr] at h'; exact fun m3 H3 v e3 R3 r3 => h' m3 H3 v (e1.trans e3) R3 r3
            | exc C fs ρ2 A2 => rw [hr] at h'; exact fun m3 H3 dx gs σ4 e3 => h' m3 H3 dx gs σ4 (e1.trans e3)
            | no => rw [hr] at h'; exact h'
          | false =>
            rw [if_neg (by decide)]
            exact PostS.nx R1 E1 (PostS.mono e1 h')
        | exc C fs A1 =>
          rw [ht] at h'
          exact fun m1 H1 dx gs e1 R1 hd hf => h' m1 H1 dx gs σ' e1 R1 (E'.mono e1) hd hf
        | no => rw [ht] at h'; exact h'
    · exact h.elim
end
end DM
end
section
set_option maxHeartbeats 2000000
namespace DM
open PySem PySem.Spec PyProof.Rows L2
/-! ### comprehensions -/
def wipeD (ρ : Env) : List Nat → Env
  | [] => ρ
  | v :: vs => (wipeD ρ vs).set v none
theorem REnv.wipe {K : PySem.W.Frag} {m : Mp} {H : Hp} {ρ : Env} {σ : L2.St} (h : REnv K m H ρ σ) : ∀ vs : List Nat, REnv K m H (wipeD ρ vs) (L2.wipe σ vs)
  | [] => h
  | v :: vs => (REnv.wipe h vs).unset v none
theorem wipe_at {σ : L2.St} {i : Nat} : ∀ {vs : List Nat}, (L2.wipe σ vs)[i]? = if i ∈ vs then (if i < σ.length then some none else none) else σ[i]?
  | [] => by simp [L2.wipe]
  | v :: vs => by
    unfold L2.wipe
    have ih := wipe_at (σ := σ) (i := i) (vs := vs)
    have hl := L2.wipe_length σ vs
    by_cases hv : v = i
    · subst hv
      by_cases hl2 : v < σ.length
      · rw [List.getElem?_set_self (by rw [hl]; exact hl2)]
        simp [hl2]
      · rw [List.getElem?_eq_none (by rw [List.length_set, hl]; omega)]
        simp [hl2]
    · rw [List.getElem?_set_ne hv, ih]
      have : (i ∈ v :: vs) ↔ i ∈ vs := by simp [Ne.symm hv]
      simp only [this]
theorem wipe_same {σ σ2 : L2.St} {vs sl : List Nat} (h : outside sl (L2.wipe σ vs) σ2) (hs : ∀ i ∈ sl, i ∈ vs) : L2.wipe σ2 vs = L2.wipe σ vs := by
  have hl : σ2.length = σ.length := h.1.trans (L2.wipe_length σ vs)
  refine List.ext_getElem? fun i => ?_
  rw [wipe_at, wipe_at]
  by_cases hi : i ∈ vs
  · rw [if_pos hi, if_pos hi, hl]
  · rw [if_neg hi, if_neg hi, h.2 i fun z => hi (hs i z), wipe_at, if_neg hi]
theorem RD.less {K : PySem.W.Frag} {m m' : Mp} {H : Hp} (h1 : m'.1 = m.1) (h2 : ∀ p ∈ m'.2, p ∈ m.2) (d : D) (v : V) (h : RD K m H d v) : RD K m' H d v :=
  RD.move (fun i a e => by rw [h1]; exact e) (fun a o e n => ⟨e, fun y => n.1 (by rw [← h1]; exact y), fun y => n.2 (h2 _ y)⟩) d v h
theorem RDs.less {K : PySem.W.Frag} {m m' : Mp} {H : Hp} (h1 : m'.1 = m.1) (h2 : ∀ p ∈ m'.2, p ∈ m.2) (d : List D) (v : List V) (h : RDs K m H d v) : RDs K m' H d v :=
  RDs.move (fun i a e => by rw [h1]; exact e) (fun a o e n => ⟨e, fun y => n.1 (by rw [← h1]; exact y), fun y => n.2 (h2 _ y)⟩) d v h
theorem grow_r {m : Mp} {pv : List Addr} {q : Addr} (i : Nat) (a : Addr) (h : m.1[i]? = some a) : (m.1 ++ [q], pv).1[i]? = some a := by
  show (m.1 ++ [q])[i]? = _
  rw [List.getElem?_append_left (List.getElem?_eq_some_iff.mp h).1]; exact h
theorem grow_o {m : Mp} {pv : List Addr} {q : Addr} {H : Hp} (hq : q ∈ m.2) (h2 : ∀ p ∈ pv, p ∈ m.2) (a : Addr) (o : HO) (e : H a = some o) (n : Out m a) : H a = some o ∧ Out (m.1 ++ [q], pv) a := by
  refine ⟨e, fun y => ?_, fun y => n.2 (h2 _ y)⟩
  rcases List.mem_append.mp y with y | y
  · exact n.1 y
  · exact n.2 (by rw [List.mem_singleton.mp y]; exact hq)
theorem RD.grow {K : PySem.W.Frag} {m : Mp} {pv : List Addr} {q : Addr} {H : Hp} (hq : q ∈ m.2) (h2 : ∀ p ∈ pv, p ∈ m.2) (d : D) (v : V) (h : RD K m H d v) : RD K (m.1 ++ [q], pv) H d v := RD.move grow_r (grow_o hq h2) d v h
theorem RDs.grow {K : PySem.W.Frag} {m : Mp} {pv : List Addr} {q : Addr} {H : Hp} (hq : q ∈ m.2) (h2 : ∀ p ∈ pv, p ∈ m.2) (d : List D) (v : List V) (h : RDs K m H d v) : RDs K (m.1 ++ [q], pv) H d v := RDs.move grow_r (grow_o hq h2) d v h
theorem Rel.less {K : PySem.W.Frag} {m m' : Mp} {A : AH} {H : Hp} (h1 : m'.1 = m.1) (h2 : ∀ p ∈ m'.2, p ∈ m.2) (R : Rel K m A H) : Rel K m' A H := by
  refine ⟨by rw [h1]; exact R.len, by rw [h1]; exact R.nd, fun p hp => R.pv p (h2 p hp), fun n o hn => ?_⟩
  obtain ⟨q, h3, h4⟩ := R.obj n o hn
  exact ⟨q, by rw [h1]; exact h3, h4.move (fun i a e => by rw [h1]; exact e) (fun a o e n => ⟨e, fun y => n.1 (by rw [← h1]; exact y), fun y => n.2 (h2 _ y)⟩) rfl⟩
theorem past_o {m : Mp} {H : Hp} {q : Addr} {o : HO} (hq : q ∈ m.2) (a : Addr) (u : HO) (e : H a = some u) (n : Out m a) : upd H q o a = some u ∧ Out m a :=
  ⟨by rw [upd_ne fun z => n.2 (by rw [z]; exact hq)]; exact e, n⟩
theorem RD.past {K : PySem.W.Frag} {m : Mp} {H : Hp} {q : Addr} {o : HO} (hq : q ∈ m.2) (d : D) (v : V) (h : RD K m H d v) : RD K m (upd H q o) d v := RD.move (fun _ _ e => e) (past_o hq) d v h
theorem RDs.past {K : PySem.W.Frag} {m : Mp} {H : Hp} {q : Addr} {o : HO} (hq : q ∈ m.2) (d : List D) (v : List V) (h : RDs K m H d v) : RDs K m (upd H q o) d v := RDs.move (fun _ _ e => e) (past_o hq) d v h
theorem Rel.past {K : PySem.W.Frag} {m : Mp} {A : AH} {H : Hp} {q : Addr} {o : HO} (hq : q ∈ m.2) (hn : q ∉ m.1) (R : Rel K m A H) : Rel K m A (upd H q o) := by
  refine ⟨R.len, R.nd, fun p hp z => ?_, fun n u hu => ?_⟩
  · by_cases hpq : p = q
    · rw [hpq, upd_same] at z; cases z
    · rw [upd_ne hpq] at z; exact R.pv p hp z
  · obtain ⟨p, h3, h4⟩ := R.obj n u hu
    have hpq : p ≠ q := fun y => hn (by rw [← y]; exact List.mem_of_getElem? h3)
    exact ⟨p, h3, h4.move (fun _ _ e => e) (past_o hq) (upd_ne hpq)⟩
open Classical in
noncomputable def compGo (iv : ItV) (all : List D) (t : Tg) (tt : MT) (me : ME) (ρ : Env) : List D → List D → AH → Res (List D)
  | [], acc, A => if itemsOf A iv = some all then .ok acc A else .no
  | x :: xs, acc, A => if itemsOf A iv = some all then (match bindT t x ρ with
    | some ρ1 => (match tt ρ1 A with
      | .ok true A1 => (match me ρ1 A1 with
        | .ok y A2 => compGo iv all t tt me ρ xs (acc ++ [y]) A2
        | _ => .no)
      | .ok false A1 => compGo iv all t tt me ρ xs acc A1
      | _ => .no)
    | none => .no) else .no
/-- chg: the new list will change -/
noncomputable def mLc (chg : Bool) (mi : MI) (t : Tg) (tt : MT) (me : ME) (vs : List Nat) : ME := fun ρ A => (mi ρ A).bind fun iv A1 => match itemsOf A1 iv with
  | some all => if all.length ≤ 16777216 then (compGo iv all t tt me (wipeD ρ vs) all [] A1).bind fun acc A2 => if chg = true then .ok (.ref A2.length) (A2 ++ [.lst acc]) else .ok (.lst acc) A2 else .no
  | none => .no
def mYes : MT := fun _ A => .ok true A
abbrev WNo : WX := fun _ _ _ _ => False
section
variable {X : Cx} {W : WX} {a b c e tg iter elt : Expr} {es : List Expr} {ma mb mc me : ME} {mt mu tt : MT} {ms mk : MA} {mi : MI} {sa sb : MS} {pos p p2 : Pos} {sts ifs : List Expr} {t : Tg}
def tTs (K : PySem.W.Frag) (mt : MT) : TT := tT K WNo mt
theorem l_nil : PTs X [] (tTs X.K mYes) := ⟨fun pins s σ H Q I ⟨m, A, ρ, R, E, h⟩ => pts_nil.run pins s σ H Q I (Post.here R rfl h)⟩
theorem l_one (h : DT X WNo c mt) : PTs X [c] (tTs X.K mt) := pts_one h
theorem lcD {K : PySem.W.Frag} {vs : List Nat} {chg : Bool} (hsl : ∀ i ∈ slots t, i ∈ vs) {σ : L2.St} {H : Hp} {Q : VK} (h : tE K W (mLc chg mi t tt me vs) σ H Q) : tLc (tI K W mi) (gOf K t) (tTs K tt) (tE K WNo me) vs σ H Q := by
  obtain ⟨m, A, ρ, R, E, h⟩ := h
  refine ⟨m, A, ρ, R, E, Post.imp (Post.bind (R := fun m' H' iv J => Iter K J m' H' iv) h) fun J H1 ⟨m1, A1, iv, e1, R1, itr, h1⟩ Dl hD => ?_⟩
  have E1 := E.mono e1
  split at h1
  rotate_left
  · exact h1.elim
  rename_i all hall
  split at h1
  rotate_left
  · exact h1.elim
  rename_i hz
  have hout := R1.out hD
  -- the state between two turns
  refine ⟨fun i n H' => n = all.length - i ∧ i ≤ all.length ∧ ∃ (m' : Mp) (A' : AH) (acc : List D) (us : List V), Dl ∈ m'.2 ∧ Dl ∉ m'.1 ∧ Ext m1 H1 m' H' ∧ Rel K m' A' H' ∧ H' Dl = some (.lst us) ∧ RDs K m' H' acc us ∧ acc.length ≤ i ∧
      Post K (RD K) W σ m1 H1 ((compGo iv all t tt me (wipeD ρ vs) (all.drop i) acc A').bind fun acc A2 => if chg = true then .ok (.ref A2.length) (A2 ++ [.lst acc]) else .ok (.lst acc) A2) Q, ?_, ?_⟩
  · refine ⟨all.length, by simp, Nat.zero_le _, (m1.1, Dl :: m1.2), A1, [], [], List.mem_cons_self, hout.1, ?_, ?_, upd_same, .nil, Nat.le_refl _, by simpa using h1⟩
    · refine ⟨⟨[], (List.append_nil _).symm⟩, fun p hp => List.mem_cons_of_mem _ hp, fun p hp => ?_, fun p hp => .inl hp, fun p o ho hn => by rw [upd_ne (ne_of_none ho hD)]; exact ho⟩
      rcases List.mem_cons.mp hp with z | z
      · exact .inr (.inr (by rw [z]; exact hD))
      · exact .inl z
    · have e2 : Ext m1 H1 (m1.1, Dl :: m1.2) (upd H1 Dl (.lst [])) := by
        refine ⟨⟨[], (List.append_nil _).symm⟩, fun p hp => List.mem_cons_of_mem _ hp, fun p hp => ?_, fun p hp => .inl hp, fun p o ho hn => by rw [upd_ne (ne_of_none ho hD)]; exact ho⟩
        rcases List.mem_cons.mp hp with z | z
        · exact .inr (.inr (by rw [z]; exact hD))
        · exact .inl z
      refine ⟨R1.len, R1.nd, fun p hp z => ?_, fun n o hn => ?_⟩
      · rcases List.mem_cons.mp hp with y | y
        · rw [y, upd_same] at z; cases z
        · by_cases hpq : p = Dl
          · rw [hpq, upd_same] at z; cases z
          · rw [upd_ne hpq] at z; exact R1.pv p y z
      · obtain ⟨q, h3, h4⟩ := R1.obj n o hn
        refine ⟨q, h3, h4.keep e2 ?_⟩
        rw [upd_ne fun y => hout.1 (by rw [← y]; exact List.mem_of_getElem? h3)]
  · rintro i n H' ⟨rfl, hi, m', A', acc, us, hp2, hp1, e', R', hDl, ra, hal, h'⟩
    by_cases hlt : i < all.length
    · rw [List.drop_eq_getElem_cons hlt] at h'
      unfold compGo at h'
      split at h'
      rotate_left
      · exact h'.elim
      rename_i hit
      have go := itr.go m' A' H' all i _ e' R' hit (List.getElem?_eq_getElem hlt)
      refine .inr ⟨go.1, fun H2 => ∃ (m' : Mp) (A' : AH) (acc : List D) (us : List V), Dl ∈ m'.2 ∧ Dl ∉ m'.1 ∧ Ext m1 H1 m' H2 ∧ Rel K m' A' H2 ∧ H2 Dl = some (.lst us) ∧ RDs K m' H2 acc us ∧ acc.length ≤ i + 1 ∧
        Post K (RD K) W σ m1 H1 ((compGo iv all t tt me (wipeD ρ vs) (all.drop (i + 1)) acc A').bind fun acc A2 => if chg = true then .ok (.ref A2.length) (A2 ++ [.lst acc]) else .ok (.lst acc) A2) Q,
        fun H2 h2 => ⟨all.length - (i + 1), by omega, rfl, hlt, h2⟩, fun x H2 hy => ?_⟩
      obtain ⟨R2, e2, rx⟩ := go.2 x H2 hy
      have hD2 : H2 Dl = some (.lst us) := e2.keep Dl _ hDl hp1
      split at h'
      rotate_left
      · exact h'.elim
      rename_i ρ1 hb1
      refine gOf_ok (sl := slots t) t (fun _ h => h) m' H2 _ _ _ x _ ρ1 ((E1.wipe vs).mono (e'.trans e2)) rx hb1 fun σ3 E3 o3 => ⟨wipe_same o3 hsl, m', A', ρ1, R2, E3, ?_⟩
      split at h'
      · rename_i A2 htt
        rw [htt]
        intro m3 H3 k e3 R3 hk
        subst hk
        have h31 : Dl ∉ m3.1 := fun z => (e3.new _ z).elim hp1 fun y => by rw [hD2] at y; cases y
        rw [if_pos rfl]
        refine ⟨m3, A2, ρ1, R3, E3.mono e3, ?_⟩
        split at h'
        rotate_left
        · exact h'.elim
        rename_i y A3 hme
        rw [hme]
        intro m4 H4 v e4 R4 r4
        have hD4 : H4 Dl = some (.lst us) := e4.keep Dl _ (e3.keep Dl _ hD2 hp1) h31
        have h41 : Dl ∉ m4.1 := fun z => (e4.new _ z).elim h31 fun y => by rw [e3.keep Dl _ hD2 hp1] at y; cases y
        have h42 : Dl ∈ m4.2 := e4.sub _ (e3.sub _ hp2)
        have et := (e2.trans e3).trans e4
        refine ⟨us, hD4, by rw [← ra.length, sizeLine_eq]; omega, m4, A3, acc ++ [y], us ++ [v], h42, h41, ?_, R4.past h42 h41, upd_same, RDs.past h42 _ _ ((RDs.mono et _ _ ra).append (.cons r4 .nil)), by rw [List.length_append]; simp; omega, h'⟩
        have ez := e'.trans et
        exact ⟨ez.pre, ez.sub, ez.pvs, ez.new, fun p o ho hn => by
          rw [upd_ne (ne_of_none ho hD)]
          exact ez.keep p o ho hn⟩
      · rename_i A2 htt
        rw [htt]
        intro m3 H3 k e3 R3 hk
        subst hk
        have h31 : Dl ∉ m3.1 := fun z => (e3.new _ z).elim hp1 fun y => by rw [hD2] at y; cases y
        rw [if_neg (by decide)]
        exact ⟨m3, A2, acc, us, e3.sub _ hp2, h31, (e'.trans e2).trans e3, R3, e3.keep Dl _ hD2 hp1, RDs.mono (e2.trans e3) _ _ ra, by omega, h'⟩
      · exact h'.elim
    · have hnil : all.drop i = [] := List.drop_eq_nil_of_le (by omega)
      rw [hnil] at h'
      unfold compGo at h'
      split at h'
      rotate_left
      · exact h'.elim
      rename_i hit
      refine .inl ⟨itr.stop m' A' H' all i e' R' hit (by omega), ?_⟩
      rw [bind_ok] at h'
      have sub2 : ∀ p ∈ m1.2, p ∈ m'.2 := e'.sub
      cases chg with
      | false =>
        have eF : Ext m1 H1 (m'.1, m1.2) H' := ⟨e'.pre, fun _ h => h, fun _ h => .inl h, e'.new, e'.keep⟩
        exact h' (m'.1, m1.2) H' _ eF (Rel.less (m := m') (m' := (m'.1, m1.2)) rfl sub2 R') (.lst (.inl ⟨.inl hDl, hp1, hout.2⟩) (RDs.less (m := m') (m' := (m'.1, m1.2)) rfl sub2 _ _ ra))
      | true =>
        obtain ⟨l, hl⟩ := e'.pre
        have eF : Ext m1 H1 (m'.1 ++ [Dl], m1.2) H' := by
          refine ⟨⟨l ++ [Dl], by show m'.1 ++ [Dl] = _; rw [hl, List.append_assoc]⟩, fun _ h => h, fun _ h => .inl h, fun p hp => ?_, e'.keep⟩
          rcases List.mem_append.mp hp with z | z
          · exact e'.new p z
          · exact .inr (by rw [List.mem_singleton.mp z]; exact hD)
        refine h' (m'.1 ++ [Dl], m1.2) H' (.ref Dl) eF ?_ (.ref (by show (m'.1 ++ [Dl])[A'.length]? = some Dl; rw [← R'.len]; simp))
        refine ⟨by rw [List.length_append, List.length_append, R'.len]; rfl, List.nodup_append.mpr ⟨R'.nd, by simp, fun x hx y hy z => hp1 (by rw [← List.mem_singleton.mp hy, ← z]; exact hx)⟩, fun p hp => R'.pv p (sub2 p hp), fun n o hn => ?_⟩
        by_cases hlen : n < A'.length
        · rw [List.getElem?_append_left hlen] at hn
          obtain ⟨q, h3, h4⟩ := R'.obj n o hn
          refine ⟨q, by show (m'.1 ++ [Dl])[n]? = some q; rw [List.getElem?_append_left (by rw [R'.len]; exact hlen)]; exact h3, ?_⟩
          exact h4.move grow_r (grow_o hp2 sub2) rfl
        · rw [List.getElem?_append_right (by omega)] at hn
          have h0 : n - A'.length = 0 := by
            have := (List.getElem?_eq_some_iff.mp hn).1
            simp at this; omega
          rw [h0] at hn
          cases hn
          refine ⟨Dl, ?_, us, hDl, RDs.grow hp2 sub2 _ _ ra⟩
          show (m'.1 ++ [Dl])[n]? = some Dl
          rw [List.getElem?_append_right (by rw [R'.len]; omega), R'.len, h0]; rfl
end
end DM
end
section
set_option maxHeartbeats 2000000
namespace DM
open PySem PySem.Spec PyProof.Rows L2
section
variable {X : Cx} {W : WX} {a b c e tg iter elt : Expr} {es ifs : List Expr} {ma mb mc me : ME} {mt mu tt : MT} {ms mk : MA} {mi : MI} {sa sb : MS} {pos p p2 : Pos} {t : Tg}
theorem d_lc {scope : Scope} (chg : Bool) (own : List (Str × Nat)) (hc : X.calm = true) (hN : X.N.Nodup) (hi : DI X W tg iter mi) (ok : BlkOk X.N X.env.scope scope own)
    (hg : ∀ (s : Shared) (H : Hp) (C : Addr) (cl : List (Str × Addr)) (fp : List Addr), DG (X.blk s H scope (compEnvC scope cl C X.env) fp) tg t)
    (ht : ∀ (s : Shared) (H : Hp) (C : Addr) (cl : List (Str × Addr)) (fp : List Addr), PTs (X.blk s H scope (compEnvC scope cl C X.env) fp) ifs (tTs X.K tt))
    (he : ∀ (s : Shared) (H : Hp) (C : Addr) (cl : List (Str × Addr)) (fp : List Addr), DE (X.blk s H scope (compEnvC scope cl C X.env) fp) WNo elt me)
    {sl : List Nat} (hsl : ∀ i ∈ slots t, i ∈ sl) (ho : own.map (·.2) = sl := by rfl) (hs : ∀ x, foldedSetIterable iter X.env x = pure x := by intro _; rfl) : DE X W (.ListComp elt [⟨tg, iter, ifs, 0⟩] scope pos) (mLc chg mi t tt me sl) := by
  subst ho
  exact PEi (pe_lc hc hN hi ok hg ht he hs) fun _ _ _ h => lcD hsl h
theorem s_setLc {i : Nat} {y : Str} {py spos : Pos} {scope : Scope} (chg : Bool) (own : List (Str × Nat)) (hc : X.calm = true) (hN : X.N.Nodup) (hy : X.N[i]? = some y) (hyl : X.env.scope.names.lookup y = some .local)
    (hsw : swapsWith (.ListComp elt [⟨tg, iter, ifs, 0⟩] scope pos) (some (.Name y py)) spos.line X.env = pure true) (hi : DI X W tg iter mi) (ok : BlkOk X.N X.env.scope scope own)
    (hg : ∀ (s : Shared) (H : Hp) (C : Addr) (cl : List (Str × Addr)) (fp : List Addr), DG (X.blk s H scope (compEnvC scope cl C X.env) fp) tg t)
    (ht : ∀ (s : Shared) (H : Hp) (C : Addr) (cl : List (Str × Addr)) (fp : List Addr), PTs (X.blk s H scope (compEnvC scope cl C X.env) fp) ifs (tTs X.K tt))
    (he : ∀ (s : Shared) (H : Hp) (C : Addr) (cl : List (Str × Addr)) (fp : List Addr), DE (X.blk s H scope (compEnvC scope cl C X.env) fp) WNo elt me)
    {sl : List Nat} (hsl : ∀ i ∈ slots t, i ∈ sl) (ho : own.map (·.2) = sl := by rfl) (hs : ∀ x, foldedSetIterable iter X.env x = pure x := by intro _; rfl) : DS X W (.Assign [.Name y py] (.ListComp elt [⟨tg, iter, ifs, 0⟩] scope pos) spos) (mSet i (mLc chg mi t tt me sl)) := by
  subst ho
  exact PSi (ps_setLc hc hN hy hyl hsw hi ok hg ht he hs) fun _ _ _ h => setD (fun _ q => lcD hsl q) h
theorem s_par2 {i j : Nat} {x y : Str} {px py pt : Pos} {kt k2 : Nat} {pt2 : Pos} (hc : X.calm = true) (hN : X.N.Nodup) (hi : X.N[i]? = some x) (hj : X.N[j]? = some y) (hij : i ≠ j) (hx : X.env.scope.names.lookup x = some .local) (hy : X.env.scope.names.lookup y = some .local)
    (ha : DA X W [a, b] ms) (hw : swappedStores [.Tuple [.Name x px, .Name y py] kt pt] (.Tuple [a, b] k2 pt2) X.env = pure (some [x, y]))
    (hs : swapsWithSole [.Tuple [.Name x px, .Name y py] kt pt] (.Tuple [a, b] k2 pt2) pos.line X.env = pure false := by rfl) :
    DS X W (.Assign [.Tuple [.Name x px, .Name y py] kt pt] (.Tuple [a, b] k2 pt2) pos) (mPar2 i j ms) := PSi (ps_par hc hN hi hj hij hx hy ha hw hs) fun _ _ _ h => par2D h
/-! ### x += e -/
end
/-! ### defs -/
def spD (K : PySem.W.Frag) (n : Nat) (mf : List D → AH → Res D) : Sp := fun vs H Q E => vs.length = n ∧ ∃ m A ds, Rel K m A H ∧ RDs K m H ds vs ∧ Post K (RD K) (fun c d _ H' => E c d H') [] m H (mf ds A) Q
structure FnD (P : Program) (w : World) (K : PySem.W.Frag) (mg : Str → Option Value) (base : Heap) (k : Nat) (f : Addr) (fd : FuncData) (ps : List Str) (mf : List D → AH → Res D) : Prop where
  run : ∀ (A : Around) (outer : List PySem.Env) (s : Shared) (H : Hp) (args : Args) (us : List Value) (vs : List V) (Q : VK) (E : XK), Room k A → A.guards = some [] → Env0 P w K mg base A outer s H → BindsTo s fd args (ps.zip us) → Vals vs us →
    spD K ps.length mf vs H Q E → codeAny (model P w) A (.call (.ref f) args) (CR (L2.CX P w) outer P w H s Q E) s
def mFun (n : Nat) (ms : MS) : List D → AH → Res D := fun ds A => match ms (ds.map some ++ List.replicate (n - ds.length) none) A with
  | .nx _ A1 => .ok .non A1
  | .rt d A1 => .ok d A1
  | .exc C fs _ A1 => .exc C fs A1
  | .bk _ _ => .no
  | .ct _ _ => .no
  | .no => .no
theorem start_rel {K : PySem.W.Frag} {m : Mp} {H : Hp} {ds : List D} {vs : List V} {N : List Str} (r : RDs K m H ds vs) : REnv K m H (ds.map some ++ List.replicate (N.length - ds.length) none) (L2.start N vs) := by
  unfold L2.start
  refine ⟨by rw [List.length_append, List.length_append, List.length_map, List.length_map, List.length_replicate, List.length_replicate, r.length], fun i d h => ?_⟩
  by_cases hi : i < ds.length
  · rw [List.getElem?_append_left (by rw [List.length_map]; exact hi), List.getElem?_map] at h
    cases hd : ds[i]? with
    | none => rw [hd] at h; cases h
    | some d' =>
      rw [hd] at h
      cases h
      obtain ⟨v, h1, h2⟩ := r.get hd
      exact ⟨v, by rw [List.getElem?_append_left (by rw [List.length_map, ← r.length]; exact hi), List.getElem?_map, h1]; rfl, h2⟩
  · rw [List.getElem?_append_right (by rw [List.length_map]; omega), List.getElem?_replicate] at h
    split at h <;> cases h
section
variable {P : Program} {w : World} {K : PySem.W.Frag} {mg : Str → Option Value} {base : Heap}
/-- a def by its body -/
theorem FnD.of {x qual : Str} {st : Stmt} {f : Addr} {fd : FuncData} {N ps : List Str} {k : Nat} {ms : MS} (F : Fun K x qual st f fd) (S : FnScope N ps (defScope st))
    (hb : ∀ (cdv : Value), fd.code = cdv → ∀ (A : Around) (outer : List PySem.Env) (s : Shared) (H : Hp) (E : XK), Room k (A.deeper (envOfC qual (defScope st) s.heap.objs.size f cdv)) → (A.deeper (envOfC qual (defScope st) s.heap.objs.size f cdv)).guards = some [] →
      Takes (cxOf (L2.CX P w) P w K mg base N qual (defScope st) f cdv A outer s H E) (fun c d _ H' => E c d H') →
      PassesOwn (model P w) (A.deeper (envOfC qual (defScope st) s.heap.objs.size f cdv)) (envOfC qual (defScope st) s.heap.objs.size f cdv) (cxOf (L2.CX P w) P w K mg base N qual (defScope st) f cdv A outer s H E).xe → DSs (cxOf (L2.CX P w) P w K mg base N qual (defScope st) f cdv A outer s H E) (fun c d _ H' => E c d H') (defBody st) ms) {n : Nat} (hn : N.length = n := by rfl) : FnD P w K mg base (k + 1) f fd ps (mFun n ms) := by
  subst hn
  obtain ⟨oc, od, kV, doc, pm, an, cdv, ct, osl, rfl, lk, hcd⟩ := F.ex
  refine ⟨fun A outer s H args us vs Q E room gd en bi rel hsp => ?_⟩
  obtain ⟨hlen, m, AA, ds, R, rds, post⟩ := hsp
  have kin : K.In s.heap := en.mod.kin.keeps fun b o h => (en.bs b o h).1
  have nolim : s.heap.NoLimit := en.mod.nolimit.keeps fun b o h => (en.bs b o h).1
  have kinds : ∀ y ∈ ps.zip us, (defScope st).names.lookup y.1 = some .local ∨ ((defScope st).names.lookup y.1 = some .cell ∧ ((cellsFrom (s.heap.objs.size + 1) (defScope st).names []).lookup y.1).isSome = true) := by
    rintro ⟨n, v⟩ hy
    rcases S.par n (List.of_mem_zip hy).1 with z | z
    · exact .inl z
    · exact .inr ⟨z, PySem.W.cellsFrom_some _ _ _ (.inl z)⟩
  refine codeAny_call_function room.depth (kin _ _ lk) rfl S.co S.gen rfl (PySem.W.codeRec_of kin hcd) (bi _ _ _ _ (wpAny_newFunctionEnv_cells S.kind kinds fun env henv s1 hx => ?_))
  subst henv
  refine ⟨nolim.keeps hx.toInCall.keep, codeAny_func ?_⟩
  have body := hb cdv rfl A outer s H E (room.deeper _) gd (takes_of rfl rfl rfl rfl) (passes_of rfl)
  have I := inv_start (CX := L2.CX P w) (E := E) S room.hd en hlen rel hx
  have want : tS K (fun c d _ H' => E c d H') ms { nx := fun _ H' => Q .non H', rt := Q } (L2.start N vs) H := by
    refine ⟨m, AA, _, R, start_rel (N := N) rds, ?_⟩
    unfold mFun at post
    cases hr : ms (ds.map some ++ List.replicate (N.length - ds.length) none) AA with
    | nx ρ1 A1 => rw [hr] at post; exact fun m' H' σ' e1 R1 _ => post m' H' .non e1 R1 .non
    | rt d A1 => rw [hr] at post; exact fun m' H' v e1 R1 r1 => post m' H' v e1 R1 r1
    | exc C fs ρ1 A1 => rw [hr] at post; exact fun m' H' c dx σ' e1 R1 _ hc hx => post m' H' c dx e1 R1 hc hx
    | bk ρ1 A1 => rw [hr] at post; exact post.elim
    | ct ρ1 A1 => rw [hr] at post; exact post.elim
    | no => rw [hr] at post; exact post.elim
  have back : ∀ {σ' : L2.St} {H' : Hp} {v : V} {u : Value} {s' : Shared}, Inv (cxOf (L2.CX P w) P w K mg base N qual (defScope st) f cdv A outer s H E) [] σ' H' s' → RelV v u → Q v H' → CE outer P w H s Q u s' :=
    fun J ru q => ⟨_, _, J.os, J.bare, J.base, J.hok, ru, q⟩
  refine wpAny_mono (body.run [] s1 (L2.start N vs) H _ I want) (fun fl s' z => ?_) fun _ _ z => z
  cases fl with
  | next =>
    obtain ⟨_, _, J, q⟩ := z
    exact back (v := V.non) (u := Value.none) J rfl q
  | ret u =>
    obtain ⟨_, _, _, J, ru, q⟩ := z
    exact back J ru q
  | brk =>
    obtain ⟨_, _, _, q⟩ := z
    exact q.elim
  | cont =>
    obtain ⟨_, _, _, q⟩ := z
    exact q.elim
theorem FnD.up {j k : Nat} {f : Addr} {fd : FuncData} {ps : List Str} {mf : List D → AH → Res D} (F : FnD P w K mg base j f fd ps mf) (h : j ≤ k) : FnD P w K mg base k f fd ps mf :=
  ⟨fun A outer s H args us vs Q E hr => F.run A outer s H args us vs Q E (hr.mono h)⟩
end
/-! ### calls -/
def mCallF (n : Nat) (mf : List D → AH → Res D) (ms : MA) : ME := fun ρ A => (ms ρ A).bind fun ds A1 => if ds.length = n then mf ds A1 else .no
section
variable {X : Cx} {W : WX} {k : Nat} {f : Addr} {fd : FuncData} {ps ks : List Str} {mf : List D → AH → Res D} {x : Str} {p pos kpos : Pos} {e : Expr} {es : List Expr} {ms mk : MA} {me : ME} {kws : List Keyword} {nm : Option Str}
theorem run_D {pins : List (Addr × Obj)} {σ : L2.St} {H : Hp} {s : Shared} {Q : VK} {us : List Value} {vs : List V} {args : Args} (F : FnD X.prog X.w X.K X.mg X.base k f fd ps mf) (hr : Room k X.A) (gd : X.A.guards = some []) (tk : Takes X W)
    (I : Inv X pins σ H s) (bi : BindsTo s fd args (ps.zip us)) (r : Vals vs us) (h : spD X.K ps.length mf vs H Q (WE W σ)) : codeAny (model X.prog X.w) X.A (.call (.ref f) args) (fun r s' => match r with
      | .ok (.ret u) => EP X pins σ Q u s'
      | .ok _ => False
      | .error z => X.xe z s') s := by
  refine codeAny_mono (F.run X.A X.stack s H args us vs Q (WE W σ) hr gd I.env0 bi r h) fun r s' hq => ?_
  cases r with
  | error z => exact passAt tk σ pins H s z s' I hq
  | ok fl =>
    cases fl with
    | ret u => exact I.after hq
    | next => exact hq
    | brk => exact hq
    | cont => exact hq
theorem call_D {pins : List (Addr × Obj)} {σ : L2.St} {s : Shared} {Q : VK} {us : List Value} {kw : List (Str × Value)} (h : codeAny (model X.prog X.w) X.A (.call (.ref f) ⟨us, kw⟩) (fun r s' => match r with
      | .ok (.ret u) => EP X pins σ Q u s'
      | .ok _ => False
      | .error z => X.xe z s') s) : wpAny (model X.prog X.w) X.A (call (.ref f) us kw) (EP X pins σ Q) X.xe s := by
  refine wpAny_call (codeAny_mono h fun r s' z => ?_)
  cases r with
  | error y => exact z
  | ok fl => cases fl <;> first | exact z | exact z.elim
/-- f(a, ..) -/
theorem d_call (F : FnD X.prog X.w X.K X.mg X.base k f fd ps mf) (hr : Room k X.A) (gd : X.A.guards = some []) (tk : Takes X W) (hm : X.mg x = some (.ref f)) (hk : PySem.W.keepIn X.K (.ref f) = true) (hb : Binds X.K fd ps []) (ha : DA X W (e :: es) ms) {n : Nat} (hn : ps.length = n := by rfl)
    (hg : Gl X x := by rfl) (hdb : (x == ("__debug__" : Str)) = false := by decide) (he : starEach (e :: es) X.env = (false, eval e X.env) :: starEach es X.env := by rfl) (hpl : (backTo pos (starEach es X.env)).any (·.1) = false := by rfl) :
    DE X W (.Call (.Name x p) (e :: es) [] pos) (mCallF n mf ms) := by
  subst hn
  refine ⟨fun pins s σ H Q I ⟨m, A, ρ, R, E, h⟩ => wpAny_Call_Name_kw (ld_glob I hg hm (PySem.W.callWith_K (h₀ := X.base) I.ok.mod.kin hk (thn (ha.run pos pins s σ H _ I (tA.bind (T := fun vs H1 => spD X.K ps.length mf vs H1 Q (WE W σ)) R E h fun m1 A1 ds vs H1 e1 R1 E1 r1 h1 => ?_)) fun us s1 ⟨vs, H1, I1, r, q⟩ => ⟨I1.kIn, call_D ?_⟩) he hpl) hdb)⟩
  · split at h1
    · rename_i hl
      exact ⟨by rw [← r1.length]; exact hl, m1, A1, ds, R1, r1, by
        cases hz : mf ds A1 with
        | ok d A2 => rw [hz] at h1; exact h1
        | exc C fs A2 => rw [hz] at h1; exact h1
        | no => rw [hz] at h1; exact h1⟩
    · exact h1.elim
  · have b := hb s1 us I1.kIn (by rw [List.append_nil, ← r.length]; exact q.1)
    rw [List.append_nil] at b
    exact run_D F hr gd tk I1 b r q
/-- keywords -/
abbrev DK (X : Cx) (W : WX) (kws : List Keyword) (mk : MA) : Prop := PK X kws (tA X.K W mk)
theorem k_nil : DK X W [] mNil := ⟨fun pos pins s σ H Q I ⟨m, A, ρ, R, E, h⟩ => pk_nil.run pos pins s σ H Q I (Post.here R .nil h)⟩
theorem k_cons (ha : DE X W e me) (hr : DK X W kws mk) : DK X W (⟨nm, e, kpos⟩ :: kws) (mCons me mk) :=
  ⟨fun pos pins s σ H Q I ⟨m, A, ρ, R, E, h⟩ => (pk_cons ha hr).run pos pins s σ H Q I (tE.bind R E h fun m1 A1 d v H1 e1 R1 E1 r1 h1 => tA.bind R1 E1 h1 fun m2 A2 ds vs H2 e2 R2 E2 r2 h2 => Post.here R2 (.cons (RD.mono e2 _ _ r1) r2) h2)⟩
def pick {α : Type} (pm : List Nat) (xs : List α) : List α := pm.filterMap fun i => xs[i]?
theorem RDs.pick {K : PySem.W.Frag} {m : Mp} {H : Hp} {ds : List D} {vs : List V} (r : RDs K m H ds vs) : ∀ pm : List Nat, RDs K m H (DM.pick pm ds) (DM.pick pm vs)
  | [] => .nil
  | i :: pm => by
    have ih := RDs.pick r pm
    unfold DM.pick at ih ⊢
    rw [List.filterMap_cons, List.filterMap_cons]
    cases hd : ds[i]? with
    | none =>
      have : vs[i]? = none := List.getElem?_eq_none (by rw [← r.length]; exact List.getElem?_eq_none_iff.mp hd)
      rw [this]; exact ih
    | some d =>
      obtain ⟨v, h1, h2⟩ := r.get hd
      rw [h1]; exact .cons h2 ih
theorem Vals.pick {vs : List V} {us : List Value} (r : Vals vs us) : ∀ pm : List Nat, Vals (DM.pick pm vs) (DM.pick pm us)
  | [] => .nil
  | i :: pm => by
    have ih := Vals.pick r pm
    unfold DM.pick at ih ⊢
    rw [List.filterMap_cons, List.filterMap_cons]
    cases hd : vs[i]? with
    | none =>
      have : us[i]? = none := L2.Vals.none_of r hd
      rw [this]; exact ih
    | some v =>
      obtain ⟨u, h1, h2⟩ := L2.Vals.get r hd
      rw [h1]; exact .cons h2 ih
def KB (K : PySem.W.Frag) (fd : FuncData) (ps : List Str) (n : Nat) (ks : List Str) (pm : List Nat) : Prop := ∀ (s : Shared) (us ws : List Value), K.In s.heap → us.length = n → ws.length = ks.length → BindsTo s fd ⟨us, ks.zip ws⟩ (ps.zip (DM.pick pm (us ++ ws)))
def mCallK (n l a : Nat) (pm : List Nat) (mf : List D → AH → Res D) (ms mk : MA) : ME := fun ρ A => (ms ρ A).bind fun ds A1 => (mk ρ A1).bind fun es A2 => if ds.length = n ∧ es.length = l ∧ (DM.pick pm (ds ++ es)).length = a then mf (DM.pick pm (ds ++ es)) A2 else .no
theorem d_callK0 {pm : List Nat} (F : FnD X.prog X.w X.K X.mg X.base k f fd ps mf) (hr : Room k X.A) (gd : X.A.guards = some []) (tk : Takes X W) (hm : X.mg x = some (.ref f)) (hk : PySem.W.keepIn X.K (.ref f) = true) (hb : KB X.K fd ps 0 ks pm) (hkw : DK X W kws mk) {l n : Nat} (hl : ks.length = l := by rfl) (hn : ps.length = n := by rfl)
    (hg : Gl X x := by rfl) (hall : (backToKw pos (keywordEach kws X.env)).all (·.1.isSome) = true := by rfl) (hks : (backToKw pos (keywordEach kws X.env)).filterMap (·.1) = ks := by rfl) (hdb : (x == ("__debug__" : Str)) = false := by decide)
    (hpl : ((backTo pos (starEach [] X.env)).any (·.1) || (backToKw pos (keywordEach kws X.env)).any (·.1.isNone)) = false := by rfl) : DE X W (.Call (.Name x p) [] kws pos) (mCallK 0 l n pm mf mNil mk) := by
  subst hl hn
  refine ⟨fun pins s σ H Q I ⟨m, A, ρ, R, E, h⟩ => wpAny_Call_Name_kw (ld_glob I hg hm (PySem.W.callWith_KW0 (h₀ := X.base) I.ok.mod.kin hk hall (thn (hkw.run pos pins s σ H (fun zs H1 => zs.length = ks.length ∧ spD X.K ps.length mf (DM.pick pm zs) H1 Q (WE W σ)) I (tA.bind R E (show Post X.K (RD X.K) W σ m H ((mk ρ A).bind fun es A2 => if ([] : List D).length = 0 ∧ es.length = ks.length ∧ (DM.pick pm ([] ++ es)).length = ps.length then mf (DM.pick pm ([] ++ es)) A2 else .no) Q from h) fun m1 A1 ds vs H1 e1 R1 E1 r1 h1 => ?_)) fun ws s2 ⟨zs, H2, I2, rz, hl, q⟩ => ⟨I2.kIn, ?_⟩) hpl) hdb)⟩
  · split at h1
    · rename_i hl
      refine ⟨by rw [← r1.length]; exact hl.2.1, by rw [← (r1.pick pm).length]; exact hl.2.2, m1, A1, _, R1, r1.pick pm, ?_⟩
      rw [List.nil_append] at h1
      cases hz : mf (DM.pick pm ds) A1 with
      | ok d A2 => rw [hz] at h1; exact h1
      | exc C fs A2 => rw [hz] at h1; exact h1
      | no => rw [hz] at h1; exact h1
    · exact h1.elim
  · rw [hks]
    exact call_D (run_D F hr gd tk I2 (hb s2 [] ws I2.kIn rfl (by rw [← L2.Vals.length rz]; exact hl)) (Vals.pick rz pm) q)
end
end DM
end
section
set_option maxHeartbeats 2000000
namespace DM
open PySem PySem.Spec PyProof.Rows L2
/-! ### the law's call -/
theorem rd_ints {K : PySem.W.Frag} {m : Mp} {H : Hp} : ∀ ns : List Int, RDs K m H (ns.map D.int) (ns.map V.int)
  | [] => .nil
  | n :: ns => .cons (.int n) (rd_ints ns)
/-- code objects with their tables and what their lambdas are called -/
abbrev Tabs0 := List (Addr × Addr × Str)
abbrev tabs0 (cs : Tabs0) : AH := cs.map fun p => AO.tab p.2.1 p.2.2
theorem law_run {P : Program} {w : World} {K : PySem.W.Frag} {mg mb : Str → Option Value} {k : Nat} {fa a : Addr} {fd : FuncData} {x : Str} {s : Shared} {us : List Value} {ns : List Int} {cs : Tabs0}
    (kin : K.In s.heap) (gl : s.heap.Ns mainGlobals mg) (bl : s.heap.Ns builtinsNs mb) (bb : ∀ y : Str, y ≠ "__name__" → mb y = bootBuiltins y) (nl : s.heap.NoLimit) (ge : s.gens = #[])
    (hT : ∀ p ∈ cs, s.heap.get? p.2.1 = some { cls := .none, data := .fields #[] }) (nT : ∀ p ∈ cs, K.lookup p.2.1 = none) (hC : ∀ p ∈ cs, PySem.W.CodeHd s.heap p.1 p.2.1) (nd : (cs.map (·.2.1)).Nodup)
    (bm : ∃ (b : Addr) (ob : Obj), mg "__builtins__" = some (.ref b) ∧ b ≠ builtinsNs ∧ s.heap.get? b = some ob ∧ ob.cls = .type "module" ∧ ob.dict = some builtinsNs ∧ ob.data = .plain)
    (ho : s.heap.get? a = some { cls := .type "list", data := .seq us.toArray }) (ia : IntsAre us ns) (hn : ns.length ≤ sizeLine) (room : Room k callerA)
    (F : ∀ base : Heap, K.In base → base.Ns mainGlobals mg → (∀ p ∈ cs, LamX.TabB base mg p.1 p.2.1) → ∃ (mf : List D → AH → Res D) (AE : AH), mf [.lst (ns.map D.int)] (tabs0 cs) = .ok (.bl true) AE ∧ FnD P w K mg base k fa fd [x] mf)
    (bi : ∀ (t : Shared) (u : Value), BindsTo t fd ⟨[u], []⟩ [(x, u)]) :
    codeAny (model P w) callerA (.call (.ref fa) ⟨[.ref a], []⟩) (fun r s' => r = .ok (.ret (.bool true)) ∧ OldK s.heap s'.heap ∧ s'.os = s.os ∧ AllBare s'.gens) s := by
  have vi := L2.vals_ints ia
  obtain ⟨tb, etb⟩ : ∃ tb : List Addr, tb = cs.map (·.2.1) := ⟨_, rfl⟩
  have inT : ∀ p ∈ cs, p.2.1 ∈ tb := fun p hp => by rw [etb]; exact List.mem_map.mpr ⟨p, hp, rfl⟩
  have atT : ∀ b ∈ tb, s.heap.get? b = some { cls := .none, data := .fields #[] } ∧ K.lookup b = none := fun b hb => by
    rw [etb] at hb
    obtain ⟨p, hp, e⟩ := List.mem_map.mp hb
    rw [← e]
    exact ⟨hT p hp, nT p hp⟩
  have aT : a ∉ tb := fun z => by
    have q := (atT a z).1
    rw [ho] at q
    cases q
  -- the script and the tables are all that may be told of
  suffices go : ∀ H : Hp, (∀ b, H b = none ∨ (b = a ∧ K.lookup a = none ∧ ∃ o, H b = some (.frz o (.lst (ns.map V.int)))) ∨ b ∈ tb) → (∀ b ∈ tb, H b = some (.tbl #[])) → SqL K H a (ns.map V.int) → HOk P w H s.heap →
      codeAny (model P w) callerA (.call (.ref fa) ⟨[.ref a], []⟩) (fun r s' => r = .ok (.ret (.bool true)) ∧ OldK s.heap s'.heap ∧ s'.os = s.os ∧ AllBare s'.gens) s by
    cases hk : K.lookup a with
    | some o =>
      have e := kin a o hk
      rw [ho] at e
      cases e
      refine go (fun b => if b ∈ tb then some (.tbl #[]) else none) (fun b => ?_) (fun b hb => if_pos hb) (.inr ⟨_, us.toArray, _, hk, rfl, rfl, rfl, ?_, ?_⟩) fun b u z => ?_
      · by_cases hb : b ∈ tb
        · exact .inr (.inr hb)
        · exact .inl (if_neg hb)
      · rw [List.size_toArray, ia.length]; exact hn
      · rw [List.toList_toArray]; exact vi
      · by_cases hb : b ∈ tb
        · have z' := (if_pos hb).symm.trans z
          cases z'
          exact (atT b hb).1
        · have z' := (if_neg hb).symm.trans z
          cases z'
    | none =>
      refine go (fun b => if b = a then some (.frz { cls := .type "list", data := .seq us.toArray } (.lst (ns.map V.int))) else if b ∈ tb then some (.tbl #[]) else none) (fun b => ?_) (fun b hb => (if_neg fun z => aT (by rw [← z]; exact hb)).trans (if_pos hb)) (.inl (.inr ⟨_, if_pos rfl⟩)) fun b u z => ?_
      · by_cases hb : b = a
        · exact .inr (.inl ⟨hb, hk, _, if_pos hb⟩)
        · by_cases hb2 : b ∈ tb
          · exact .inr (.inr hb2)
          · exact .inl ((if_neg hb).trans (if_neg hb2))
      · by_cases hb : b = a
        · have z' := (if_pos hb).symm.trans z
          cases z'
          rw [hb]
          exact ⟨ho, by rw [List.length_map]; exact hn, us, _, vi, ho⟩
        · have z1 := (if_neg hb).symm.trans z
          by_cases hb2 : b ∈ tb
          · have z' := (if_pos hb2).symm.trans z1
            cases z'
            exact (atT b hb2).1
          · have z' := (if_neg hb2).symm.trans z1
            cases z'
  intro H only tbl hS hok
  have free : ∀ {b : Addr} {o : Obj}, s.heap.get? b = some o → (∀ l n, o.data ≠ .seq l n) → o.data ≠ .fields #[] → H b = none := fun {b o} h hd hf => by
    rcases only b with z | ⟨rfl, _, _, _⟩ | z
    · exact z
    · rw [ho] at h
      cases h
      exact (hd _ _ rfl).elim
    · rw [(atT b z).1] at h
      cases h
      exact (hf rfl).elim
  have nsb : ∀ {b : Addr} {m : Str → Option Value}, s.heap.Ns b m → (hidT s.heap H).Ns b m := fun {b m} z => by
    obtain ⟨o, es, ep, h1, h2, h3⟩ := z
    exact ⟨o, es, ep, hidT_get h1 (free h1 (fun l n y => by rw [h2] at y; cases y) fun y => by rw [h2] at y; cases y), h2, h3⟩
  have kb : K.In (hidT s.heap H) := fun b o h => hidT_get (kin b o h) (by
    rcases only b with z | ⟨rfl, hk, _⟩ | z
    · exact z
    · rw [hk] at h; cases h
    · rw [(atT b z).2] at h; cases h)
  have TB : ∀ p ∈ cs, LamX.TabB (hidT s.heap H) mg p.1 p.2.1 := fun p hp => by
    have hPt := hT p hp
    refine ⟨?_, ?_, fun z => ?_⟩
    · obtain ⟨o, vs, file, tf, flags, tg, inF, text, tt, e1, r1, r2, r3, rest⟩ := hC p hp
      refine ⟨o, vs, file, tf, flags, tg, inF, text, tt, hidT_get e1 (free e1 (fun l n z => ?_) fun z => ?_), r1, r2, r3, rest⟩
      · rw [r2] at z; cases z
      · rw [r2] at z; cases z; simp at r3
    · obtain ⟨b, ob, b1, b2, b3, b4, b5, b6⟩ := bm
      refine ⟨b, ob, b1, b2, fun q => ?_, fun q => ?_, hidT_get b3 (free b3 (fun l n z => ?_) fun z => ?_), b4, b5, b6⟩
      · obtain ⟨o, es, ep, e, hd, _⟩ := gl
        rw [q, e] at b3
        cases b3
        rw [hd] at b6
        cases b6
      · rw [q, hPt] at b3
        cases b3
        cases b6
      · rw [b6] at z; cases z
      · rw [b6] at z; cases z
    · obtain ⟨o, es, ep, e, hd, _⟩ := gl
      rw [z, hPt] at e
      cases e
      cases hd
  have en : Env0 P w K mg (hidT s.heap H) callerA [] s H := by
    obtain ⟨mc, h1, h2⟩ := nl
    exact { frames := rfl, mod := ⟨kb, nsb gl, ⟨mb, nsb bl, bb⟩, mc, nsb h1, h2⟩, bs := fun b o h => of_hidT h, bsz := Nat.le_of_eq (hidT_size _ _), funs := trivial, frf := fun b hb => (nomatch hb), hok := hok, bare := .of_eq ge }
  obtain ⟨mf, AE, law, FF⟩ := F _ kb (nsb gl) TB
  have R0 : Rel K (tb, []) (tabs0 cs) H := by
    refine ⟨by rw [etb, List.length_map, List.length_map], by rw [etb]; exact nd, fun p hp => (nomatch hp), fun n o h => ?_⟩
    rw [List.getElem?_map] at h
    cases hc : cs[n]? with
    | none => rw [hc] at h; cases h
    | some p =>
      rw [hc] at h
      cases h
      refine ⟨p.2.1, by show tb[n]? = _; rw [etb, List.getElem?_map, hc]; rfl, rfl, #[], tbl _ (inT p (List.mem_of_getElem? hc)), trivial, fun pos cv hcv => ?_⟩
      have z : codeAmong pos [] = some cv := hcv
      simp [codeAmong] at z
  have pre : spD K [x].length mf [.ref a] H (fun v _ => v = .bl true) fun _ _ _ => False := by
    refine ⟨rfl, (tb, []), tabs0 cs, [.lst (ns.map D.int)], R0, .cons (.lst ?_ (rd_ints ns)) .nil, ?_⟩
    · rcases hS with z | z
      · exact .inl ⟨z, aT, (List.not_mem_nil ·)⟩
      · exact .inr z
    · rw [law]
      intro m' H' v _ _ r
      cases r
      rfl
  refine codeAny_mono (FF.run callerA [] s H ⟨[.ref a], []⟩ [.ref a] [.ref a] _ _ room rfl en (bi s (.ref a)) (.cons rfl .nil) pre) fun r s' h => ?_
  cases r with
  | error z =>
    obtain ⟨_, _, _, _, _, _, _, _, _, _, _, _, y⟩ := h
    exact y.elim
  | ok fl =>
    cases fl with
    | ret u =>
      obtain ⟨v, H', os, bare, un, hok', rv, q⟩ := h
      have q' : v = .bl true := q
      subst q'
      cases rv
      have stay : ∀ b o, b ∉ tb → s.heap.get? b = some o → s'.heap.get? b = some o := fun b o nb h => by
        rcases only b with z | ⟨_, _, ob, z⟩ | z
        · exact un.keep b o h z (fun y => nomatch y) fun y => nomatch y
        · have z2 := un.frzs b ob _ z
          obtain ⟨e1, _⟩ := hok b _ z
          obtain ⟨e2, _⟩ := hok' b _ z2
          rw [h] at e1
          cases e1
          exact e2
        · exact absurd z nb
      have grew : ∀ b ∈ tb, ∃ more : Array Value, s'.heap.get? b = some { cls := .none, data := .fields more } := fun b hb => by
        obtain ⟨more, z⟩ := un.tbls b #[] (tbl b hb)
        exact ⟨_, hok' b _ z⟩
      refine ⟨rfl, ⟨fun b o e => ?_, fun b o e => ?_⟩, os, bare⟩
      · by_cases hb : b ∈ tb
        · obtain ⟨more, hm⟩ := grew b hb
          have hb' := hb
          rw [etb] at hb'
          obtain ⟨p, hp, ep⟩ := List.mem_map.mp hb'
          rw [(atT b hb).1] at e
          cases e
          rw [← ep] at hm ⊢
          exact .inr (.inl ⟨((hC p hp).tab (hT p hp)).isCodeTable, rfl, #[], more, rfl, by rw [Array.empty_append]; exact hm⟩)
        · exact .inl (stay b o hb e)
      · by_cases hb : b ∈ tb
        · obtain ⟨more, hm⟩ := grew b hb
          exact ⟨_, hm⟩
        · exact ⟨o, stay b o hb e⟩
    | next => exact h.elim
    | brk => exact h.elim
    | cont => exact h.elim
/-- the end of a law's row -/
theorem law_walk {l : PySem.W.OpenLaw} {n k : Nat} {q : Program} {loose : List Str} {XP : (Str → Option Value) → Heap → Prop} {YP : World → Heap → Prop} {d : DefRec} {K : Params → PySem.W.Frag} {x : Str}
    (hn : l.most = some n) (hz : n ≤ sizeLine) (hdf : d.params.defaults = []) (room : Room k callerA) (hY : ∀ (w : World) (h : Heap), YP w h → (K w.params).In h)
    (F : ∀ (w : World) (mg : Str → Option Value) (fa : Addr) (h : Heap), (K w.params).In h → h.Ns mainGlobals mg → mg d.name = some (.ref fa) →
      ∃ (fd : FuncData) (cs : Tabs0), (∀ p ∈ cs, ∃ (y : Str) (e : DefRec), (recsOf q).find? (fun e => e.name == y) = some e ∧ PySem.W.tabIn (K w.params) y = some (p.1, p.2.1)) ∧ (∀ p ∈ cs, (K w.params).lookup p.2.1 = none) ∧ (cs.map (·.2.1)).Nodup ∧
        (∀ (s : Shared) (u : Value), BindsTo s fd ⟨[u], []⟩ [(x, u)]) ∧ ∀ base : Heap, (K w.params).In base → base.Ns mainGlobals mg → (∀ p ∈ cs, LamX.TabB base mg p.1 p.2.1) → ∀ ns : List Int, ns.length ≤ n → (∀ z ∈ ns, Builtin.Int.intBits z ≤ 1048576) →
        ∃ (mf : List D → AH → Res D) (AE : AH), mf [.lst (ns.map D.int)] (tabs0 cs) = .ok (.bl true) AE ∧ FnD l.prog w (K w.params) mg base k fa fd [x] mf) :
    PySem.W.WalkO q loose XP YP l.row.toRowW d [] (fun f vs => PySem.call f vs) := by
  refine Att.attach_callB hn hdf fun w s0 s1 mg mb fa o pm cd doc a us ns G Y ha hb hc hm hobj hi hlen hbits hg => ?_
  have kin := hY w _ Y
  obtain ⟨fd, cs, hT, nT, nd, bi, hF⟩ := F w mg fa _ kin G.T.g hm
  have tabs : ∀ p ∈ cs, PySem.W.CodeHd s1.heap p.1 p.2.1 ∧ s1.heap.get? p.2.1 = some { cls := .none, data := .fields #[] } := fun p hp => by
    obtain ⟨y, e, h1, h2⟩ := hT p hp
    exact PySem.W.tab_of G.T kin h1 h2
  exact law_run kin G.T.g G.T.b G.T.builtins G.T.nolimit hg (fun p hp => (tabs p hp).2) nT (fun p hp => (tabs p hp).1) nd G.T.bmain hobj hi (Nat.le_trans hlen hz) room (fun base h1 h2 h3 => hF base h1 h2 h3 ns hlen hbits) bi
end DM
end
section
set_option maxHeartbeats 2000000
namespace DM
open PySem PySem.Spec PyProof.Rows L2
section
variable {X : Cx} {W : WX} {a b c e o i tg iter elt : Expr} {es ifs : List Expr} {ma mb mc me mo mi : ME} {pos p p2 tpos : Pos}
/-- o[i] = e, o a changing list -/
def mSto (me mo mi : ME) : MS := fun ρ A => lift (me ρ A) ρ fun v A1 => lift (mo ρ A1) ρ fun o A2 => lift (mi ρ A2) ρ fun i A3 => match o, i with
  | .ref n, .int k => (match A3[n]? with
    | some (.lst xs) => (match ixN xs.length k with
      | some j => .nx ρ (A3.set n (.lst (xs.set j v)))
      | none => .no)
    | _ => .no)
  | _, _ => .no
theorem s_setI (he : DE X W e me) (hg : PG X (.Subscript o i tpos) (gSub (tE X.K W mo) (tE X.K W mi) rSetL))
    (hs : swapsWithSole [.Subscript o i tpos] e pos.line X.env = pure false := by rfl) (hw : swappedStores [.Subscript o i tpos] e X.env = pure none := by rfl) (h1 : (assignEach [.Subscript o i tpos] X.env).map (·.2) = [assign (.Subscript o i tpos) X.env] := by rfl) :
    DS X W (.Assign [.Subscript o i tpos] e pos) (mSto me mo mi) := by
  refine PSi (ps_asg he hg hs hw h1) fun D0 σ H ⟨m, A, ρ, R, E, h⟩ => tE.lift R E h fun m1 A1 d v H1 e1 R1 E1 r1 h1 => tE.lift R1 E1 h1 fun m2 A2 d2 v2 H2 e2 R2 E2 r2 h2 => tE.lift R2 E2 h2 fun m3 A3 d3 v3 H3 e3 R3 E3 r3 h3 => ?_
  split at h3
  · rename_i n k
    cases r3
    cases r2 with
    | ref hm =>
      rename_i q
      have hm3 := e3.get hm
      split at h3
      · rename_i xs hA
        obtain ⟨us, h4, rs⟩ := R3.lst hm3 hA
        split at h3
        · rename_i j hj
          refine ⟨q, us, k, j, rfl, rfl, h4, by rw [← rs.length]; exact hj, ?_⟩
          obtain ⟨R4, e4⟩ := R3.write (H' := upd H3 q (.lst (us.set j v))) (o := .lst (xs.set j d)) hm3 (fun p u hp z => by rw [upd_ne hp]; exact z) fun e => ⟨_, upd_same, RDs.mono e _ _ (rs.set (RD.mono (e2.trans e3) _ _ r1) j)⟩
          exact PostS.nx R4 (E3.mono e4) (PostS.mono e4 h3)
        · exact h3.elim
      · exact h3.elim
  · exact h3.elim
end
/-! ### a promise made simpler: what is left over of new objects is dropped -/
abbrev cloO (n : Nat) (o : AO) : Prop := clos n o.vals
def ClosedA (A : AH) : Prop := ∀ o ∈ A, cloO A.length o
theorem cut_r {m : Mp} {n : Nat} (i : Nat) (a : Addr) (c : i < n) (h : m.1[i]? = some a) : (m.1.take n, m.2).1[i]? = some a := by
  show (m.1.take n)[i]? = _
  rw [List.getElem?_take_of_lt c]; exact h
theorem cut_o {m : Mp} {n : Nat} {H : Hp} (a : Addr) (o : HO) (e : H a = some o) (h : Out m a) : H a = some o ∧ Out (m.1.take n, m.2) a := ⟨e, fun y => h.1 (List.mem_of_mem_take y), h.2⟩
theorem RD.cut {K : PySem.W.Frag} {m : Mp} {H : Hp} {n : Nat} (d : D) (v : V) (c : DM.clo n d) (h : RD K m H d v) : RD K (m.1.take n, m.2) H d v := RD.moveN cut_r cut_o d v c h
theorem RDs.cut {K : PySem.W.Frag} {m : Mp} {H : Hp} {n : Nat} (d : List D) (v : List V) (c : DM.clos n d) (h : RDs K m H d v) : RDs K (m.1.take n, m.2) H d v := RDs.moveN cut_r cut_o d v c h
theorem Rel.cut {K : PySem.W.Frag} {m : Mp} {A A1 : AH} {H : Hp} (R : Rel K m A H) (h1 : A.take A1.length = A1) (h2 : ClosedA A1) : Rel K (m.1.take A1.length, m.2) A1 H := by
  have hle : A1.length ≤ A.length := by rw [← h1, List.length_take]; exact Nat.min_le_right _ _
  refine ⟨by show (m.1.take A1.length).length = _; rw [List.length_take, R.len]; omega, R.nd.sublist (List.take_sublist _ _), R.pv, fun n o hn => ?_⟩
  have hlt : n < A1.length := (List.getElem?_eq_some_iff.mp hn).1
  have hA : A[n]? = some o := by
    rw [← h1, List.getElem?_take_of_lt hlt] at hn; exact hn
  obtain ⟨q, h3, h4⟩ := R.obj n o hA
  refine ⟨q, by show (m.1.take A1.length)[n]? = _; rw [List.getElem?_take_of_lt hlt]; exact h3, ?_⟩
  have hc := h2 o (List.mem_of_getElem? hn)
  exact h4.moveN cut_r cut_o rfl hc
theorem Ext.cut {m m' : Mp} {H H' : Hp} {n : Nat} (e : Ext m H m' H') (h : m.1.length ≤ n) : Ext m H (m'.1.take n, m'.2) H' := by
  obtain ⟨l, hl⟩ := e.pre
  refine ⟨⟨l.take (n - m.1.length), ?_⟩, e.sub, e.pvs, fun p hp => e.new p (List.mem_of_mem_take hp), e.keep⟩
  show m'.1.take n = _
  rw [hl, List.take_append, List.take_of_length_le h]
end DM
end
section
set_option maxHeartbeats 1000000
namespace DM
open PySem PySem.Spec PyProof.Rows L2
/-! ### running mirrors: one row a form, all applied -/
section
variable {ρ : DM.Env} {A : AH} {i j l n m a : Nat} {d : D} {f : D → D → AH → Res D} {g : List D → AH → Res D} {g2 : Nat → List D → AH → Res D} {ma mb mc me mo : ME} {mt mu : MT} {ms mk : MA} {ml mh : MO} {mi : MI} {sa sb : MS} {t : Tg} {ts : List Tg} {pm vs : List Nat} {b : Bool}
theorem ev_var : mVar i ρ A = (match ρ[i]? with | some (some d) => .ok d A | _ => .no) := id rfl
theorem ev_K : mK d ρ A = .ok d A := id rfl
theorem ev_op : mOp f ma mb ρ A = (ma ρ A).bind fun x A1 => (mb ρ A1).bind fun y A2 => f x y A2 := id rfl
theorem ev_neg : mNeg ma ρ A = (ma ρ A).bind fun d A1 => (match d with | .int i => .ok (.int (-i)) A1 | _ => .no) := id rfl
theorem ev_tst : mTst me ρ A = (me ρ A).bind fun d A1 => (match d with | .bl k => .ok k A1 | _ => .no) := id rfl
theorem ev_and : mAnd mt mu ρ A = (mt ρ A).bind fun k A1 => if k = true then mu ρ A1 else .ok false A1 := id rfl
theorem ev_or : mOr mt mu ρ A = (mt ρ A).bind fun k A1 => if k = true then .ok true A1 else mu ρ A1 := id rfl
theorem ev_not : mNot mt ρ A = (mt ρ A).bind fun k A1 => .ok (!k) A1 := id rfl
theorem ev_andV : mAndV ma mb ρ A = (ma ρ A).bind fun d A1 => (match d with | .bl true => mb ρ A1 | .bl false => .ok (.bl false) A1 | _ => .no) := id rfl
theorem ev_orV : mOrV ma mb ρ A = (ma ρ A).bind fun d A1 => (match d with | .bl true => .ok (.bl true) A1 | .bl false => mb ρ A1 | _ => .no) := id rfl
theorem ev_notV : mNotV ma ρ A = (ma ρ A).bind fun d A1 => (match d with | .bl k => .ok (.bl (!k)) A1 | _ => .no) := id rfl
theorem ev_if : mIf mt ma mb ρ A = (mt ρ A).bind fun k A1 => if k = true then ma ρ A1 else mb ρ A1 := id rfl
theorem ev_chn {f2 : D → D → AH → Res D} : mChn f f2 ma mb mc ρ A = (ma ρ A).bind fun x A1 => (mb ρ A1).bind fun y A2 => (f x y A2).bind fun z A3 => (match z with | .bl true => (mc ρ A3).bind fun w A4 => f2 y w A4 | .bl false => .ok (.bl false) A3 | _ => .no) := id rfl
theorem ev_nil : mNil ρ A = .ok [] A := id rfl
theorem ev_cons : mCons me ms ρ A = (me ρ A).bind fun d A1 => (ms ρ A1).bind fun ds A2 => .ok (d :: ds) A2 := id rfl
theorem ev_tup : mTup ms ρ A = (ms ρ A).bind fun ds A1 => if ds.length ≤ 1000 then .ok (.tup ds) A1 else .no := id rfl
theorem ev_lst : mLst ms ρ A = (ms ρ A).bind fun ds A1 => if ds.length ≤ 1000 then .ok (.lst ds) A1 else .no := id rfl
theorem ev_new : mNew ms ρ A = (ms ρ A).bind fun ds A1 => if ds.length ≤ 1000 then .ok (.ref A1.length) (A1 ++ [.lst ds]) else .no := id rfl
theorem ev_call : mCall g ms ρ A = (ms ρ A).bind fun ds A1 => g ds A1 := id rfl
theorem ev_callF : mCallF n g ms ρ A = (ms ρ A).bind fun ds A1 => if ds.length = n then g ds A1 else .no := id rfl
theorem ev_callK : mCallK n l a pm g ms mk ρ A = (ms ρ A).bind fun ds A1 => (mk ρ A1).bind fun es A2 => if ds.length = n ∧ es.length = l ∧ (DM.pick pm (ds ++ es)).length = a then g (DM.pick pm (ds ++ es)) A2 else .no := id rfl
theorem ev_met : mMet g2 mo ms ρ A = (mo ρ A).bind fun d A1 => (match d with | .ref n => (match A1[n]? with | some (.lst _) => (ms ρ A1).bind fun ds A2 => g2 n ds A2 | _ => .no) | _ => .no) := id rfl
theorem ev_sl : mSl me ml mh ρ A = (me ρ A).bind fun d A1 => (ml ρ A1).bind fun lo A2 => (mh ρ A2).bind fun hi A3 => fSl d lo hi A3 := id rfl
theorem ev_some : mSome me ρ A = (me ρ A).bind fun d A1 => (match d with | .int i => .ok (some i) A1 | _ => .no) := id rfl
theorem ev_none : mNone ρ A = .ok none A := id rfl
theorem ev_rev : mRev b me ρ A = (me ρ A).bind fun d A1 => if isTup d = true then .no else (match seqOf A1 d with | some xs => if b then .ok (.ref A1.length) (A1 ++ [.lst xs.reverse]) else .ok (.lst xs.reverse) A1 | none => .no) := id rfl
theorem ev_lc : mLc b mi t mt me vs ρ A = (mi ρ A).bind fun iv A1 => (match itemsOf A1 iv with | some all => if all.length ≤ 16777216 then (compGo iv all t mt me (wipeD ρ vs) all [] A1).bind fun acc A2 => if b = true then .ok (.ref A2.length) (A2 ++ [.lst acc]) else .ok (.lst acc) A2 else .no | none => .no) := id rfl
theorem ev_yes : mYes ρ A = .ok true A := id rfl
theorem ev_sq : mSq me ρ A = (me ρ A).bind fun d A1 => (match seqOf A1 d with | some _ => .ok (.sq d) A1 | none => .no) := id rfl
theorem ev_r1 : mR1 ms ρ A = (ms ρ A).bind fun ds A1 => (match ds with | [.int j] => if -(2 ^ 62) ≤ j ∧ j < 2 ^ 62 then .ok (.rng 0 j) A1 else .no | _ => .no) := id rfl
theorem ev_next : mNext ρ A = .nx ρ A := id rfl
theorem ev_drop : mDrop me ρ A = lift (me ρ A) ρ fun _ A1 => .nx ρ A1 := id rfl
theorem ev_ret : mRet me ρ A = lift (me ρ A) ρ fun d A1 => .rt d A1 := id rfl
theorem ev_ifs : mIfS mt sa sb ρ A = lift (mt ρ A) ρ fun k A1 => if k = true then sa ρ A1 else sb ρ A1 := id rfl
theorem ev_set : mSet i me ρ A = lift (me ρ A) ρ fun d A1 => .nx (ρ.set i (some d)) A1 := id rfl
theorem ev_par2 : mPar2 i j ms ρ A = lift (ms ρ A) ρ fun ds A1 => (match ds with | [x, y] => .nx ((ρ.set i (some x)).set j (some y)) A1 | _ => .no) := id rfl
theorem ev_par3 : mPar3 i j l ms ρ A = lift (ms ρ A) ρ fun ds A1 => (match ds with | [x, y, z] => .nx (((ρ.set i (some x)).set j (some y)).set l (some z)) A1 | _ => .no) := id rfl
theorem ev_asg : mAsg t me ρ A = lift (me ρ A) ρ fun d A1 => (match bindT t d ρ with | some ρ1 => .nx ρ1 A1 | none => .no) := id rfl
theorem ev_for : mFor mi t sb ρ A = lift (mi ρ A) ρ fun iv A1 => (match itemsOf A1 iv with | some all => forGo iv all t sb all ρ A1 | none => .no) := id rfl
theorem ev_nm : bindT (.nm i) d ρ = some (ρ.set i (some d)) := id rfl
theorem seq_nx {ρ1 : DM.Env} {A1 : AH} (h : sa ρ A = .nx ρ1 A1) : mSeq sa sb ρ A = sb ρ1 A1 := by unfold mSeq; rw [h]
theorem seq_rt {d : D} {A1 : AH} (h : sa ρ A = .rt d A1) : mSeq sa sb ρ A = .rt d A1 := by unfold mSeq; rw [h]
theorem fun_rt {ds : List D} {d : D} {A1 : AH} (h : sa (ds.map some ++ List.replicate (n - ds.length) none) A = .rt d A1) : mFun n sa ds A = .ok d A1 := by unfold mFun; rw [h]
end
/-- a range; not for the simplifier: over a number that is a length the kernel would count -/
theorem r1_at {ms : MA} {ρ : DM.Env} {A A1 : AH} {j : Int} (h : ms ρ A = .ok [.int j] A1) (hz : -(2 ^ 62) ≤ j ∧ j < 2 ^ 62) : mR1 ms ρ A = .ok (.rng 0 j) A1 := by
  unfold mR1
  rw [h, bind_ok]
  exact if_pos hz
/-- for, one turn -/
theorem for_nil {iv : ItV} {all : List D} {t : Tg} {sb : MS} {ρ : DM.Env} {A : AH} (h : itemsOf A iv = some all) : forGo iv all t sb [] ρ A = .nx ρ A := by
  unfold forGo; rw [if_pos h]
theorem for_nx {iv : ItV} {all xs : List D} {x : D} {t : Tg} {sb : MS} {ρ ρ1 ρ2 : DM.Env} {A A2 : AH} (h : itemsOf A iv = some all) (hb : bindT t x ρ = some ρ1) (hs : sb ρ1 A = .nx ρ2 A2) : forGo iv all t sb (x :: xs) ρ A = forGo iv all t sb xs ρ2 A2 := by
  conv => lhs; unfold forGo
  rw [if_pos h, hb]
  simp only [hs]
def EVa := And.intro (And.intro (And.intro (And.intro (And.intro (@ev_var) (@ev_K)) (And.intro (@ev_op) (@ev_neg))) (And.intro (And.intro (@ev_tst) (@ev_and)) (And.intro (@ev_or) (And.intro (@ev_not) (@ev_andV))))) (And.intro (And.intro (And.intro (@ev_orV) (@ev_notV)) (And.intro (@ev_if) (@ev_chn))) (And.intro (And.intro (@ev_nil) (@ev_cons)) (And.intro (@ev_tup) (And.intro (@ev_lst) (@ev_new)))))) (And.intro (And.intro (And.intro (And.intro (@ev_call) (@ev_callF)) (And.intro (@ev_callK) (@ev_met))) (And.intro (And.intro (@ev_sl) (@ev_some)) (And.intro (@ev_none) (And.intro (@ev_rev) (@ev_yes))))) (And.intro (And.intro (And.intro (@ev_sq) (@ev_next)) (And.intro (@ev_drop) (And.intro (@ev_ret) (@ev_ifs)))) (And.intro (And.intro (@ev_set) (@ev_par2)) (And.intro (@ev_par3) (And.intro (@ev_asg) (@ev_nm))))))
end DM
end
section
set_option maxHeartbeats 2000000
/-! own errors: [C, .. own classes .., Exception, BaseException, object] and the like -/
namespace PySem
namespace ErE
open Builtin Builtin.ObjectAttr
/-- own classes, then the built-in base's line -/
inductive Line (bm : List Value) : List Value → Prop
  | tail : Line bm bm
  | own {c : Addr} {r : List Value} : Line bm r → Line bm (.ref c :: r)
/-- the built-in base: what is asked of it -/
structure Base (B newId initId : String) (bm : List Value) : Prop where
  call : ∀ {prog : Program} {w : World} {A : Around} {R : Result → Shared → Prop} {h : Heap} {g : Array GenState} {d : Drawn} {t : Nat} {os : OsState} {nm q : Str} {C N : Addr} {bs l : List Value} {hdct : Bool} {sn : List Str} {sub : List Value} {ab : Bool} {col : Option Bool} {dd : Option Addr} {k0 k1 k2 k3 k5 : Option Value} {rest : List Value} {fI : Addr},
    (∀ X : String, l.contains (.type X) = bm.contains (.type X)) → h.get? C = some (excClassObj nm q C N bs l hdct sn sub ab col dd k0 k1 k2 k3 k5 newId) →
    W.Looks (model prog w) h (typeLookup (.ref C) "__init__") (some (.ref fI)) → (∀ self, W.Looks (model prog w) h (bindSpecial (.ref fI) self) (.ref fI, [self])) → rest.length ≤ sizeLine →
    codeAny (model prog w) (A.under (.builtin "type.__call__" ⟨.ref C :: rest, []⟩)) (.call (.ref fI) ⟨.ref (h.objs.size + 1) :: rest, []⟩) (W.InitBack (h.objs.size + 1) R) ⟨(h.push (W.kdv_tup rest)).push (HandSPX.excO C h.objs.size), g, d, t, os⟩ →
    codeAny (model prog w) A (.call (.ref C) ⟨rest, []⟩) R ⟨h, g, d, t, os⟩
  bound : ∀ {M : Model} {A : Around} {E : Value → Shared → Prop} {h : Heap} {g : Array GenState} {d : Drawn} {t : Nat} {os : OsState} {nm q : Str} {C N e : Addr} {oe : Obj} {bs l : List Value} {hdct : Bool} {sn : List Str} {sub : List Value} {ab : Bool} {col : Option Bool} {dd : Option Addr} {k0 k1 k2 k3 k5 : Option Value} {rest : List Value} {Q : Unit → Shared → Prop},
    h.get? C = some (excClassObj nm q C N bs l hdct sn sub ab col dd k0 k1 k2 k3 k5 newId) → h.get? e = some oe → oe.cls = .ref C → Q () ⟨h, g, d, t, os⟩ → wpAny M A (checkBoundCall initId ⟨.ref e :: rest, []⟩) Q E ⟨h, g, d, t, os⟩
  plain : plainId initId = true
  entry : entryFor table initId = some Builtin.«BaseException.__init__»
  KF : W.KxsFacts B initId
  pass : ∀ self, refuseLoop self "__setattr__" bm = pure ()
  obj : bm.contains (.type "object") = true
  ne : bm.isEmpty = false
theorem base_Exception : Base "Exception" "Exception.__new__" "Exception.__init__" [.type "Exception", .type "BaseException", .type "object"] :=
  ⟨fun hT hC hi hb hr hq => HandSPX.call_own F.excBase_Exception hT hC hi hb hr hq, fun hC he hc hq => W.check_bound_init F.excBase_Exception.toExcCallFacts hC he hc hq, F.excBase_Exception.init.plain, F.excBase_Exception.initEntry,
    W.kxs_Exception, F.store_Exception.passes, by decide +kernel, rfl⟩
theorem Line.pass {bm l : List Value} (p : ∀ self, refuseLoop self "__setattr__" bm = pure ()) (h : Line bm l) (self : Value) : refuseLoop self "__setattr__" l = pure () := by
  induction h with
  | tail => exact p self
  | own _ ih => rw [refuseLoop_ref]; exact ih
theorem Line.has {bm l : List Value} (h : Line bm l) (X : String) : l.contains (.type X) = bm.contains (.type X) := by
  induction h with
  | tail => rfl
  | own _ ih => rw [List.contains_cons, ih]; rfl
theorem Line.ne {bm l : List Value} (n : bm.isEmpty = false) (h : Line bm l) : l.isEmpty = false := by
  cases h with
  | tail => exact n
  | own _ => rfl
section
variable {prog : Program} {w : World} {A : Around} {E : Value → Shared → Prop} {R : Result → Shared → Prop} {hp : Heap} {g : Array GenState} {d : Drawn} {t : Nat} {os : OsState} {B newId initId : String} {bm : List Value}
/-- the first field of an error without a dict -/
theorem first_field {K : W.Frag} {f : Str} {tk : Tok} {v : Value} {e C : Addr} {fv : Array Value} {cd : ClassData} (BF : Base B newId initId bm)
    (KI : K.In hp) (he : hp.get? e = some { cls := .ref C, data := .fields fv }) (hcd : W.clsIn K C = some cd) (hl : Line bm cd.mro) (hdct : cd.hasDict = true) (hno : W.findIn K (.ref C) f = some none)
    (fin : ∀ h2 tk2 dx, (∀ b o, b ≠ e → hp.get? b = some o → h2.get? b = some o) → hp.objs.size ≤ dx → dx ≠ e → h2.get? e = some { cls := .ref C, dict := some dx, data := .fields fv } →
      h2.Ns1 dx (fun y => if y = f then some v else none) → R (.ok (.ret .none)) ⟨h2, g, d, tk2, os⟩) :
    codeAny (model prog w) A (.call (.builtin "object.__setattr__") ⟨[.ref e, .str f tk, v], []⟩) R ⟨hp, g, d, t, os⟩ := by
  have J : W.InstAt hp e { cls := .ref C, data := .fields fv } C none := ⟨he, rfl, rfl, trivial⟩
  have ob := F.store_object
  have isO : cd.mro.contains (.type "object") = true := by rw [hl.has]; exact BF.obj
  have far : e ≠ hp.objs.size := Nat.ne_of_lt (Heap.lt_size he)
  have inO : W.Looks (model prog w) hp (isInstance (.ref e) (.type "object")) true := J.type.andThen (W.looks_mroIn KI (by
    unfold W.mroIn
    rw [hcd, Option.bind_some, if_neg (by rw [hl.ne BF.ne]; decide), isO]))
  refine codeAny_call_builtin ob.slot.plain ob.entry ?_
  refine @W.check_slot (model prog w) _ _ ⟨hp, g, d, t, os⟩ "object.__setattr__" "object" "__setattr__" (.ref e) [.str f tk, v] [] _ ob.kind ob.split inO (ob.args (.ref e) (.str f tk) v) ?_
  have lineIs : W.Looks (model prog w) hp (mroOf (.ref C)) cd.mro := (W.looks_clsIn KI hcd).andThen .now
  have none3 : W.Looks (model prog w) hp (storeTaker? none) none := .now
  have data : W.Looks (model prog w) hp (classData C) cd := W.looks_clsIn KI hcd
  rw [W.osa_eq, refuse_eq]
  refine wpAny_bind (wpAny_bind (J.type.at ?_))
  refine wpAny_bind (lineIs.at ?_)
  rw [hl.pass BF.pass]
  refine wpAny_pure (wpAny_bind (J.type.at ?_))
  refine wpAny_bind ((W.looks_findIn KI hno).at (wpAny_bind (none3.at ?_)))
  show wpAny _ _ (storeInOwnDict (.ref e) (.ref C) (.str f tk) f v false) _ _ _
  obtain ⟨nm, bs, mro, ns, qn, hd, sn, sb, ab, col, del⟩ := cd
  dsimp only at hdct
  subst hdct
  unfold storeInOwnDict ownDictForStores
  repeat (first | with_reducible refine HandSPX.store_in_new ?_ ?_ | with_reducible refine wpAny_loadPart_at he ?_ | with_reducible refine data.at ?_ | wp_step)
  · refine ⟨_, #[], _, (Heap.get?_update_ne _ _ _ _ far.symm).trans (Heap.get?_push_at rfl rfl), rfl, ?_, fun _ => rfl⟩
    intro y hy
    exact absurd hy (by simp)
  · intro h2 tk2 hn2 same
    have he1 : (hp.push { cls := .type "dict", data := .dict #[] }).get? e = some { cls := .ref C, data := .fields fv } := Heap.get?_push_of_some _ he
    refine fin h2 tk2 hp.objs.size ?_ (Nat.le_refl _) far.symm ((same.2 e far).trans (Heap.get?_update_self _ he1 rfl)) hn2
    intro b o hb ho
    exact (same.2 b (Nat.ne_of_lt (Heap.lt_size ho))).trans ((Heap.get?_update_ne _ _ _ _ hb).trans (Heap.get?_push_of_some _ ho))
/-- the built-in __init__, bound to the error, is called: the args are laid anew -/
theorem mw_call {C e u t0 : Addr} {nm q : Str} {N : Addr} {bs bm1 : List Value} {hdct : Bool} {sn : List Str} {sub : List Value} {ab : Bool} {col : Option Bool} {dd : Option Addr} {k0 k1 k2 k3 k5 : Option Value} {rest : List Value} {Q : Value → Shared → Prop} (BF : Base B newId initId bm)
    (hC : hp.get? C = some (excClassObj nm q C N bs bm1 hdct sn sub ab col dd k0 k1 k2 k3 k5 newId)) (he : hp.get? e = some (HandSPX.excO C t0)) (hu : hp.get? u = some (W.kxs_mw initId e)) (hz : rest.length ≤ sizeLine)
    (fin : ∀ h' t1, (∀ b o, b ≠ e → hp.get? b = some o → h'.get? b = some o) → h'.get? e = some (HandSPX.excO C t1) → Q .none ⟨h', g, d, t, os⟩) :
    wpAny (model prog w) A (call (.ref u) rest) Q E ⟨hp, g, d, t, os⟩ := by
  refine wpAny_call (codeAny_of_tree ?_)
  show wpAny _ A.in1 (callAny (.ref u) ⟨rest, []⟩) _ _ _
  simp only [callAny]
  refine wpAny_bind (wpAny_load hu ?_)
  simp only [W.kxs_mw, show (Value.type "method-wrapper" == Value.type "method" || Value.type "method-wrapper" == Value.type "builtin_function_or_method" || Value.type "method-wrapper" == Value.type "method-wrapper") = true by decide, if_true]
  refine W.KFB.if_so (by decide) ?_
  refine wpAny_bind (BF.bound hC he rfl ?_)
  refine wpAny_bind (wpAny_pure (wpAny_pure ?_))
  refine ⟨plainId_quiet BF.plain _, codeAny_builtin BF.entry ?_⟩
  exact W.exc_init_tree (cls := .ref C) (t0 := t0) (dv := none) (c2 := .none) (c3 := .none) (b4 := .bool false) he hz fun h' k e1 _ => fin h' _ k e1
end
/-- what the written part says of an error's class; its __init__ is super().__init__(x); self.f = x -/
structure ErrC (prog : Program) (K : W.Frag) (B newId initId : String) (bm : List Value) (C fI : Addr) (f : Str) : Prop where
  base : Base B newId initId bm
  cls : ∃ nm q N bs bm1 sn sub ab col dd k0 k1 k2 k3 k5, K.lookup C = some (excClassObj nm q C N bs bm1 true sn sub ab col dd k0 k1 k2 k3 k5 newId) ∧ Line bm bm1
  sa : W.findIn K (.ref C) "__setattr__" = some (some (.builtin "object.__setattr__"))
  ini : W.findIn K (.ref C) "__init__" = some (some (.ref fI))
  tI : W.typeIn K (.ref fI) = some (.type "function")
  fld : W.findIn K (.ref C) f = some none
  sup : W.ks_superIn K C C "__init__" = some (some (.builtin initId))
  subB : W.subIn K (.ref C) (.type B) = some true
  opq : W.nsIn K cStatics "thirdparty.any" = some none
  top : (prog.main.scope.names.lookup ("super" : Str)).isSome = false
  fn : ∃ (oc : Value) (od : Option Addr) (osl : Array (Option Value)) (qual : Str) (params : Arguments) (scope : Scope) (dV kV doc pm ct : Value) (an : Option Addr) (cda cc : Addr) (x : Str) (p0 p1 p2 p3 p4 p5 p6 p7 p8 p9 : Pos),
    K.lookup fI = some ⟨oc, od, .func (W.ksFn "__init__" qual params [.Expr (.Call (.Attribute (.Call (.Name "super" p0) [] [] p1) "__init__" p2) [.Name x p3] [] p4) p5, .Assign [.Attribute (.Name "self" p6) f p7] (.Name x p8) p9] scope dV kV doc pm an (.ref cda) ct cc), osl⟩ ∧
      W.codeIn K (.ref cda) qual = true ∧ (∃ (ccl : Value) (cdd : Option Addr) (vs : Array Value) (ccs : Array (Option Value)) (file : Str) (tf : Tok), K.lookup cda = some ⟨ccl, cdd, .fields vs, ccs⟩ ∧ vs[2]? = some (.str file tf) ∧ ((prog.main.file : Str) == file) = true) ∧
      (∃ (cl : Value) (cld : Option Addr) (csl : Array (Option Value)), K.lookup cc = some ⟨cl, cld, .cell (some (.ref C)), csl⟩) ∧
      scope.names.lookup ("super" : Str) = some .globalImplicit ∧ scope.names.lookup ("__class__" : Str) = some .free ∧ scope.names.lookup ("self" : Str) = some .local ∧ scope.names.lookup x = some .local ∧ x ≠ "self" ∧ (x == ("__debug__" : Str)) = false ∧ (∀ y ∈ scope.names, y.2 ≠ .cell) ∧ scope.kind = .function ∧ scope.isCoroutine = false ∧ scope.isGenerator = false ∧ (p2.endLine == p4.line) = true ∧
      ((params.posonlyargs ++ params.args).head?.map (·.arg) = some "self") ∧
      ∀ (s : Shared) (a b : Value), BindsTo s (W.ksFn "__init__" qual params [.Expr (.Call (.Attribute (.Call (.Name "super" p0) [] [] p1) "__init__" p2) [.Name x p3] [] p4) p5, .Assign [.Attribute (.Name "self" p6) f p7] (.Name x p8) p9] scope dV kV doc pm an (.ref cda) ct cc) ⟨[a, b], []⟩ [("self", a), (x, b)]
open PySem.W PySem.Calls PyProof.Rows in
/-- C(u) -/
theorem make_err {prog : Program} {w : World} {A : Around} {R : Result → Shared → Prop} {h : Heap} {g : Array GenState} {d : Drawn} {t : Nat} {os : OsState} {K : W.Frag} {B newId initId : String} {bm : List Value} {C fI : Addr} {f : Str} {u : Value} {mg : Str → Option Value}
    (T : ErrC prog K B newId initId bm C fI f) (M : L2.Mod K mg h) (hsup : mg "super" = none) (room : (A.under (.builtin "type.__call__" ⟨.ref C :: [u], []⟩)).depth < recursionLimit)
    (fin : ∀ e h2 t2 dx t1, (∀ b o, h.get? b = some o → h2.get? b = some o) → h.objs.size ≤ e → h.objs.size ≤ dx → dx ≠ e →
      h2.get? e = some { cls := .ref C, dict := some dx, data := .fields #[.ref t1, .none, .none, .none, .bool false, .none] } → h2.Ns1 dx (fun y => if y = f then some u else none) → R (.ok (.ret (.ref e))) ⟨h2, g, d, t2, os⟩) :
    codeAny (model prog w) A (.call (.ref C) ⟨[u], []⟩) R ⟨h, g, d, t, os⟩ := by
  obtain ⟨nm, q, N, bs, bm1, sn, sub, ab, col, dd, k0, k1, k2, k3, k5, hC, hl⟩ := T.cls
  have hcd : W.clsIn K C = some { name := nm, bases := bs, mro := .ref C :: bm1, ns := N, qualname := q, hasDict := true, slotNames := sn, subclasses := sub, abstract := ab, collection := col, hasDel := false } := by unfold W.clsIn; rw [hC] <;> rfl
  refine T.base.call (fun Y => hl.has Y) (M.kin _ _ hC) (looks_findIn M.kin T.ini) (fun self => bind_fn M.kin self T.tI) (by show 1 ≤ sizeLine; rw [sizeLine_eq]; omega) ?_
  obtain ⟨oc, od, osl, qual, params, scope, dV, kV, doc, pm, ct, an, cda, cc, x, p0, p1, p2, p3, p4, p5, p6, p7, p8, p9, lk, hcode, ⟨ccl, cdd, vs, ccs, file, tf, hcc, hvs, hfile⟩, ⟨cl, cld, csl, hcell⟩, ks, kc, kself, kx, nxs, hdb, ncell, hk, hco, hgen, hline, hfirst, bi⟩ := T.fn
  generalize hE : A.under (.builtin "type.__call__" ⟨.ref C :: [u], []⟩) = A2 at room ⊢
  have kp : ∀ b o, h.get? b = some o → ((h.push (kdv_tup [u])).push (HandSPX.excO C h.objs.size)).get? b = some o := fun b o e => Heap.get?_push_of_some _ (Heap.get?_push_of_some _ e)
  have hget : ((h.push (kdv_tup [u])).push (HandSPX.excO C h.objs.size)).get? (h.objs.size + 1) = some (HandSPX.excO C h.objs.size) := by heap_get
  have hsz1 : h.objs.size ≤ h.objs.size + 1 := Nat.le_succ _
  have hM1 : L2.Mod K mg ((h.push (kdv_tup [u])).push (HandSPX.excO C h.objs.size)) := by
    obtain ⟨a1, a2, ⟨mb, a3, a4⟩, a5⟩ := M
    exact ⟨a1.keeps kp, a2.keeps kp, ⟨mb, a3.keeps kp, a4⟩, a5.keeps kp⟩
  generalize h.objs.size + 1 = e at hget hsz1 ⊢
  generalize hh1 : (h.push (kdv_tup [u])).push (HandSPX.excO C h.objs.size) = h1 at *
  generalize h.objs.size = t0 at hget
  have hloc : ∀ y ∈ ([("self", .ref e), (x, u)] : List (Str × Value)), scope.names.lookup y.1 = some .local := by
    intro y hy
    rcases List.mem_cons.mp hy with rfl | hy
    · exact kself
    · rw [List.mem_singleton.mp hy]; exact kx
  refine ks_codeAny_call_defAt (h := ?_) (binds := ([("self", .ref e), (x, u)] : List (Str × Value))) room (hM1.kin _ _ lk) rfl hM1.nolimit (codeRec_of hM1.kin hcode) rfl (bi _ _ _) ncell hloc hco hgen hk
  intro h2 hns k2
  have hM2 : L2.Mod K mg h2 := by
    obtain ⟨a1, a2, ⟨mb, a3, a4⟩, a5⟩ := hM1
    exact ⟨a1.keeps k2, a2.keeps k2, ⟨mb, a3.keeps k2, a4⟩, a5.keeps k2⟩
  have he2 := k2 _ _ hget
  have vself : (fun y => ([("self", Value.ref e), (x, u)] : List (Str × Value)).reverse.lookup y) "self" = some (.ref e) := by
    show List.lookup ("self" : Str) ([(x, u), ("self", Value.ref e)] : List (Str × Value)) = _
    rw [List.lookup_cons, show (("self" : Str) == x) = false by simpa using Ne.symm nxs]
    rfl
  have vx : (fun y => ([("self", Value.ref e), (x, u)] : List (Str × Value)).reverse.lookup y) x = some u := by
    show List.lookup x ([(x, u), ("self", Value.ref e)] : List (Str × Value)) = _
    rw [List.lookup_cons, show (x == x) = true by simp]
  obtain ⟨oD, hD1, hD2⟩ : ∃ oD, h2.get? C = some oD ∧ ∃ cd, oD.data = .cls cd := ⟨_, hM2.kin _ _ hC, _, rfl⟩
  obtain ⟨cdD, hD2⟩ := hD2
  obtain ⟨mb, hmb, hmbb⟩ := hM2.blt
  have Ie : InstAt h2 e (HandSPX.excO C t0) C none := ⟨he2, rfl, rfl, trivial⟩
  have subC : mroIn K C (.ref C) = some true := by
    unfold mroIn
    rw [hcd, Option.bind_some]
    simp
  refine ks_wpAt_execs_cons (ks_wpAt_Expr_any (ks_wpAt_MethodCall (pl := (do return (← importBound (.Call (.Name "super" p0) [] [] p1) (callEnv (ksFn "__init__" qual params [.Expr (.Call (.Attribute (.Call (.Name "super" p0) [] [] p1) "__init__" p2) [.Name x p3] [] p4) p5, .Assign [.Attribute (.Name "self" p6) f p7] (.Name x p8) p9] scope dV kV doc pm an (.ref cda) ct cc) h1.objs.size fI)).getD true)) ?_ ?heq) ?hint)
  case hint =>
    show interactive _ = false
    unfold interactive
    simp [callEnv, newEnv, hk]
  case heq =>
    rw [arm_eval_Call]
    simp only [methodCall, methodCallPos, hline, Bool.or_true, if_true, bind_pure_comp, pure_bind, bind_assoc]
    rfl
  cases hfa : (params.posonlyargs ++ params.args).head? with
  | none => rw [hfa] at hfirst; cases hfirst
  | some ar =>
  rw [hfa] at hfirst
  have har : ar.arg = "self" := Option.some.inj hfirst
  refine ks_wpAt_super_base (fd := ksFn "__init__" qual params _ scope dV kV doc pm an (.ref cda) ct cc) ks kc (by decide +kernel) rfl (hM2.kin _ _ lk) rfl hfa rfl (hM2.kin _ _ hcc) rfl hvs hfile T.top ?_
  refine ks_loadName_global hk ks (loadGlobal_builtin hM2.glob hsup hmb ((hmbb _ (by decide +kernel)).trans PyProof.Rows.Boot.«super») ⟨rfl, ?_⟩)
  refine wpAny_loadName_free hk kc rfl ⟨_, hM2.kin _ _ hcell, rfl⟩ ?_
  rw [har]
  refine wpAny_loadName_local hk kself hns vself ?_
  refine ks_wpAny_isType_cls hD1 hD2 ⟨rfl, ?_⟩
  refine ks_wpAny_call_super hD1 hD2 he2 rfl (fun c z => by cases z) (looks_mroIn hM2.kin subC) (fun h3 e3 k3 => ?_)
  have k13 : ∀ b o, h1.get? b = some o → h3.get? b = some o := fun b o z => k3 b o (k2 b o z)
  have KX3 : K.In h3 := hM2.kin.keeps k3
  have he3 := k3 _ _ he2
  have Ie3 : InstAt h3 e (HandSPX.excO C t0) C none := ⟨he3, rfl, rfl, trivial⟩
  have hsup2 := T.sup
  unfold ks_superIn at hsup2
  rw [hcd, Option.bind_some] at hsup2
  refine kxs_getMethod T.base.KF e3 (looks_opaque KX3 T.opq) (l₀ := .ref C :: bm1) ?_ rfl KX3 hsup2 (Ie3.type.andThen (looks_subIn KX3 T.subB)) (ks_ne KX3 Ie3 hcd) (by decide +kernel) ?_
  · exact fun A Q E s k q => wpAny_bind ((looks_clsIn KX3 hcd) A _ E s k (wpAny_pure q))
  have hu4 : (h3.push (kxs_mw initId e)).get? h3.objs.size = some (kxs_mw initId e) := Heap.get?_push_at rfl rfl
  have k4 : ∀ b o, h3.get? b = some o → (h3.push (kxs_mw initId e)).get? b = some o := fun b o z => Heap.get?_push_of_some _ z
  generalize h3.push (kxs_mw initId e) = h4 at hu4 k4 ⊢
  generalize h3.objs.size = uu at hu4 ⊢
  have hns4 := (hns.keeps k3).keeps k4
  refine kxs_callWith (i := initId) (x := e) (by rfl) (evalArgs_plain ?_)
  show wpAny _ _ (spliced ((false, eval (.Name x p3) _) :: backTo p4 (starEach [] _))) _ _ _
  refine Calls.spliced_cons (wpAny_Name (wpAny_loadName_local hk kx hns4 vx (Calls.spliced_nil ⟨hu4, ?_⟩)) hdb)
  refine mw_call T.base (KX3.keeps k4 _ _ hC) (k4 _ _ he3) hu4 (by show 1 ≤ sizeLine; rw [sizeLine_eq]; omega) fun h5 t1 k5 e5 => ?_
  have nL : h1.objs.size ≠ e := Nat.ne_of_gt (Heap.lt_size hget)
  have hns5 : h5.Ns h1.objs.size (fun y => ([("self", Value.ref e), (x, u)] : List (Str × Value)).reverse.lookup y) := by
    obtain ⟨o, es, ep, a, b, c⟩ := hns4
    exact ⟨o, es, ep, k5 _ _ nL a, b, c⟩
  have old : ∀ b o, h.get? b = some o → b ≠ e := fun b o z => Nat.ne_of_lt (Nat.lt_of_lt_of_le (Heap.lt_size z) hsz1)
  have k15 : ∀ b o, b ≠ e → h1.get? b = some o → h5.get? b = some o := fun b o n z => k5 b o n (k4 b o (k13 b o z))
  have KX5 : K.In h5 := fun b o z => k15 b o (old b o (M.kin b o z)) (hM1.kin b o z)
  refine wpAt_of_wpAny (wpAny_execs_cons (plainObj_wpAny_Assign_Attribute (wpAny_Name (wpAny_loadName_local hk kx hns5 vx (wpAny_Name (wpAny_loadName_local hk kself hns5 vself ?_) (by decide +kernel))) hdb) ?hsw))
  case hsw => rfl
  refine set_plain KX5 (ox := HandSPX.excO C t1) (od := none) ⟨e5, rfl, rfl, trivial⟩ T.sa (first_field T.base KX5 e5 hcd (Line.own hl) rfl T.fld fun h6 tk6 dx k6 hdx ndx e6 n6 => ?_)
  refine wpAny_execs_nil ?_
  refine ⟨rfl, fin e h6 tk6 dx t1 (fun b o z => k6 b o (old b o z) (k15 b o (old b o z) (kp b o z))) hsz1 (Nat.le_trans (Nat.le_trans hsz1 (Nat.le_of_lt (Heap.lt_size e5))) hdx) ndx e6 n6⟩
end ErE
end PySem
namespace DM
open PySem PySem.Spec PyProof.Rows L2
section
variable {X : Cx} {W : WX} {B newId initId : String} {bm : List Value} {C fI : Addr} {f x : Str} {e : Expr} {te : TE} {me : ME} {p pos pos2 : Pos}
/-- C(e): an error with one field -/
theorem pmk_err (T : ErE.ErrC X.prog X.K B newId initId bm C fI f) (hr : Room 1 X.A) (hg : Gl X x) (hm : X.mg x = some (.ref C)) (kC : PySem.W.keepIn X.K (.ref C) = true) (r : Raises X (.ref C)) (hsup : X.mg "super" = none) (he : PE X e te)
    (hdb : (x == ("__debug__" : Str)) = false := by decide) (hse : starEach [e] X.env = (false, eval e X.env) :: starEach [] X.env := by rfl) : PMk X (.Call (.Name x p) [e] [] pos) (fun σ H Q => te σ H fun y H1 => ∀ d, H1 d = none → Q (.ref C) (some d) (upd H1 d (.xd [(f, y)]))) := by
  intro pins s σ H Q I h
  refine wpAny_Call_Name_kw (ld_glob I hg hm ?_ hdb)
  have ha : PA X [e] (tCons te tNil) := pa_cons he pa_nil hse
  refine PySem.W.callWith_K (h₀ := X.base) I.ok.mod.kin kC (thn (ha.run pos pins s σ H (fun vs H1 => ∃ y, vs = [y] ∧ ∀ d, H1 d = none → Q (.ref C) (some d) (upd H1 d (.xd [(f, y)]))) I ?_) fun us s1 hh => ?_) hse
  · have e0 : (fun (y : V) (H1 : Hp) => ∀ d, H1 d = none → Q (.ref C) (some d) (upd H1 d (.xd [(f, y)]))) = fun y H1 => (fun vs H1 => ∃ y, vs = [y] ∧ ∀ d, H1 d = none → Q (.ref C) (some d) (upd H1 d (.xd [(f, y)]))) [y] H1 := by
      funext y H1
      refine propext ⟨fun z => ⟨y, rfl, z⟩, fun ⟨y', z, q⟩ => ?_⟩
      cases z
      exact q
    rw [e0] at h
    exact h
  obtain ⟨vs, H1, I1, r1, y, rfl, q⟩ := hh
  refine ⟨I1.kIn, ?_⟩
  cases r1 with
  | cons ru rn =>
    rename_i u us'
    cases rn
    show wpAny _ _ (call (.ref C) [u]) _ _ _
    obtain ⟨hp, g, dr, tk, os⟩ := s1
    have M1 : Mod X.K X.mg hp := by
      obtain ⟨a1, a2, ⟨mb, a3, a4⟩, a5⟩ := I1.mod
      exact ⟨I1.kIn, a2.keeps I1.bk, ⟨mb, a3.keeps I1.bk, a4⟩, a5.keeps I1.bk⟩
    refine wpAny_call (ErE.make_err T M1 hsup (by rw [make_depth]; have := hr.dp; omega) fun a h2 t2 dx t1 k ha hdx ndx e2 n2 => ?_)
    obtain ⟨G, g1, g2⟩ := restrict h2 fun b => decide (b ≠ a)
    have gk : ∀ b, b ≠ a → G.get? b = h2.get? b := fun b hb => g1 b (decide_eq_true hb)
    have ge : G.get? a = none := g2 a (by simp)
    have na : H1 a = none := I1.hok.fresh ha
    have J := I1.laid (t' := t2) (a := dx) (o := .xd [(f, y)]) (h' := G) (fun b o z => (gk b (Nat.ne_of_lt (Nat.lt_of_lt_of_le (Heap.lt_size z) ha))).trans (k b o z)) hdx
      ⟨_, n2.at fun o z => (gk dx ndx).trans z, fun z => relO_put (fs := []) (mA := fun _ => none) ru (fun _ => True.intro) z⟩
    refine ⟨a, _, _, ⟨G, g, dr, t2, os⟩, upd H1 dx (.xd [(f, y)]), .ref C, some dx, rfl, J, fun b o z => ?_, ge, e2, ⟨rfl, rfl⟩, rfl, rfl, ?_, rfl, J.bare, r, q dx (I1.hok.fresh hdx)⟩
    · by_cases hb : b = a
      · rw [hb, ge] at z; cases z
      · exact (gk b hb).symm.trans z
    · rw [upd_ne (Ne.symm ndx)]; exact na
/-- raise C(e) -/
def mRaise (C f : Str) (me : ME) : MS := fun ρ A => lift (me ρ A) ρ fun d A1 => .exc C [(f, d)] ρ A1
theorem s_raise {cn : Str} (hc : X.calm = true) (tk : Takes X W) (T : ErE.ErrC X.prog X.K B newId initId bm C fI f) (hr : Room 1 X.A) (hm : X.mg cn = some (.ref C)) (hcn : clsV X.K cn = some (.ref C)) (kC : PySem.W.keepIn X.K (.ref C) = true)
    (r1 : PySem.W.subIn X.K (.ref C) (.type "BaseException") = some true) (r2 : PySem.W.typeIn X.K (.ref C) = some (.type "type")) (hsup : X.mg "super" = none) (he : DE X W e me) (hg : Gl X cn := by rfl) (hdb : (cn == ("__debug__" : Str)) = false := by decide) (hse : starEach [e] X.env = (false, eval e X.env) :: starEach [] X.env := by rfl) :
    DS X W (.Raise (some (.Call (.Name cn p) [e] [] pos)) none pos2) (mRaise cn f me) :=
  PSi (ps_raise hc tk (pmk_err T hr hg hm kC (raises_own r1 r2) hsup he hdb hse)) fun D σ H ⟨m, A, ρ, R, E, h⟩ => tE.lift R E h fun m1 A1 d v H1 e1 R1 E1 r1 h1 dx hdx => by
    obtain ⟨R2, e2⟩ := R1.new hdx (.xd [(f, v)])
    exact h1 m1 _ _ (some dx) σ e2 R2 (E1.mono e2) hcn ⟨by simp, _, upd_same, R1.out hdx, rfl, .cons (RD.mono e2 _ _ r1) .nil⟩
end
end DM
end
section
set_option maxHeartbeats 2000000
namespace DM
open PySem PySem.Spec PyProof.Rows L2
/-! ### try: several clauses, with names or without -/
abbrev SuiteT := Addr → Value → Option Addr → TS
def goneE (i : Nat) (D : Ends) : Ends where
  nx := fun τ G => D.nx (τ.set i none) G
  rt := D.rt
  bk := fun τ G => D.bk (τ.set i none) G
  ct := fun τ G => D.ct (τ.set i none) G
/-- a clause's suite for the exception at a -/
def runH (oi : Option Nat) (ts : SuiteT) (a : Addr) (cls : Value) (d : Option Addr) (D : Ends) (σ : L2.St) (H : Hp) : Prop := match oi with
  | none => ts a cls d D σ H
  | some i => ts a cls d (goneE i D) (σ.set i (some (.ref a))) H
def wHs (K : PySem.W.Frag) (Wout : WX) (D : Ends) : List (Value × Option Nat × SuiteT) → WX
  | [] => Wout
  | (c, oi, ts) :: r => fun cls d σ H => ∃ b, PySem.W.exmOne K cls c = some b ∧ (b = true → ∀ a, H a = none → runH oi ts a cls d D σ H) ∧ (b = false → wHs K Wout D r cls d σ H)
def SuiteOk (X : Cx) (sts : List Stmt) (ts : SuiteT) : Prop := ∀ (a : Addr) (oe : Obj) (cls : Value) (d : Option Addr) (pn : List (Addr × Obj)), Zc cls d oe → (∃ vs, oe.data = .fields vs) → PSs (X.suite a ((a, oe) :: pn)) sts (ts a cls d)
inductive HsOk (X : Cx) : List ExceptHandler → List (Value × Option Nat × SuiteT) → Prop
  | nil : HsOk X [] []
  | bare {x : Str} {c : Value} {ts : SuiteT} {b₀ : Stmt} {sts : List Stmt} {np hp : Pos} {hds : List ExceptHandler} {l : List (Value × Option Nat × SuiteT)} (hc : Names X x c) (ok : SuiteOk X (b₀ :: sts) ts) (r : HsOk X hds l) :
      HsOk X (.ExceptHandler (some (.Name x np)) none (b₀ :: sts) hp :: hds) ((c, none, ts) :: l)
  | named {x n : Str} {i : Nat} {c : Value} {ts : SuiteT} {b₀ : Stmt} {sts : List Stmt} {np hp : Pos} {hds : List ExceptHandler} {l : List (Value × Option Nat × SuiteT)} (hi : X.N[i]? = some n) (hl : X.env.kindOf n = some .local) (hc : Names X x c) (ok : SuiteOk X (b₀ :: sts) ts) (r : HsOk X hds l) :
      HsOk X (.ExceptHandler (some (.Name x np)) (some n) (b₀ :: sts) hp :: hds) ((c, some i, ts) :: l)
section
variable {X : Cx} {body : List Stmt} {h₀ : ExceptHandler} {hds : List ExceptHandler} {l : List (Value × Option Nat × SuiteT)} {pos : Pos} {tb : WX → TS} {Wout : WX} {pins : List (Addr × Obj)} {σ : L2.St} {H : Hp} {D : Ends}
/-- the clauses, one after the other, over a landed exception -/
theorem hs_go (stk : X.stack = X.env :: X.outer) (hf : X.env.frame = some X.env.locals) (hN : X.N.Nodup) (tk : Takes X Wout) (ok : X.Ok) {a : Addr} {B : Heap} {sI t t3 : Shared} {cls : Value} {d : Option Addr} {h3 : Heap}
    (J : Inv X pins σ H sI) (nb : ∀ b o, sI.heap.get? b = some o → b ∉ frs X.stack → B.get? b = some o) (up : sI.heap.UpToSlots h3) (na : H a = none) (os : t.os = sI.os) (ag : AllBare t.gens)
    (fl : HandSPX.FlyingZ B (X.env :: X.outer) a (Zc cls d) h3) {hds : List ExceptHandler} {l : List (Value × Option Nat × SuiteT)} (hk : HsOk X hds l) :
    wHs X.K Wout D l cls d σ H → wpAny (model X.prog X.w) X.A (handleBy (.ref a) X.env hds) (SP X pins D) X.xe { t with heap := h3 } := by
  have off : ∀ {h : Heap}, HandSPX.FlyingZ B (X.env :: X.outer) a (Zc cls d) h → a ≠ X.env.locals ∧ a ∉ X.fs := fun {h} x => by
    obtain ⟨oe, vs, e1, _, e2⟩ := x.there
    have no : a ∉ frs (X.env :: X.outer) := fun hm => by
      obtain ⟨_, o, e3, nf⟩ := x.2.2.1.mem hm
      rw [e1] at e3; cases e3
      exact nf _ e2
    refine ⟨fun z => no (List.mem_filterMap.mpr ⟨X.env, List.mem_cons_self, by rw [hf, z]⟩), fun hm => ?_⟩
    obtain ⟨e, he, q⟩ := List.mem_filterMap.mp hm
    exact no (List.mem_filterMap.mpr ⟨e, List.mem_cons_of_mem _ he, q⟩)
  obtain ⟨nL, nF⟩ := off fl
  have J3 : Inv X pins σ H { t with heap := h3 } := J.landed nb fl.1 up os ag
  obtain ⟨oe3, vs3, he3, hz3, hd3⟩ := fl.there
  have S3 := J3.suite he3 hd3 na nL nF
  have tested : ∀ {x : Str} {c : Value} {np : Pos}, Names X x c → ∀ {Q : Value → Shared → Prop} {E : Value → Shared → Prop}, Q c { t with heap := h3 } → wpAny (model X.prog X.w) (X.A.mark (some (.ref a))) (eval (.Name x np) X.env) Q E { t with heap := h3 } := fun {x c np} hc {Q E} q => by
    obtain ⟨hg, hd, hm | ⟨hm, hv, hn⟩⟩ := hc
    · exact ld_glob (X := X.suite a ((a, oe3) :: (X.pn ++ pins))) S3 hg hm q hd
    · exact ld_blt (X := X.suite a ((a, oe3) :: (X.pn ++ pins))) S3 hg hm hv q hn hd
  have typ : PySem.W.Looks (model X.prog X.w) h3 (typeOf (.ref a)) cls := fun A Q E s k q => wpAny_typeOf_ref (k _ _ he3) (by rw [hz3.1]; exact q)
  induction hk with
  | nil =>
    intro w
    refine wpAny_handleBy_nil ?_
    have up4 : wpAny (model X.prog X.w) X.A (setFlight (.ref a) X.env.frame) (fun _ s4 => wpAny (model X.prog X.w) X.A (throw (.ref a) : Sem Flow) (SP X pins D) X.xe s4) X.xe { t with heap := h3 } := by
      rw [hf]
      refine HandSPX.setFlight_upZ fl fun h4 hh4 up4 => wpAny_throw (tk _ _ ⟨a, B, sI, pins, σ, H, cls, d, rfl, J, nb, up.trans up4, ?_, na, os, ag, w⟩)
      exact .inr (.inr (by rw [stk]; exact hh4))
    obtain ⟨_, _, _, oe, vs, T, oT, us, e1, e2, e3, e4, _⟩ := id fl
    unfold PySem.passOn
    refine wpAny_bind (wpAny_field e1 e3 e4 ?_)
    rw [if_neg (show ¬ ((Value.ref T == Value.none) = true) from by simp)]
    first
      | exact wpAny_bind (wpAny_pure (wpAny_bind up4))
      | exact wpAny_bind up4
  | bare hc sok r ih =>
    intro w
    obtain ⟨b, hb, yes, no⟩ := w
    refine wpAny_handleBy_cons (codeAny_handlers_test (tested hc ((PySem.W.exm_one (M := model X.prog X.w) J3.kIn typ hb).here ?_))) (by intro q; cases q)
    cases b with
    | false => exact ih (no rfl)
    | true =>
      refine codeAny_handlers_suite (HandSPX.lands_againZ fl fun h4 fl4 up4 => ?_)
      obtain ⟨oe4, vs4, he4, hz4, hd4⟩ := fl4.there
      have S4 := (J.landed nb fl4.1 (up.trans up4) os ag : Inv X pins σ H { t with heap := h4 }).suite he4 hd4 na nL nF
      refine wpAny_mono ((sok a oe4 cls d (X.pn ++ pins) hz4 ⟨_, hd4⟩).run [] _ _ H _ S4 (yes rfl a na)) (fun f s6 z => ?_) fun _ _ z => z.elim
      cases f with
      | next => obtain ⟨τ, G, S6, q⟩ := z; exact ⟨_, _, S6.unsuite ok, q⟩
      | brk => obtain ⟨τ, G, S6, q⟩ := z; exact ⟨_, _, S6.unsuite ok, q⟩
      | cont => obtain ⟨τ, G, S6, q⟩ := z; exact ⟨_, _, S6.unsuite ok, q⟩
      | ret u => obtain ⟨v, τ, G, S6, rv, q⟩ := z; exact ⟨_, _, _, S6.unsuite ok, rv, q⟩
  | named hi hl hc sok r ih =>
    intro w
    obtain ⟨b, hb, yes, no⟩ := w
    refine wpAny_handleBy_cons (codeAny_handlers_test (tested hc ((PySem.W.exm_one (M := model X.prog X.w) J3.kIn typ hb).here ?_))) (by intro q; cases q)
    cases b with
    | false => exact ih (no rfl)
    | true =>
      refine codeAny_handlers_suite_as (HandSPX.lands_againZ fl fun h4 fl4 up4 => ?_)
      obtain ⟨oe4, vs4, he4, hz4, hd4⟩ := fl4.there
      have S4 := (J.landed nb fl4.1 (up.trans up4) os ag : Inv X pins σ H { t with heap := h4 }).suite he4 hd4 na nL nF
      refine store_ok (X := X.suite a ((a, oe4) :: (X.pn ++ pins))) (v := .ref a) S4 hN hi (.inl hl) rfl (fun s5 S5 => ?_) (.inr hl)
      refine wpAny_mono ((sok a oe4 cls d (X.pn ++ pins) hz4 ⟨_, hd4⟩).run [] s5 _ H _ S5 (yes rfl a na)) (fun f s6 z => ?_) fun _ _ z => z.elim
      cases f with
      | next => obtain ⟨τ, G, S6, q⟩ := z; exact gone_ok (S6.unsuite ok) hN hi hl fun s7 J7 => ⟨_, _, J7, q⟩
      | brk => obtain ⟨τ, G, S6, q⟩ := z; exact gone_ok (S6.unsuite ok) hN hi hl fun s7 J7 => ⟨_, _, J7, q⟩
      | cont => obtain ⟨τ, G, S6, q⟩ := z; exact gone_ok (S6.unsuite ok) hN hi hl fun s7 J7 => ⟨_, _, J7, q⟩
      | ret u => obtain ⟨v, τ, G, S6, rv, q⟩ := z; exact gone_ok (S6.unsuite ok) hN hi hl fun s7 J7 => ⟨_, _, _, J7, rv, q⟩
theorem ps_try_hs (stk : X.stack = X.env :: X.outer) (hf : X.env.frame = some X.env.locals) (hN : X.N.Nodup) (tk : Takes X Wout)
    (hb : ∀ (W : WX) (pn : List (Addr × Obj)) (xe : Value → Shared → Prop), Takes (X.tr pn xe) W → PassesOwn (model X.prog X.w) X.A X.env xe → PSs (X.tr pn xe) body (tb W)) (hh : HsOk X (h₀ :: hds) l) :
    PS X (.Try body (h₀ :: hds) [] [] pos) (fun D σ H => tb (wHs X.K Wout D l) D σ H) := by
  refine ⟨fun pins s σ H D I h => ?_⟩
  have ok := I.ok
  refine wpAny_Try_except ?_
  refine wpAny_mono ((hb (wHs X.K Wout D l) (X.pn ++ pins) (fun e s₁ => wpAny (model X.prog X.w) X.A (noteFrame e X.env) (fun _ s₂ => wpAny (model X.prog X.w) X.A (setFlight e none) (fun _ s₃ =>
    wpAny (model X.prog X.w) X.A (handleBy e X.env (h₀ :: hds)) (SP X pins D) X.xe s₃) X.xe s₂) X.xe s₁) (fun u t air => ?_) PassesOwn.looking).run [] s σ H D (I.toTry _) h) (fun f s1 z => ?_) fun e s1 he => he
  · obtain ⟨a, B, sI, pins', τ, G, cls, d, rfl, J0, nb, up, sky, na, os, ag, w⟩ := air
    have sky' : Sky B (X.env :: X.outer) a (Zc cls d) X.env.locals t.heap := by rw [← stk]; exact sky
    refine Sky.land Zc.steady (by rw [ok.frames, stk]) hf sky' fun h3 fl3 up3 => ?_
    exact hs_go (t := t) (t3 := t) stk hf hN tk ok (J0.ofTry ok) nb (up.trans up3) na os ag fl3 hh w
  · cases f with
    | next => obtain ⟨τ, G, J, q⟩ := z; exact wpAny_execs_nil ⟨τ, G, J.ofTry ok, q⟩
    | brk => obtain ⟨τ, G, J, q⟩ := z; exact ⟨τ, G, J.ofTry ok, q⟩
    | cont => obtain ⟨τ, G, J, q⟩ := z; exact ⟨τ, G, J.ofTry ok, q⟩
    | ret u => obtain ⟨v, τ, G, J, rv, q⟩ := z; exact ⟨v, τ, G, J.ofTry ok, rv, q⟩
end
end DM
end
section
set_option maxHeartbeats 2000000
namespace DM
open PySem PySem.Spec PyProof.Rows L2
/-! ### try in the mirror -/
open Classical in
/-- what does not hang on where the exception lies -/
noncomputable def indep (f : Addr → Addr → SRes) : SRes := if h : ∃ r, ∀ a d, f a d = r then Classical.choose h else .no
theorem indep_eq {f : Addr → Addr → SRes} {r : SRes} (h : ∀ a d, f a d = r) : indep f = r := by
  have h' : ∃ r, ∀ a d, f a d = r := ⟨r, h⟩
  unfold indep
  rw [dif_pos h']
  exact (Classical.choose_spec h' 0 0).symm.trans (h 0 0)
theorem indep_at {f : Addr → Addr → SRes} (n : indep f ≠ .no) (a d : Addr) : f a d = indep f := by
  unfold indep at n ⊢
  split
  · rename_i h
    exact Classical.choose_spec h a d
  · rename_i h
    rw [dif_neg h] at n
    exact (n rfl).elim
structure HdM where
  cls : Str
  yes : List Str
  nos : List Str
  slot : Option Nat
  suite : Str → Addr → Option Addr → MS
def goneM : Option Nat → SRes → SRes
  | some i, .nx ρ A => .nx (ρ.set i none) A
  | some i, .bk ρ A => .bk (ρ.set i none) A
  | some i, .ct ρ A => .ct (ρ.set i none) A
  | none, .nx ρ A => .nx ρ A
  | none, .bk ρ A => .bk ρ A
  | none, .ct ρ A => .ct ρ A
  | _, .rt d A => .rt d A
  | _, .exc _ _ _ _ => .no
  | _, .no => .no
def enterM (oi : Option Nat) (a : Addr) (d : Option Addr) (fs : List (Str × D)) (ρ : Env) : Env := match oi with
  | none => ρ
  | some i => ρ.set i (some (.exv a d (fs.map (·.1)) (fs.map (·.2))))
noncomputable def excGo : List HdM → Str → List (Str × D) → Env → AH → SRes
  | [], C, fs, ρ, A => .exc C fs ρ A
  | h :: r, C, fs, ρ, A => if C ∈ h.yes then indep fun a d => goneM h.slot (h.suite C a (if fs = [] then none else some d) (enterM h.slot a (if fs = [] then none else some d) fs ρ) A) else if C ∈ h.nos then excGo r C fs ρ A else .no
noncomputable def mTry (mb : MS) (hs : List HdM) : MS := fun ρ A => match mb ρ A with
  | .exc C fs ρ1 A1 => excGo hs C fs ρ1 A1
  | r => r
def suiteT (K : PySem.W.Frag) (h : HdM) : SuiteT := fun a cls d D σ H => ∃ C, clsV K C = some cls ∧ tS K WNo (h.suite C a d) D σ H
/-- what an except clause must know: its class's value -/
structure HdF (K : PySem.W.Frag) (h : HdM) (c : Value) : Prop where
  yes : ∀ C ∈ h.yes, ∀ v, clsV K C = some v → PySem.W.exmOne K v c = some true
  nos : ∀ C ∈ h.nos, ∀ v, clsV K C = some v → PySem.W.exmOne K v c = some false
inductive HsM (K : PySem.W.Frag) : List HdM → List (Value × Option Nat × SuiteT) → Prop
  | nil : HsM K [] []
  | cons {h : HdM} {c : Value} {hs : List HdM} {l : List (Value × Option Nat × SuiteT)} : HdF K h c → HsM K hs l → HsM K (h :: hs) ((c, h.slot, suiteT K h) :: l)
section
variable {K : PySem.W.Frag} {W : WX} {σ : L2.St} {m m' : Mp} {A : AH} {ρ : Env} {H H' : Hp} {D0 : Ends}
theorem gone_none {r : SRes} (h : PostS K W m H (goneM none r) D0) : PostS K WNo m H r D0 := by
  cases r with
  | nx ρ A => exact h
  | bk ρ A => exact h
  | ct ρ A => exact h
  | rt d A => exact h
  | exc C fs ρ A => exact h.elim
  | no => exact h
theorem REnv.drop (i : Nat) {τ : L2.St} (h : REnv K m H ρ τ) : REnv K m H (ρ.set i none) (τ.set i none) := h.unset i none
theorem gone_some {i : Nat} {r : SRes} (h : PostS K W m H (goneM (some i) r) D0) : PostS K WNo m H r (goneE i D0) := by
  cases r with
  | nx ρ A => exact fun m' H' τ e R' E' => h m' H' (τ.set i none) e R' (E'.drop i)
  | bk ρ A => exact fun m' H' τ e R' E' => h m' H' (τ.set i none) e R' (E'.drop i)
  | ct ρ A => exact fun m' H' τ e R' E' => h m' H' (τ.set i none) e R' (E'.drop i)
  | rt d A => exact h
  | exc C fs ρ A => exact h.elim
  | no => exact h
theorem rd_exv {fs : List (Str × D)} {d : Option Addr} (a : Addr) (x : ExcAt K m H fs d) : RD K m H (.exv a d (fs.map (·.1)) (fs.map (·.2))) (.ref a) := by
  cases d with
  | none =>
    have e : fs = [] := x
    subst e
    exact .exv0 a
  | some dd =>
    obtain ⟨_, gs, h1, h2, h3, h4⟩ := x
    exact .exv1 h1 h2 h3 h4
theorem exc_ok {C : Str} {fs : List (Str × D)} {c : Value} {dx : Option Addr} (hc : clsV K C = some c) (R : Rel K m' A H') (E : REnv K m' H' ρ σ) (hx : ExcAt K m' H' fs dx) (e : Ext m H m' H') :
    ∀ {hs : List HdM} {l : List (Value × Option Nat × SuiteT)}, HsM K hs l → PostS K W m H (excGo hs C fs ρ A) D0 → wHs K W D0 l c dx σ H' := by
  intro hs l hl
  induction hl with
  | nil => exact fun h => h m' H' c dx σ e R E hc hx
  | @cons hd cv hs l F r ih =>
    intro h
    unfold excGo at h
    split at h
    · rename_i hy
      refine ⟨true, F.yes C hy c hc, fun _ a na => ?_, (fun z => nomatch z)⟩
      have nn : indep (fun a d => goneM hd.slot (hd.suite C a (if fs = [] then none else some d) (enterM hd.slot a (if fs = [] then none else some d) fs ρ) A)) ≠ .no := fun z => by
        rw [z] at h
        exact h.elim
      have ed : (if fs = [] then none else some (dx.getD 0)) = dx := by
        cases dx with
        | none => exact if_pos hx
        | some dd => exact if_neg hx.1
      have at_ := indep_at nn a (dx.getD 0)
      rw [← at_, ed] at h
      have h' := PostS.mono e h
      cases hs : hd.slot with
      | none =>
        rw [hs] at h'
        exact ⟨C, hc, m', A, ρ, R, E, gone_none h'⟩
      | some i =>
        rw [hs] at h'
        exact ⟨C, hc, m', A, _, R, E.set (rd_exv a hx) i, gone_some h'⟩
    · split at h
      · rename_i hn
        exact ⟨false, F.nos C hn c hc, (fun z => nomatch z), fun _ => ih h⟩
      · exact h.elim
theorem tryD {mb : MS} {hs : List HdM} {l : List (Value × Option Nat × SuiteT)} (hl : HsM K hs l) (h : tS K W (mTry mb hs) D0 σ H) : tS K (wHs K W D0 l) mb D0 σ H := by
  obtain ⟨m, A, ρ, R, E, h⟩ := h
  refine ⟨m, A, ρ, R, E, ?_⟩
  unfold mTry at h
  cases hr : mb ρ A with
  | exc C fs ρ1 A1 =>
    rw [hr] at h
    exact fun m' H' c dx σ' e R' E' hc hx => exc_ok hc R' E' hx e hl h
  | nx ρ1 A1 => rw [hr] at h; exact h
  | bk ρ1 A1 => rw [hr] at h; exact h
  | ct ρ1 A1 => rw [hr] at h; exact h
  | rt d A1 => rw [hr] at h; exact h
  | no => rw [hr] at h; exact h
end
section
variable {X : Cx} {W : WX} {body : List Stmt} {h₀ : ExceptHandler} {hds : List ExceptHandler} {l : List (Value × Option Nat × SuiteT)} {pos : Pos} {mb : MS} {hs : List HdM}
theorem s_try (stk : X.stack = X.env :: X.outer) (hf : X.env.frame = some X.env.locals) (hN : X.N.Nodup) (tk : Takes X W)
    (hb : ∀ (W : WX) (pn : List (Addr × Obj)) (xe : Value → Shared → Prop), Takes (X.tr pn xe) W → PassesOwn (model X.prog X.w) X.A X.env xe → DSs (X.tr pn xe) W body mb) (hl : HsM X.K hs l) (hh : HsOk X (h₀ :: hds) l) :
    DS X W (.Try body (h₀ :: hds) [] [] pos) (mTry mb hs) := PSi (ps_try_hs (tb := fun W => tS X.K W mb) stk hf hN tk hb hh) fun _ _ _ h => tryD hl h
theorem suite_ok {sts : List Stmt} {h : HdM} (hsu : ∀ (a : Addr) (oe : Obj) (cls : Value) (d : Option Addr) (pn : List (Addr × Obj)) (C : Str), Zc cls d oe → (∃ vs, oe.data = .fields vs) → clsV X.K C = some cls → DSs (X.suite a ((a, oe) :: pn)) WNo sts (h.suite C a d)) : SuiteOk X sts (suiteT X.K h) :=
  fun a oe cls d pn hz hf => ⟨fun pins s σ H D I ⟨C, hC, w⟩ => (hsu a oe cls d pn C hz hf hC).run pins s σ H D I w⟩
end
/-! ### in a suite: e.f -/
def mXf (C : Str) (xs : List Str) (a : Addr) (d : Option Addr) (f : Str) (me : ME) : ME := fun ρ A => (me ρ A).bind fun v A1 => match v with
  | .exv a' (some d') ns ds => if C ∈ xs ∧ a' = a ∧ some d' = d then (match (ns.zip ds).lookup f with | some x => .ok x A1 | none => .no) else .no
  | _ => .no
/-- a field's class facts -/
def XfF (K : PySem.W.Frag) (xs : List Str) (f : Str) : Prop := ∀ C ∈ xs, ∀ c, clsV K C = some c → ∃ ca, c = .ref ca ∧ XfC K ca ∧ PySem.W.findIn K (.ref ca) f = some none
theorem lookup_rel {K : PySem.W.Frag} {m : Mp} {H : Hp} {f : Str} : ∀ {gs : List (Str × V)} {ds : List D} {x : D}, RDs K m H ds (gs.map (·.2)) → ((gs.map (·.1)).zip ds).lookup f = some x → ∃ v, gs.lookup f = some v ∧ RD K m H x v
  | [], ds, x, r, e => by simp at e
  | (g, v) :: gs, ds, x, r, e => by
    cases ds with
    | nil => cases r
    | cons d ds =>
      cases r with
      | cons r rs =>
        simp only [List.map_cons, List.zip_cons_cons, List.lookup_cons] at e ⊢
        cases hb : (f == g) with
        | true => rw [hb] at e; cases e; exact ⟨v, rfl, r⟩
        | false => rw [hb] at e; exact lookup_rel rs e
section
variable {X : Cx} {W : WX} {a : Addr} {oe : Obj} {cls : Value} {d : Option Addr} {pn : List (Addr × Obj)} {e : Expr} {me : ME} {pos : Pos} {n C : Str} {xs : List Str}
theorem d_xf (F : XfF X.K xs n) (hC : clsV X.K C = some cls) (hz : Zc cls d oe) (hf : ∃ vs, oe.data = .fields vs) (he : DE (X.suite a ((a, oe) :: pn)) W e me) (hb : attributeBase e n X.env (eval e X.env) = eval e X.env := by rfl) :
    DE (X.suite a ((a, oe) :: pn)) W (.Attribute e n pos) (mXf C xs a d n me) := by
  refine ⟨fun pins s σ H Q I ⟨m, A, ρ, R, E, h⟩ => attr_of hb (thn (he.run pins s σ H (fun x H1 => ∃ m1 A1 v, Rel X.K m1 A1 H1 ∧ RD X.K m1 H1 v x ∧ Post X.K (RD X.K) W σ m1 H1 (match v with
    | .exv a' (some d') ns ds => if C ∈ xs ∧ a' = a ∧ some d' = d then (match (ns.zip ds).lookup n with | some x => .ok x A1 | none => .no) else .no
    | _ => .no) Q) I (tE.bind R E h fun m1 A1 v x H1 e1 R1 E1 r1 h1 => ⟨m1, A1, v, R1, r1, h1⟩)) fun u s1 hh => ?_)⟩
  obtain ⟨x, H1, I1, rx, m1, A1, v, R1, r1, h1⟩ := hh
  split at h1
  rotate_left
  · exact h1.elim
  rename_i a' d' ns ds
  split at h1
  rotate_left
  · exact h1.elim
  rename_i hcond
  obtain ⟨hx, rfl, rfl⟩ := hcond
  cases r1 with
  | @exv1 _ _ gs _ _ hH ho hn rs =>
    subst hn
    split at h1
    rotate_left
    · exact h1.elim
    rename_i y hy
    obtain ⟨w, hw, rw'⟩ := lookup_rel rs hy
    obtain ⟨ca, rfl, T, hno⟩ := F C hx cls hC
    obtain rfl : u = Value.ref a' := rx
    obtain ⟨ha, _⟩ := I1.pin (a', oe) (List.mem_append_left _ List.mem_cons_self)
    obtain ⟨vs, hd⟩ := hf
    have hxd : ObjOk X.prog X.w H1 s1.heap d' (.xd gs) := I1.hok d' _ hH
    obtain ⟨mA, hns, hr⟩ := hxd
    obtain ⟨od, ho', hl⟩ := lookIn_ns hns
    obtain ⟨u, hu, ru⟩ := RelO.some_of (v := w) (o := mA n) (by rw [← hw]; exact hr n)
    have J : PySem.W.InstAt s1.heap a' oe ca (some od) := by
      refine ⟨ha, hz.1, ?_, ?_⟩
      · unfold PySem.W.notCls
        rw [hd] <;> rfl
      · rw [hz.2]
        exact ho'
    have own := PySem.W.findObj_own T.hdC hno rfl (v := u) (by rw [hl, hu])
    exact HandSPX.exc_get I1.kIn J T.ga T.gg T.exC own (handed_of ru) ⟨w, H1, I1.tok _, ru, Post.here R1 rw' h1⟩
end
end DM
end
section
set_option maxHeartbeats 2000000
namespace DM
open PySem PySem.Spec PyProof.Rows L2 LamX
/-! ### a lambda, handed to a def and called there -/
abbrev LTag := Addr × Addr × L2.St
open Classical in
noncomputable def indepR (f : LTag → Res D) : Res D := if h : ∃ r, ∀ x, f x = r then Classical.choose h else .no
theorem indepR_eq {f : LTag → Res D} {r : Res D} (h : ∀ x, f x = r) : indepR f = r := by
  have h' : ∃ r, ∀ x, f x = r := ⟨r, h⟩
  unfold indepR
  rw [dif_pos h']
  exact (Classical.choose_spec h' (0, 0, [])).symm.trans (h (0, 0, []))
theorem indepR_at {f : LTag → Res D} (n : indepR f ≠ .no) (x : LTag) : f x = indepR f := by
  unfold indepR at n ⊢
  split
  · rename_i h
    exact Classical.choose_spec h x
  · rename_i h
    rw [dif_neg h] at n
    exact (n rfl).elim
section
variable {X : Cx} {pins : List (Addr × Obj)} {σ : L2.St} {H : Hp} {s : Shared} {m : Mp} {A : AH}
/-- the lambda is made -/
theorem lam_new {c P : Addr} {params : Arguments} {body : Expr} {scope : Scope} {pos : Pos} {E : Value → Shared → Prop} {Q : Value → Shared → Prop} (I : Inv X pins σ H s) (R : Rel X.K m A H) (TB : TabB X.base X.mg c P) (hcode : X.env.code = .ref c)
    {n : Nat} (hT : A[n]? = some (.tab P (X.env.qual ++ "<lambda>"))) (hdef : defaultsOf params X.env = ([], [])) (hfree : ∀ y ∈ scope.names, y.2 = .free → ∃ c, X.env.cells.lookup y.1 = some c)
    (h : ∀ (f c' : Addr) (pm ctv : Value) (H1 : Hp) (s' : Shared), Inv X pins σ H1 s' → Rel X.K m A H1 → Ext m H m H1 →
      s'.heap.get? f = some (PySem.W.kla_obj "<lambda>" (X.env.qual ++ "<lambda>") params body scope (cloFrom X.env.cells scope.names []) pm c' ctv) → H1 f = none → f ∉ frs X.stack → H1 c' = some (CodeO c' (X.env.qual ++ "<lambda>")) → Out m c' → Q (.ref f) s') :
    wpAny (model X.prog X.w) X.A (eval (.Lambda params body scope pos) X.env) Q E s := by
  obtain ⟨P', hP1, rfl, ps, hP, ht, ha⟩ := R.obj n _ hT
  have hPm : P' ∈ m.1 := List.mem_of_getElem? hP1
  refine PySem.W.kla_eval hdef ?_
  have bP : s.heap.BuiltinsAt X.mg P' := TB.bm.keeps I.bk
  have hP' : s.heap.get? P' = some { cls := .none, data := .fields ps } := I.hok P' _ hP
  have offs : ∀ f, s.heap.objs.size ≤ f → f ∉ frs X.stack := fun f hf z => by
    rcases List.mem_cons.mp (I.stkSub _ z) with e | e
    · have h1 := I.lt
      rw [← e] at h1
      exact Nat.lt_irrefl _ (Nat.lt_of_lt_of_le h1 hf)
    · exact I.nofs hf e
  cases hc : codeAmong pos ps.toList with
  | some cv =>
    obtain ⟨c', e, hco, hout⟩ := ha pos cv hc
    subst e
    refine PySem.W.kla_makeFunctionHit (mg := X.mg) (c := c) (P := P') (ps := ps) (closure_ok hfree) I.ok.glob (I.mod.glob.keeps I.bk) hcode (TB.code.keeps I.bk) hP' ht hc bP fun ctv h' tk hx hsz => ?_
    have I1 : Inv X pins σ H { s with heap := h'.push (PySem.W.kla_obj "<lambda>" (X.env.qual ++ "<lambda>") params body scope (cloFrom X.env.cells scope.names []) ((X.mg "__name__").getD .none) c' ctv), toks := tk } := I.kept fun b o e => Heap.get?_push_of_some _ (hx b o e)
    exact h h'.objs.size c' ((X.mg "__name__").getD .none) ctv H _ I1 R (Ext.refl m H) (Heap.get?_push_size _ rfl) (I.hok.fresh hsz) (offs _ hsz) hco hout
  | none =>
    refine PySem.W.kla_makeFunction (mg := X.mg) (c := c) (P := P') (ps := ps) (closure_ok hfree) I.ok.glob (I.mod.glob.keeps I.bk) hcode (TB.code.keeps I.bk) hP' ht hc TB.gP bP fun c' ctv h' tk hx hge hlt hrec htb => ?_
    obtain ⟨c2, oc, vs, t, e2, hoc, hd, hv⟩ := hrec
    cases e2
    have hsz : s.heap.objs.size ≤ h'.objs.size := Nat.le_trans hge (Nat.le_of_lt hlt)
    have nC : H c' = none := I.hok.fresh hge
    have outC := R.out nC
    have I1 := inv_table (t' := tk) (more := #[rawInt pos.line, rawInt pos.col, .ref c']) (h' := h'.push (PySem.W.kla_obj "<lambda>" (X.env.qual ++ "<lambda>") params body scope (cloFrom X.env.cells scope.names []) ((X.mg "__name__").getD .none) c' ctv)) I hP
      (fun b o hb e => Heap.get?_push_of_some _ (hx b o hb e)) (Heap.get?_push_of_some _ htb) hge ⟨oc, vs, t, Heap.get?_push_of_some _ hoc, hd, hv⟩
    have same : ∀ b o, H b = some o → b ≠ P' → upd (upd H P' (.tbl (ps ++ #[rawInt pos.line, rawInt pos.col, .ref c']))) c' (CodeO c' (X.env.qual ++ "<lambda>")) b = some o := fun b o e n => by
      rw [upd_ne (ne_of_none e nC), upd_ne n]; exact e
    have ext : Ext m H m (upd (upd H P' (.tbl (ps ++ #[rawInt pos.line, rawInt pos.col, .ref c']))) c' (CodeO c' (X.env.qual ++ "<lambda>"))) :=
      ⟨⟨[], (List.append_nil _).symm⟩, fun _ z => z, fun _ z => .inl z, fun _ z => .inl z, fun p o e n => same p o e fun z => n (by rw [z]; exact hPm)⟩
    have move : ∀ a o, H a = some o → Out m a → upd (upd H P' (.tbl (ps ++ #[rawInt pos.line, rawInt pos.col, .ref c']))) c' (CodeO c' (X.env.qual ++ "<lambda>")) a = some o ∧ Out m a := fun a o e n => ⟨same a o e fun z => n.1 (by rw [z]; exact hPm), n⟩
    have eL : (ps ++ #[rawInt pos.line, rawInt pos.col, .ref c']).toList = ps.toList ++ [rawInt pos.line, rawInt pos.col, .ref c'] := by simp
    have R1 : Rel X.K m A (upd (upd H P' (.tbl (ps ++ #[rawInt pos.line, rawInt pos.col, .ref c']))) c' (CodeO c' (X.env.qual ++ "<lambda>"))) := by
      refine ⟨R.len, R.nd, fun p hp z => ?_, fun k o hk => ?_⟩
      · cases hq : H p with
        | none => exact R.pv p hp hq
        | some u =>
          by_cases hb : p = P'
          · rw [hb, upd_ne (ne_of_none hP nC), upd_same] at z; cases z
          · rw [same p u hq hb] at z; cases z
      · obtain ⟨q, h1, h2⟩ := R.obj k o hk
        refine ⟨q, h1, ?_⟩
        by_cases hb : q = P'
        · have hkn : k = n := by
            obtain ⟨l1, e1⟩ := List.getElem?_eq_some_iff.mp h1
            obtain ⟨l2, e2⟩ := List.getElem?_eq_some_iff.mp hP1
            exact (List.getElem_inj R.nd).mp (e1.trans (hb.trans e2.symm))
          subst hkn
          rw [hT] at hk
          cases hk
          refine ⟨hb, _, by rw [upd_ne (ne_of_none hP nC), upd_same], by rw [eL]; exact PySem.TriplesOk_snoc _ _ _ _ ht, fun p' cv hcv => ?_⟩
          rw [eL] at hcv
          rcases among_app _ ht hcv with z | z
          · obtain ⟨c0, e1, e2, e3⟩ := ha p' cv z
            exact ⟨c0, e1, (move _ _ e2 e3).1, e3⟩
          · exact ⟨c', z, upd_same, outC⟩
        · refine h2.move (fun _ _ e => e) move ?_
          cases hq : H q with
          | none => exact absurd hq h2.held
          | some u => exact same q u hq hb
    refine h h'.objs.size c' ((X.mg "__name__").getD .none) ctv _ _ I1 R1 ext (Heap.get?_push_size _ rfl) ?_ (offs _ hsz) upd_same outC
    have n1 : h'.objs.size ≠ c' := Nat.ne_of_gt hlt
    have n2 : h'.objs.size ≠ P' := Nat.ne_of_gt (Nat.lt_of_lt_of_le (Heap.lt_size hP') hsz)
    rw [upd_ne n1, upd_ne n2]
    exact I.hok.fresh hsz
end
def mWork (x : LTag) (q : Str) (me : ME) (i : Nat) : ME := fun ρ A => match ρ[i]? with
  | some (some (.fnv f c q' σ ρ')) => open Classical in if f = x.1 ∧ c = x.2.1 ∧ σ = x.2.2 ∧ q' = q then me ρ' A else .no
  | _ => .no
section
variable {X : Cx} {pins : List (Addr × Obj)} {σ : L2.St} {H : Hp} {s : Shared}
/-- the lambda is called, in the def that got it -/
theorem d_work {Ng : List Str} {qg : Str} {sg : Scope} {g f c' : Addr} {cdg pm ctv : Value} {params : Arguments} {body : Expr} {scope : Scope} {k i : Nat} {a : Str} {pn : List (Addr × Obj)} {xe : Value → Shared → Prop} {W : WX} {Eg : XK} {me : ME} {p1 p2 : Pos}
    (I : Inv X pins σ H s) (L : LamS X.env.scope scope) (hf : s.heap.get? f = some (PySem.W.kla_obj "<lambda>" (X.env.qual ++ "<lambda>") params body scope (cloFrom X.env.cells scope.names []) pm c' ctv)) (hfn : H f = none) (hfr : f ∉ frs X.stack)
    (hbind : bindArgs (PySem.W.kla_fn "<lambda>" (X.env.qual ++ "<lambda>") params body scope (cloFrom X.env.cells scope.names []) pm (.ref c') ctv) ⟨[], []⟩ = pure [])
    (tk : Takes ((cxOf (L2.CX X.prog X.w) X.prog X.w X.K X.mg X.base Ng qg sg g cdg X.A X.stack s H Eg).tr pn xe) W) (hr : Room (k + 1) (X.A.deeper (envOfC qg sg s.heap.objs.size g cdg))) (gd : X.A.guards = some [])
    (hbody : ∀ (A : Around) (outer : List PySem.Env) (s : Shared) (H : Hp) (E : XK), Room k (A.deeper (lamEnv X scope s.heap.objs.size f c')) → (A.deeper (lamEnv X scope s.heap.objs.size f c')).guards = some [] → Takes (lamCx X A outer s H E scope f c') (fun c d _ H' => E c d H') →
      DE (lamCx X A outer s H E scope f c') (fun c d _ H' => E c d H') body me)
    (hN : Ng[i]? = some a) (hv : Vis sg a) (hd : (a == ("__debug__" : Str)) = false := by decide) (hcd : (a == ("__classdict__" : Str)) = false := by decide) :
    DE ((cxOf (L2.CX X.prog X.w) X.prog X.w X.K X.mg X.base Ng qg sg g cdg X.A X.stack s H Eg).tr pn xe) W (.Call (.Name a p1) [] [] p2) (mWork (f, c', σ) (X.env.qual ++ "<lambda>") me i) := by
  refine ⟨fun pinsZ sZ σZ HZ Q IZ ⟨m, AA, ρ, R, EE, h⟩ => ?_⟩
  unfold mWork at h
  split at h
  rotate_left
  · exact h.elim
  rename_i f' c'' q' σ' ρ' hρ
  split at h
  rotate_left
  · exact h.elim
  rename_i hh
  obtain ⟨rfl, rfl, rfl, rfl⟩ := hh
  obtain ⟨v, hs, rv⟩ := EE.2 i _ hρ
  cases rv with
  | fnv hc hout ro =>
  refine wpAny_Call_Name_kw (thn ((pe_var (pos := p1) (i := i) hN hv hd hcd).run pinsZ sZ σZ HZ (fun v H1 => v = .ref f' ∧ H1 = HZ) IZ ⟨.ref f', hs, rfl, rfl⟩) fun u s1 ⟨v, H1, I1, r1, q1⟩ => ?_)
  obtain ⟨ev, eH⟩ := q1
  subst ev
  rw [eH] at I1
  obtain rfl : u = Value.ref f' := r1
  have of1 := I1.base.keep f' _ hf hfn hfr (fun z => nomatch (show f' ∈ ([] : List Addr) from z))
  refine PySem.W.callWith_F0 ⟨_, _, _, _, of1⟩ ?_
  have un : Un (frs X.stack) [] H HZ s.heap s1.heap := I1.base
  obtain ⟨⟨oc, vs, t, hoc, hdc, hvc⟩, _, _⟩ := I1.hok c'' _ hc
  have run : codeAny (model X.prog X.w) (X.A.deeper (envOfC qg sg s.heap.objs.size g cdg)) (.call (.ref f') ⟨[], []⟩) (CR (L2.CX X.prog X.w) (envOfC qg sg s.heap.objs.size g cdg :: X.stack) X.prog X.w HZ s1 Q (WE W σZ)) s1 := by
    refine PySem.W.kla_callFunE hr.depth of1 rfl L.co L.gen rfl ⟨c'', oc, vs, t, rfl, hoc, hdc, hvc⟩ ?_
    rw [hbind]
    refine wpAny_pure (wpAny_newFunctionEnv (fun y hy => (L.own y hy).2) (fun y hy => absurd hy (by simp)) (fun h₁ hns hsb => ⟨I1.nolimit.fresh _ hsb, ?_⟩) L.kind)
    show codeAny _ _ (.expr body (lamEnv X scope s1.heap.objs.size f' c'')) _ _
    have J := lam_start2 (f := f') (c' := c'') (E := WE W σZ) (tk := s1.toks + ([] : List (Str × Value)).length) I L I1.env0 hr.hd un hns fun b o e => hsb.extBut b o (Nat.ne_of_lt (Heap.lt_size e)) (Heap.get?_push_of_some _ e)
    have want : tE X.K (fun c d _ H' => WE W σZ c d H') me σ' HZ Q := by
      refine ⟨m, AA, ρ', R, RDo.env ro, ?_⟩
      cases hr2 : me ρ' AA with
      | ok d A1 => rw [hr2] at h; exact h
      | exc C fs A1 => rw [hr2] at h; exact h
      | no => rw [hr2] at h; exact h
    refine PySem.W.kla_codeExpr (wpAny_mono ((hbody _ _ s1 HZ _ (hr.deeper _) gd (takes_of rfl rfl rfl rfl)).run [] _ _ HZ Q J want) (fun v s' hq => ?_) fun e s' hq => hq)
    obtain ⟨w', H', J', rv, q⟩ := hq
    exact ⟨w', H', J'.os, J'.bare, J'.base, J'.hok, rv, q⟩
  refine wpAny_call (codeAny_mono run fun r s' hq => ?_)
  cases r with
  | error e => exact passAt tk σZ pinsZ HZ s1 e s' I1 hq
  | ok fl =>
    cases fl with
    | ret u => exact I1.after hq
    | next => exact False.elim hq
    | brk => exact False.elim hq
    | cont => exact False.elim hq
/-- the def's part: N slots, its body's mirror over the lambda's call -/
noncomputable def mLam (n : Nat) (P : Addr) (q : Str) (N : Nat) (F : ME → MS) (me : ME) : ME := fun ρ A => match A[n]? with
  | some (.tab P' q') => open Classical in if P' = P ∧ q' = q then indepR fun x => mFun N (F (mWork x q me 0)) [.fnv x.1 x.2.1 q x.2.2 ρ] A else .no
  | _ => .no
/-- g(lambda: body) -/
theorem d_lam {W : WX} {F : ME → MS} {me : ME} {x qual a : Str} {st : Stmt} {g c P : Addr} {fd : FuncData} {n k N : Nat} {Ng : List Str} {params : Arguments} {body : Expr} {scope : Scope} {p lpos pos : Pos}
    (G : Fun X.K x qual st g fd) (hm : X.mg x = some (.ref g)) (hk : PySem.W.keepIn X.K (.ref g) = true) (hb : Binds X.K fd [a] []) (Sg : FnScope Ng [a] (defScope st)) (hr : Room (k + 2) X.A) (gd : X.A.guards = some []) (tk : Takes X W)
    (hF : ∀ (cdv : Value) (s : Shared) (H : Hp) (E : XK) (mw : ME), Takes (cxOf (L2.CX X.prog X.w) X.prog X.w X.K X.mg X.base Ng qual (defScope st) g cdv X.A X.stack s H E) (fun c d _ H' => E c d H') → Room (k + 1) (X.A.deeper (envOfC qual (defScope st) s.heap.objs.size g cdv)) →
      (∀ (W : WX) (pn : List (Addr × Obj)) (xe : Value → Shared → Prop) (p1 p2 : Pos), Takes ((cxOf (L2.CX X.prog X.w) X.prog X.w X.K X.mg X.base Ng qual (defScope st) g cdv X.A X.stack s H E).tr pn xe) W →
        DE ((cxOf (L2.CX X.prog X.w) X.prog X.w X.K X.mg X.base Ng qual (defScope st) g cdv X.A X.stack s H E).tr pn xe) W (.Call (.Name a p1) [] [] p2) mw) →
      DSs (cxOf (L2.CX X.prog X.w) X.prog X.w X.K X.mg X.base Ng qual (defScope st) g cdv X.A X.stack s H E) (fun c d _ H' => E c d H') (defBody st) (F mw))
    (TB : TabB X.base X.mg c P) (hcode : X.env.code = .ref c) (L : LamS X.env.scope scope) (hdef : defaultsOf params X.env = ([], []))
    (hbind : ∀ (q : Str) (cl : List (Str × Addr)) (pm cv ctv : Value), bindArgs (PySem.W.kla_fn "<lambda>" q params body scope cl pm cv ctv) ⟨[], []⟩ = pure [])
    (hbody : ∀ (A : Around) (outer : List PySem.Env) (s : Shared) (H : Hp) (E : XK) (f c' : Addr), Room k (A.deeper (lamEnv X scope s.heap.objs.size f c')) → (A.deeper (lamEnv X scope s.heap.objs.size f c')).guards = some [] → Takes (lamCx X A outer s H E scope f c') (fun c d _ H' => E c d H') →
      DE (lamCx X A outer s H E scope f c') (fun c d _ H' => E c d H') body me)
    (hNg : Ng[0]? = some a) (hva : Vis (defScope st) a) (hNn : Ng.length = N) (hg : Gl X x := by rfl) (hdb : (x == ("__debug__" : Str)) = false := by decide) (hd : (a == ("__debug__" : Str)) = false := by decide) (hcd : (a == ("__classdict__" : Str)) = false := by decide) :
    DE X W (.Call (.Name x p) [.Lambda params body scope lpos] [] pos) (mLam n P (X.env.qual ++ "<lambda>") N F me) := by
  refine ⟨fun pins s σ H Q I ⟨m, AA, ρ, R, EE, h⟩ => ?_⟩
  unfold mLam at h
  split at h
  rotate_left
  · exact h.elim
  rename_i P' q' hT
  split at h
  rotate_left
  · exact h.elim
  rename_i hpq
  obtain ⟨rfl, rfl⟩ := hpq
  obtain ⟨oc, od, kV, doc, pm0, an, cdv, ct, osl, rfl, lk, hcd0⟩ := G.ex
  refine wpAny_Call_Name_kw (ld_glob I hg hm ?_ hdb)
  refine PySem.W.callWith_K (h₀ := X.base) I.ok.mod.kin hk ?_ (by rfl) (by rfl)
  show wpAny _ _ (spliced ((false, eval (.Lambda params body scope lpos) X.env) :: backTo pos (starEach [] X.env))) _ _ s
  refine Calls.spliced_cons (lam_new I R TB hcode hT hdef (L.has I.ok) fun f c' pm' ctv H1 s' I1 R1 e1 hf hfn hfr hco hout => ?_)
  refine Calls.spliced_nil ⟨I1.kIn, ?_⟩
  have nn : indepR (fun x => mFun N (F (mWork x (X.env.qual ++ "<lambda>") me 0)) [.fnv x.1 x.2.1 (X.env.qual ++ "<lambda>") x.2.2 ρ] AA) ≠ .no := fun z => by
    rw [z] at h
    exact h.elim
  rw [← indepR_at nn (f, c', σ)] at h
  have h' := Post.mono e1 h
  have run : codeAny (model X.prog X.w) X.A (.call (.ref g) ⟨[.ref f], []⟩) (CR (L2.CX X.prog X.w) X.stack X.prog X.w H1 s' Q (WE W σ)) s' := by
    refine run_ofS (N := Ng) (ps := [a]) (us := [.ref f]) (vs := [.ref f]) lk hcd0 Sg hr I1.env0 (hb s' [.ref f] I1.kIn rfl) (.cons rfl .nil) rfl fun hr' => ?_
    have tk2 : Takes (cxOf (L2.CX X.prog X.w) X.prog X.w X.K X.mg X.base Ng qual (defScope st) g cdv X.A X.stack s' H1 (WE W σ)) (fun c d _ H' => WE W σ c d H') := takes_of rfl rfl rfl rfl
    have B := hF cdv s' H1 (WE W σ) (mWork (f, c', σ) (X.env.qual ++ "<lambda>") me 0) tk2 hr' fun W pn xe p1 p2 tk3 => d_work I1 L hf hfn hfr (hbind _ _ _ _ _) tk3 hr' gd (fun A outer s H E hr2 gd2 tk4 => hbody A outer s H E f c' hr2 gd2 tk4) hNg hva hd hcd
    refine ⟨_, B, m, AA, [some (.fnv f c' (X.env.qual ++ "<lambda>") σ ρ)] ++ List.replicate (Ng.length - 1) none, R1, ?_, ?_⟩
    · exact start_rel (N := Ng) (ds := [.fnv f c' (X.env.qual ++ "<lambda>") σ ρ]) (.cons (.fnv hco hout (REnv.toO (EE.mono e1))) .nil)
    · subst hNn
      unfold mFun at h'
      have e0 : ([D.fnv f c' (X.env.qual ++ "<lambda>") σ ρ].map some ++ List.replicate (Ng.length - [D.fnv f c' (X.env.qual ++ "<lambda>") σ ρ].length) none) = [some (.fnv f c' (X.env.qual ++ "<lambda>") σ ρ)] ++ List.replicate (Ng.length - 1) none := rfl
      rw [e0] at h'
      cases hz : F (mWork (f, c', σ) (X.env.qual ++ "<lambda>") me 0) ([some (.fnv f c' (X.env.qual ++ "<lambda>") σ ρ)] ++ List.replicate (Ng.length - 1) none) AA with
      | nx ρ1 A1 => rw [hz] at h'; exact fun m' H' σ' e2 R2 _ => h' m' H' .non e2 R2 .non
      | rt d A1 => rw [hz] at h'; exact fun m' H' v e2 R2 r2 => h' m' H' v e2 R2 r2
      | exc C fs ρ1 A1 => rw [hz] at h'; exact fun m' H' c dx σ' e2 R2 _ hc hx => h' m' H' c dx e2 R2 hc hx
      | bk ρ1 A1 => rw [hz] at h'; exact h'.elim
      | ct ρ1 A1 => rw [hz] at h'; exact h'.elim
      | no => rw [hz] at h'; exact h'.elim
  refine wpAny_call (codeAny_mono run fun r s2 hq => ?_)
  cases r with
  | error e => exact passAt tk σ pins H1 s' e s2 I1 hq
  | ok fl =>
    cases fl with
    | ret u => exact I1.after hq
    | next => exact False.elim hq
    | brk => exact False.elim hq
    | cont => exact False.elim hq
end
end DM
end
section
set_option maxHeartbeats 2000000
namespace DM
open PySem PySem.Spec PyProof.Rows L2
/-! ### tuple * number, any number -/
theorem tm_same (l : Addr) (items : Array Value) (n : Nat) (dd : Option Addr) (sl : Array (Option Value)) (x : Int) (u : Tok) (h0 : -(2 ^ 63) ≤ x ∧ x < 2 ^ 63) (h1 : (items.isEmpty || x == 1) = true) :
    Meets (Builtin.«tuple.__mul__» ⟨[.ref l, .int x u], []⟩) (fun _ R s => s.heap.get? l = some { cls := .type "tuple", dict := dd, data := .seq items n, slots := sl } ∧ R (.ok (.ret (Value.ref l))) s) :=
  .of_wp fun prog w A R s h => by
    obtain ⟨hp, g, d, tk, os⟩ := s
    obtain ⟨hl, h⟩ := h
    have f1 := AutoSeq1.idx_int
    have c0 : (decide (x < -(2 ^ 63)) || decide (x ≥ 2 ^ 63)) = false := by rw [decide_eq_false (by omega), decide_eq_false (by omega)]; rfl
    wp_walk using wpAny_loadPart' hl
    repeat (first
      | (refine wpAny_ite_false (decide_eq_false (by rw [c0]; exact Bool.false_ne_true)) ?_; wp_walk using wpAny_loadPart' hl)
      | (refine wpAny_ite_true (decide_eq_true h1) ?_; wp_walk using wpAny_loadPart' hl))
    exact ⟨_, rfl, h⟩
theorem tm_none (l : Addr) (items : Array Value) (n : Nat) (dd : Option Addr) (sl : Array (Option Value)) (x : Int) (u : Tok) (h0 : -(2 ^ 63) ≤ x) (h1 : (items.isEmpty || x == 1) = false) (h2 : x ≤ 0) :
    Meets (Builtin.«tuple.__mul__» ⟨[.ref l, .int x u], []⟩) (fun _ R s => s.heap.get? l = some { cls := .type "tuple", dict := dd, data := .seq items n, slots := sl } ∧
      R (.ok (.ret (Value.ref s.heap.objs.size))) { s with heap := s.heap.push { cls := Value.type "tuple", data := Data.seq #[] }, toks := s.toks }) :=
  .of_wp fun prog w A R s h => by
    obtain ⟨hp, g, d, tk, os⟩ := s
    obtain ⟨hl, h⟩ := h
    have f1 := AutoSeq1.idx_int
    have c0 : (decide (x < -(2 ^ 63)) || decide (x ≥ 2 ^ 63)) = false := by rw [decide_eq_false (by omega), decide_eq_false (by omega)]; rfl
    have c2 : (decide (x ≤ 0) || items.isEmpty) = true := by rw [decide_eq_true h2]; rfl
    wp_walk using wpAny_loadPart' hl
    repeat (first
      | (refine wpAny_ite_false (decide_eq_false (by rw [c0]; exact Bool.false_ne_true)) ?_; wp_walk using wpAny_loadPart' hl)
      | (refine wpAny_ite_false (decide_eq_false (by rw [h1]; exact Bool.false_ne_true)) ?_; wp_walk using wpAny_loadPart' hl)
      | (refine wpAny_ite_true (decide_eq_true c2) ?_; wp_walk using wpAny_loadPart' hl))
    exact ⟨_, rfl, h⟩
def rRepA (K : PySem.W.Frag) : R2 := fun x y H Q => ∃ l k xs, x = .ref l ∧ y = .int k ∧ SqT K H l xs ∧ -(2 ^ 63) ≤ k ∧ k < 2 ^ 63 ∧ xs.length * k.toNat ≤ sizeLine ∧ ((xs = [] ∨ k = 1) → Q (.ref l) H) ∧
  (¬ (xs = [] ∨ k = 1) → ∀ p us, H p = none → Q (.ref p) (upd H p (plH us (List.replicate k.toNat xs).flatten)))
section
variable {X : Cx}
theorem op_repA : OpR X (binaryOp .Mult) (rRepA X.K) := by
  intro pins s σ H x y v u Q I rx ry h
  obtain ⟨l, k, xs, rfl, rfl, hT, k0, k1, hz, q1, q2⟩ := h
  cases rx
  obtain ⟨t, rfl⟩ := ry
  obtain ⟨its, r, ⟨⟨cls, dd, data, sl⟩, ho, hc, n, hd⟩, hs⟩ := I.tuple hT
  simp only at hc hd
  subst hc hd
  have hle : its.length = xs.length := r.length.symm
  have hie : its.toArray.isEmpty = decide (xs = []) := by
    cases xs with
    | nil => cases r; rfl
    | cons a b => cases r; rfl
  have main : ∀ {F : List Value → (Result → Shared → Prop) → Shared → Prop} , Meets (Builtin.«tuple.__mul__» ⟨[.ref l, .int k t], []⟩) (fun _ R s' => s'.heap.get? l = some { cls := .type "tuple", dict := dd, data := .seq its.toArray n, slots := sl } ∧ F [] R s') →
      F [] (fun r s' => match r with | .ok (.ret v) => EP X pins σ Q v s' | .ok _ => False | .error e => X.xe e s') s → wpAny (model X.prog X.w) X.A (binaryOp .Mult (.ref l) (.int k t)) (EP X pins σ Q) X.xe s := fun M hF =>
    wpAny_binaryOp_repeat_ref (T := "tuple") (U := "int") (by decide) ⟨_, ho, rfl⟩ (fun s' => typeIs_int s' k t) noFill_tuple_mul F.fills_int_mul F.slot_int_rmul repeat_tuple F.slot_int_index.lookup
      (call_meets F.slot_int_rmul (typeIs_int s k t) F.entry_int_rmul (F.args_int_rmul_2 _ _) (int_rmul_tuple k t l its.toArray n dd sl)
        ⟨ho, rfl, ⟨_, ho, rfl⟩, call_meets F.slot_tuple_mul ⟨_, ho, rfl⟩ F.entry_tuple_mul (F.args_tuple_mul_2 _ _) M ⟨ho, hF⟩⟩)
  have laid : ∀ {zs : List V} {ws : List Value}, Vals zs ws → zs.length ≤ sizeLine → (∀ p us, H p = none → Q (.ref p) (upd H p (plH us zs))) → EP X pins σ Q (.ref s.heap.objs.size) { s with heap := s.heap.push { cls := .type "tuple", data := .seq ws.toArray }, toks := s.toks } := fun {zs ws} rz hl q =>
    ⟨.ref s.heap.objs.size, _, I.laid (t' := s.toks) (o := plH ws zs) (fun b ob q => Heap.get?_push_of_some _ q) (Nat.le_refl _) (plain_ok (Heap.get?_push_size _ rfl) rz hl), rfl, q _ _ (I.hok.fresh (Nat.le_refl _))⟩
  by_cases h1 : xs = [] ∨ k = 1
  · refine main (F := fun _ R s => R (.ok (.ret (.ref l))) s) (tm_same l its.toArray n dd sl k t ⟨k0, k1⟩ ?_) ⟨.ref l, H, I, rfl, q1 h1⟩
    rw [hie]
    rcases h1 with h1 | h1
    · rw [decide_eq_true h1]; rfl
    · rw [h1]; simp
  · have hne : xs ≠ [] := fun z => h1 (.inl z)
    have hk1 : k ≠ 1 := fun z => h1 (.inr z)
    have c1 : (its.toArray.isEmpty || k == 1) = false := by
      rw [hie, decide_eq_false hne, Bool.false_or]
      exact beq_eq_false_iff_ne.mpr hk1
    by_cases h2 : k ≤ 0
    · refine main (F := fun _ R s => R (.ok (.ret (Value.ref s.heap.objs.size))) { s with heap := s.heap.push { cls := Value.type "tuple", data := Data.seq #[] }, toks := s.toks }) (tm_none l its.toArray n dd sl k t k0 c1 h2) (laid (zs := []) (ws := []) .nil (Nat.zero_le _) fun p us hp => ?_)
      have z := q2 h1 p us hp
      have e0 : k.toNat = 0 := by omega
      rw [e0] at z
      exact z
    · have hxl : 1 ≤ xs.length := by
        cases xs with
        | nil => exact (hne rfl).elim
        | cons a b => simp
      have hn2 : k.toNat * 1 ≤ xs.length * k.toNat := by rw [Nat.mul_comm xs.length]; exact Nat.mul_le_mul (Nat.le_refl _) hxl
      rw [sizeLine_eq] at hz
      have em : ((its.toArray.size : Nat) : Int) * k = ((xs.length * k.toNat : Nat) : Int) := by
        rw [List.size_toArray, hle, Int.natCast_mul]
        congr 1
        omega
      have c2 : (decide (k ≤ 0) || its.toArray.isEmpty) = false := by rw [decide_eq_false h2, hie, decide_eq_false hne]; rfl
      have c0 : (decide (k < -(2 ^ 63)) || decide (k ≥ 2 ^ 63)) = false := by rw [decide_eq_false (by omega), decide_eq_false (by omega)]; rfl
      have c4 : Builtin.Tuple.tupleTooMany (((its.toArray.size : Nat) : Int) * k) = false := by
        unfold Builtin.Tuple.tupleTooMany
        rw [sizeLine_eq, em]
        exact decide_eq_false (by omega)
      have fl : (List.replicate k.toNat xs).flatten.length = xs.length * k.toNat := by rw [PyProof.Rows.lm_len_rep_flat, Nat.mul_comm]
      refine main (F := fun _ R s => R (.ok (.ret (Value.ref s.heap.objs.size))) { s with heap := s.heap.push { cls := Value.type "tuple", data := Data.seq (List.replicate k.toNat its).flatten.toArray }, toks := s.toks }) ?_ (laid (r.rep k.toNat) (by rw [fl, sizeLine_eq]; exact hz) (q2 h1))
      have M := tuple_mulW l its.toArray n dd sl k t c0 c1 c2 (by rw [em]; omega) c4 (by rw [size_rep, List.size_toArray, PyProof.Rows.lm_len_rep_flat, hle, Nat.mul_comm, sizeLine_eq]; exact hz)
      rw [size_rep] at M
      exact M
/-- a * b: ints; a tuple by a number -/
def fMulA : D → D → AH → Res D := fun d e A => match d, e with
  | .int i, .int j => if CMul i j then .ok (.int (i * j)) A else .no
  | .tup xs, .int k => if -(2 ^ 63) ≤ k ∧ k < 2 ^ 63 ∧ xs.length * k.toNat ≤ 16777216 then .ok (.tup (List.replicate k.toNat xs).flatten) A else .no
  | _, _ => .no
theorem fMulA_ok {K : PySem.W.Frag} : OpD K fMulA (fun x y H Q => rI CMul (fun i j => .int (i * j)) x y H Q ∨ rRepA K x y H Q) := by
  intro W σ m A H x y d e Q R hx hy h
  unfold fMulA at h
  split at h
  · cases hx; cases hy
    split at h
    · rename_i hc
      exact .inl ⟨_, _, rfl, rfl, hc, Post.here R (.int _) h⟩
    · exact h.elim
  · rename_i xs k
    have hx' := hx
    cases hx with
    | tup s r =>
      rename_i a vs
      cases hy
      split at h
      · rename_i hc
        refine .inr ⟨a, k, vs, rfl, rfl, s.sq, hc.1, hc.2.1, by rw [← r.length, sizeLine_eq]; exact hc.2.2, fun h1 => ?_, fun _ => tup_new R (RDs.rep r k.toNat) h⟩
        have e0 : (List.replicate k.toNat xs).flatten = xs := by
          rcases h1 with h1 | h1
          · have : xs = [] := List.eq_nil_of_length_eq_zero (by rw [r.length, h1]; rfl)
            subst this
            simp
          · subst h1
            simp
        rw [e0] at h
        exact Post.here R hx' h
      · exact h.elim
  · exact h.elim
end
section
variable {X : Cx} {W : WX} {a b : Expr} {ma mb : ME} {pos : Pos}
theorem d_mulA (ha : DE X W a ma) (hb : DE X W b mb) : DE X W (.BinOp a .Mult b pos) (mOp fMulA ma mb) := d_op (op_mul.or op_repA) fMulA_ok ha hb
end
end DM
end
section
set_option maxHeartbeats 2000000
namespace DM
open PySem PySem.Spec PyProof.Rows L2
/-! ### own error classes, what is known of them -/
structure ExcK (K : PySem.W.Frag) (n : Str) (c : Addr) : Prop where
  nm : clsV K n = some (.ref c)
  ec : ExcC K c
  ty : PySem.W.typeIn K (.ref c) = some (.type "type")
  kp : PySem.W.keepIn K (.ref c) = true
  self : PySem.W.subIn K (.ref c) (.ref c) = some true
theorem ExcK.xf {K : PySem.W.Frag} {n : Str} {c : Addr} (T : ExcK K n c) : XfC K c := ⟨T.ec.hg, T.ec.hk, T.ec.hs, T.ec.hd⟩
theorem ExcK.cls {K : PySem.W.Frag} {n : Str} {c : Addr} (T : ExcK K n c) : (PySem.W.clsIn K c).isSome = true := by
  obtain ⟨cd, hc, _⟩ := PySem.W.any_some T.ec.hd
  rw [hc]; rfl
theorem ExcK.exm {K : PySem.W.Frag} {n : Str} {c d : Addr} {b : Bool} (T : ExcK K n c) (h : PySem.W.subIn K (.ref d) (.ref c) = some b) : PySem.W.exmOne K (.ref d) (.ref c) = some b := PySem.W.exm_ref T.ec.hs T.ec.hd T.ty h
theorem ExcK.kit {K : PySem.W.Frag} {n : Str} {c d : Addr} {b : Bool} (T : ExcK K n c) (h : PySem.W.subIn K (.ref d) (.ref c) = some b) : PySem.W.kitOne K (.ref d) (.ref c) = some b := by
  unfold PySem.W.kitOne
  by_cases e : d = c
  · subst e
    rw [T.self] at h
    cases h
    rw [if_pos (by simp)]
  · rw [if_neg (by simpa using e)]
    show (if ((PySem.W.clsIn K c).isSome && PySem.W.typeIn K (.ref c) == some (.type "type")) = true then PySem.W.subIn K (.ref d) (.ref c) else none) = some b
    rw [if_pos (by rw [T.cls, T.ty]; rfl)]
    exact h
theorem clsV_inj {K : PySem.W.Frag} {n : Str} {c : Addr} {v : Value} (h : clsV K n = some (.ref c)) (h2 : clsV K n = some v) : v = .ref c := by
  rw [h] at h2; cases h2; rfl
/-- what is told of the raised classes, one after the other -/
def SubF (K : PySem.W.Frag) (cs : List Str) (t : Value) (b : Bool) : Prop := ∀ C ∈ cs, ∀ v, clsV K C = some v → ∃ c, v = .ref c ∧ ExcC K c ∧ PySem.W.subIn K (.ref c) t = some b
theorem subF_nil {K : PySem.W.Frag} {t : Value} {b : Bool} : SubF K [] t b := fun _ h => nomatch h
theorem subF_cons {K : PySem.W.Frag} {n : Str} {cs : List Str} {c : Addr} {t : Value} {b : Bool} (T : ExcK K n c) (h : PySem.W.subIn K (.ref c) t = some b) (r : SubF K cs t b) : SubF K (n :: cs) t b := fun C hC v hv => by
  rcases List.mem_cons.mp hC with rfl | hC
  · exact ⟨c, clsV_inj T.nm hv, T.ec, h⟩
  · exact r C hC v hv
theorem hdF_own {K : PySem.W.Frag} {h : HdM} {n : Str} {c : Addr} (T : ExcK K n c) (y : SubF K h.yes (.ref c) true) (z : SubF K h.nos (.ref c) false) : HdF K h (.ref c) where
  yes := fun C hC v hv => by
    obtain ⟨d, rfl, _, e⟩ := y C hC v hv
    exact T.exm e
  nos := fun C hC v hv => by
    obtain ⟨d, rfl, _, e⟩ := z C hC v hv
    exact T.exm e
theorem xfF_nil {K : PySem.W.Frag} {f : Str} : XfF K [] f := fun _ h => nomatch h
theorem xfF_cons {K : PySem.W.Frag} {n f : Str} {cs : List Str} {c : Addr} (T : ExcK K n c) (h : PySem.W.findIn K (.ref c) f = some none) (r : XfF K cs f) : XfF K (n :: cs) f := fun C hC v hv => by
  rcases List.mem_cons.mp hC with rfl | hC
  · exact ⟨c, clsV_inj T.nm hv, T.xf, h⟩
  · exact r C hC v hv
/-! ### isinstance of the exception in hand -/
def rIsG (K : PySem.W.Frag) (a D : Addr) (d : Option Addr) : List V → Hp → VK → Prop := fun xs H Q => ∃ (c : V) (cv : Value) (b : Bool), xs = [.ref a, c] ∧ (∀ u, RelV c u → u = cv) ∧ ExcC K D ∧ PySem.W.kitOne K (.ref D) cv = some b ∧ (∀ dd, d = some dd → H dd ≠ none) ∧ Q (.bl b) H
theorem call_isG {X : Cx} {a D : Addr} {oe : Obj} {d : Option Addr} {pn : List (Addr × Obj)} (hz : Zc (.ref D) d oe) (hf : ∃ vs, oe.data = .fields vs) : CallR (X.suite a ((a, oe) :: pn)) (.builtin "isinstance") (rIsG X.K a D d) := by
  intro pins s σ H xs us Q I r h
  obtain ⟨c, cv, b, rfl, hcv, C, e, hdd, q⟩ := h
  cases r with
  | cons rx rr =>
    cases rr with
    | cons rt rr =>
      cases rr
      cases rx
      have ec := hcv _ rt
      subst ec
      obtain ⟨hget, _⟩ := I.pin (a, oe) (List.mem_append.mpr (.inl List.mem_cons_self))
      obtain ⟨vs, hv⟩ := hf
      have hcl : (PySem.W.clsIn X.K D).isSome = true := by
        obtain ⟨cd, hc, _⟩ := PySem.W.any_some C.hd
        rw [hc]; rfl
      have J : ∃ od, PySem.W.InstAt s.heap a oe D od := by
        cases d with
        | none =>
          refine ⟨none, hget, hz.1, ?_, by rw [hz.2]; trivial⟩
          unfold PySem.W.notCls
          rw [hv] <;> rfl
        | some dd =>
          cases hH : H dd with
          | none => exact absurd hH (hdd dd rfl)
          | some u =>
            obtain ⟨o, ho⟩ := objOk_get (I.hok dd u hH)
            refine ⟨some o, hget, hz.1, ?_, by rw [hz.2]; exact ho⟩
            unfold PySem.W.notCls
            rw [hv] <;> rfl
      obtain ⟨od, J⟩ := J
      exact PySem.W.kia_one (PySem.W.kitx_exc hcl C.hg C.hk C.hs C.ha C.hn C.ht C.hm) I.kIn J e (fun z => nomatch z) fun tk => ⟨.bl b, H, I.kept (t' := tk) fun _ _ z => z, rfl, q⟩
/-- t: the class that is asked for, an own one or a built-in one -/
noncomputable def fIsx (C : Str) (yes nos : List Str) (t : D) (a : Addr) (d : Option Addr) : List D → AH → Res D := fun ds A => match ds with
  | [.exv a' d' _ _, t'] => open Classical in if a' = a ∧ d' = d ∧ t' = t then (if C ∈ yes then .ok (.bl true) A else if C ∈ nos then .ok (.bl false) A else .no) else .no
  | _ => .no
/-- the class's value -/
def ClsD (K : PySem.W.Frag) (t : D) (tv : Value) : Prop := (∃ n, t = .cl n ∧ clsV K n = some tv ∧ ∃ a, tv = .ref a) ∨ ∃ n, t = .ty n ∧ tv = .type n
theorem ClsD.val {K : PySem.W.Frag} {m : Mp} {H : Hp} {t : D} {tv : Value} {c : V} (h : ClsD K t tv) (r : RD K m H t c) (u : Value) (ru : RelV c u) : u = tv := by
  rcases h with ⟨n, rfl, h1, a, rfl⟩ | ⟨n, rfl, rfl⟩
  · cases r with
    | cl h2 => rw [h1] at h2; cases h2; exact ru
  · cases r
    exact ru
theorem fIsx_ok {K : PySem.W.Frag} {C : Str} {yes nos : List Str} {t : D} {tv cls : Value} {a D0 : Addr} {d : Option Addr} (ht : ClsD K t tv) (hC : clsV K C = some cls)
    (y : ∀ C ∈ yes, ∀ v, clsV K C = some v → ∃ c, v = .ref c ∧ ExcC K c ∧ PySem.W.kitOne K (.ref c) tv = some true) (z : ∀ C ∈ nos, ∀ v, clsV K C = some v → ∃ c, v = .ref c ∧ ExcC K c ∧ PySem.W.kitOne K (.ref c) tv = some false) (hD : cls = .ref D0) :
    CallD K (fIsx C yes nos t a d) (rIsG K a D0 d) := by
  intro W σ m A H xs ds Q R hx h
  unfold fIsx at h
  split at h
  rotate_left
  · exact h.elim
  rename_i a' d' ns es t'
  split at h
  rotate_left
  · exact h.elim
  rename_i hc
  obtain ⟨rfl, rfl, rfl⟩ := hc
  subst hD
  cases hx with
  | cons r1 r =>
    cases r with
    | cons r2 r =>
      cases r
      rename_i x c
      have x0 : x = .ref a' := by cases r1 <;> rfl
      subst x0
      have there : ∀ dd, d' = some dd → H dd ≠ none := fun dd e => by
        subst e
        cases r1 with
        | exv1 h1 _ _ _ => rw [h1]; exact fun z => nomatch z
      split at h
      · rename_i hy
        obtain ⟨c2, e, ec, k⟩ := y C hy _ hC
        cases e
        exact ⟨c, tv, true, rfl, fun u ru => ht.val r2 u ru, ec, k, there, Post.here R (.bl _) h⟩
      · split at h
        · rename_i hn
          obtain ⟨c2, e, ec, k⟩ := z C hn _ hC
          cases e
          exact ⟨c, tv, false, rfl, fun u ru => ht.val r2 u ru, ec, k, there, Post.here R (.bl _) h⟩
        · exact h.elim
section
variable {X : Cx} {W : WX} {a : Addr} {oe : Obj} {cls : Value} {d : Option Addr} {pn : List (Addr × Obj)} {e : Expr} {es : List Expr} {ms : MA} {p pos : Pos} {C : Str} {yes nos : List Str} {t : D} {tv : Value}
theorem d_isx (ht : ClsD X.K t tv) (y : SubF X.K yes tv true) (z : SubF X.K nos tv false) (kit : ∀ c b, PySem.W.subIn X.K (.ref c) tv = some b → PySem.W.kitOne X.K (.ref c) tv = some b) (hC : clsV X.K C = some cls) (hz : Zc cls d oe) (hf : ∃ vs, oe.data = .fields vs)
    (hm : X.mg "isinstance" = none) (ha : DA (X.suite a ((a, oe) :: pn)) W (e :: es) ms)
    (hg : Gl X "isinstance" := by rfl) (he : starEach (e :: es) X.env = (false, eval e X.env) :: starEach es X.env := by rfl) (hpl : (backTo pos (starEach es X.env)).any (·.1) = false := by rfl) :
    DE (X.suite a ((a, oe) :: pn)) W (.Call (.Name "isinstance" p) (e :: es) [] pos) (mCall (fIsx C yes nos t a d) ms) := by
  by_cases hin : C ∈ yes ∨ C ∈ nos
  · have hD : ∃ D0, cls = .ref D0 := by
      rcases hin with h | h
      · obtain ⟨c, e1, _⟩ := y C h _ hC; exact ⟨c, e1⟩
      · obtain ⟨c, e1, _⟩ := z C h _ hC; exact ⟨c, e1⟩
    obtain ⟨D0, rfl⟩ := hD
    have F : CallD X.K (fIsx C yes nos t a d) (rIsG X.K a D0 d) := fIsx_ok (cls := .ref D0) ht hC (fun C hC v hv => by
      obtain ⟨c, e1, e2, e3⟩ := y C hC v hv
      exact ⟨c, e1, e2, kit c true e3⟩) (fun C hC v hv => by
      obtain ⟨c, e1, e2, e3⟩ := z C hC v hv
      exact ⟨c, e1, e2, kit c false e3⟩) rfl
    exact d_callB (X := X.suite a ((a, oe) :: pn)) (call_isG hz hf) F hg hm (by decide +kernel) ha (by decide) (by decide) he hpl
  · have F : CallD X.K (fIsx C yes nos t a d) (fun _ _ _ => False) := fun W σ m A H xs ds Q R hx h => by
      unfold fIsx at h
      split at h
      · split at h
        · rw [if_neg fun z => hin (.inl z), if_neg fun z => hin (.inr z)] at h
          exact h
        · exact h
      · exact h
    exact d_callB (id := "isinstance") (X := X.suite a ((a, oe) :: pn)) (fun _ _ _ _ _ _ _ _ _ h => h.elim) F hg hm (by decide +kernel) ha (by decide) (by decide) he hpl
end
section
variable {X : Cx} {W : WX} {pos : Pos}
/-- an own class, by its name -/
theorem d_cl {x : Str} {c : Addr} (hc : clsV X.K x = some (.ref c)) (hm : X.mg x = some (.ref c)) (hg : Gl X x := by rfl) (hd : (x == ("__debug__" : Str)) = false := by decide) : DE X W (.Name x pos) (mK (.cl x)) :=
  PEi (pe_glob (v := .ref c) hg hm rfl hd) fun σ H Q ⟨m, A, ρ, R, E, h⟩ => Post.here R (.cl hc) h
/-- a built-in type, by its name -/
theorem d_ty {x : Str} {n : String} (hm : X.mg x = none) (hv : bootBuiltins x = some (.type n)) (hg : Gl X x := by rfl) (hn : x ≠ "__name__" := by decide) (hd : (x == ("__debug__" : Str)) = false := by decide) : DE X W (.Name x pos) (mK (.ty n)) :=
  PEi (pe_bltn (v := .ty n) hg hm hv rfl hn hd) fun σ H Q ⟨m, A, ρ, R, E, h⟩ => Post.here R (.ty n) h
end
/-! ### isinstance of a value -/
def tyName (A : AH) : D → Option String
  | .non => some "NoneType"
  | .bl _ => some "bool"
  | .int _ => some "int"
  | .str _ => some "str"
  | .tup _ => some "tuple"
  | .lst _ => some "list"
  | .ref n => match A[n]? with
    | some (.lst _) => some "list"
    | some (.dk _) => some "dict"
    | _ => none
  | _ => none
def tyNames : List String := ["NoneType", "bool", "int", "str", "tuple", "list", "dict"]
def isB (a b : String) : Bool := a == b || (a == "bool" && b == "int")
theorem kitB_ok : ∀ a ∈ tyNames, ∀ b ∈ tyNames, kitB a b = some (isB a b) := by decide +kernel
theorem tyName_in {A : AH} {d : D} {n : String} (h : tyName A d = some n) : n ∈ tyNames := by
  unfold tyName at h
  split at h <;> first | (cases h; decide) | (split at h <;> first | (cases h; decide) | cases h) | cases h
theorem tyName_ok {K : PySem.W.Frag} {m : Mp} {A : AH} {H : Hp} {d : D} {x : V} {n : String} (R : Rel K m A H) (r : RD K m H d x) (h : tyName A d = some n) : TyX K H x (.type n) := by
  unfold tyName at h
  split at h
  · cases h; cases r; exact .base .non
  · cases h; cases r; exact .base (.bl _)
  · cases h; cases r; exact .base (.int _)
  · cases h; cases r; exact .base (.str _)
  · cases h
    cases r with
    | tup s _ =>
      rcases s.sq with (e | ⟨o, e⟩) | ⟨o, its, k, e, c, _⟩
      · exact .base (.tup e)
      · exact .fTuple e
      · exact .kTuple e c
  · cases h
    cases r with
    | lst s _ =>
      rcases s.sq with (e | ⟨o, e⟩) | ⟨o, its, k, e, c, _⟩
      · exact .base (.lst e)
      · exact .base (.frz e)
      · exact .kList e c
  · cases r with
    | ref hm =>
      split at h
      · rename_i hA
        cases h
        obtain ⟨q, h1, vs, h2, _⟩ := R.obj _ _ hA
        rw [hm] at h1; cases h1
        exact .base (.lst h2)
      · rename_i hA
        cases h
        obtain ⟨q, h1, vs, ⟨h2, _⟩, _⟩ := R.obj _ _ hA
        rw [hm] at h1; cases h1
        exact .base (.dK h2)
      · cases h
  · cases h
def fIsi : List D → AH → Res D := fun ds A => match ds with
  | [x, .ty n] => (match tyName A x with
    | some t => if n ∈ tyNames then .ok (.bl (isB t n)) A else .no
    | none => .no)
  | _ => .no
theorem fIsi_ok {K : PySem.W.Frag} : CallD K fIsi (rIsi K) := by
  intro W σ m A H xs ds Q R hx h
  unfold fIsi at h
  split at h
  rotate_left
  · exact h.elim
  rename_i x n
  split at h
  rotate_left
  · exact h.elim
  rename_i t ht
  split at h
  rotate_left
  · exact h.elim
  rename_i hn
  cases hx with
  | cons r1 r =>
    cases r with
    | cons r2 r =>
      cases r
      cases r2
      exact ⟨_, _, _, _, _, rfl, .ty n, tyName_ok R r1 ht, kit_ty (kitB_ok t (tyName_in ht) n hn), Post.here R (.bl _) h⟩
theorem d_isi {X : Cx} {W : WX} {e : Expr} {es : List Expr} {ms : MA} {p pos : Pos} (hm : X.mg "isinstance" = none) (ha : DA X W (e :: es) ms)
    (hg : Gl X "isinstance" := by rfl) (he : starEach (e :: es) X.env = (false, eval e X.env) :: starEach es X.env := by rfl) (hpl : (backTo pos (starEach es X.env)).any (·.1) = false := by rfl) :
    DE X W (.Call (.Name "isinstance" p) (e :: es) [] pos) (mCall fIsi ms) := d_callB call_isi fIsi_ok hg hm (by decide +kernel) ha (by decide) (by decide) he hpl
end DM
end
section
set_option maxHeartbeats 2000000
namespace DM
open PySem PySem.Spec PyProof.Rows L2
/-! ### the facts of a text's top, gathered -/
abbrev lamQ (x : Str) : Str := x ++ ".<locals>." ++ "<lambda>"
def clsBody : Stmt → List Stmt
  | .ClassDef _ _ _ b _ _ _ _ _ _ _ => b
  | _ => []
abbrev methAt (st : Stmt) (i : Nat) : Stmt := (clsBody st).getD i (.Pass ⟨0, 0, 0, 0⟩)
theorem excK_mk {K : PySem.W.Frag} {n : Str} {c : Addr} (a : PySem.W.nsIn K mainGlobals n = some (some (.ref c))) (hg : PySem.W.findIn K (.ref c) "__getattribute__" = some (some (.builtin "BaseException.__getattribute__")))
    (hk : PySem.W.findIn K (.ref c) "__getattr__" = some none) (hs : PySem.W.subIn K (.ref c) (.type "BaseException") = some true) (hd : PySem.W.hasDictIn K c = true) (ha : PySem.W.findIn K (.ref c) "__class__" = some (some (.builtin "object.__class__")))
    (hn : PySem.W.specialIn K (.builtin "object.__class__") "__get__" = some (some (.builtin "getset_descriptor.__get__"))) (ht : PySem.W.takesIn K (.builtin "object.__class__") = some true) (hm : PySem.W.mroIn K c (.type "object") = some true)
    (ty : PySem.W.typeIn K (.ref c) = some (.type "type")) (kp : PySem.W.keepIn K (.ref c) = true) (self : PySem.W.subIn K (.ref c) (.ref c) = some true) : ExcK K n c :=
  ⟨by unfold clsV; rw [a]; rfl, ⟨hg, hk, hs, hd, ha, hn, ht, hm⟩, ty, kp, self⟩
theorem errC_mk {prog : Program} {K : PySem.W.Frag} {B newId initId : String} {bm : List Value} {C fI : Addr} {f x : Str} {st : Stmt} {nm q : Str} {N : Addr} {bs bm1 : List Value} {sn : List Str} {sub : List Value} {ab : Bool} {col : Option Bool} {dd : Option Addr} {k0 k1 k2 k3 k5 : Option Value}
    {oc dV kV doc pm ct ccl cl : Value} {od an cdd cld : Option Addr} {osl ccs csl : Array (Option Value)} {qual file : Str} {cda cc : Addr} {vs : Array Value} {tf : Tok} {p0 p1 p2 p3 p4 p5 p6 p7 p8 p9 : Pos} (base : ErE.Base B newId initId bm)
    (lk : K.lookup C = some (excClassObj nm q C N bs bm1 true sn sub ab col dd k0 k1 k2 k3 k5 newId)) (ln : ErE.Line bm bm1) (sa : PySem.W.findIn K (.ref C) "__setattr__" = some (some (.builtin "object.__setattr__"))) (ini : PySem.W.findIn K (.ref C) "__init__" = some (some (.ref fI)))
    (tI : PySem.W.typeIn K (.ref fI) = some (.type "function")) (fld : PySem.W.findIn K (.ref C) f = some none) (sup : PySem.W.ks_superIn K C C "__init__" = some (some (.builtin initId))) (subB : PySem.W.subIn K (.ref C) (.type B) = some true) (opq : PySem.W.nsIn K cStatics "thirdparty.any" = some none)
    (lI : K.lookup fI = some ⟨oc, od, .func (PySem.W.ksFn "__init__" qual (defArgs st) (defBody st) (defScope st) dV kV doc pm an (.ref cda) ct cc), osl⟩) (cI : PySem.W.codeIn K (.ref cda) qual = true)
    (lc : K.lookup cda = some ⟨ccl, cdd, .fields vs, ccs⟩) (v2 : vs[2]? = some (.str file tf)) (fe : ((prog.main.file : Str) == file) = true) (lce : K.lookup cc = some ⟨cl, cld, .cell (some (.ref C)), csl⟩)
    (top : (prog.main.scope.names.lookup ("super" : Str)).isSome = false)
    (hb : defBody st = [.Expr (.Call (.Attribute (.Call (.Name "super" p0) [] [] p1) "__init__" p2) [.Name x p3] [] p4) p5, .Assign [.Attribute (.Name "self" p6) f p7] (.Name x p8) p9])
    (sc : (decide ((defScope st).names.lookup ("super" : Str) = some .globalImplicit) && (decide ((defScope st).names.lookup ("__class__" : Str) = some .free) && (decide ((defScope st).names.lookup ("self" : Str) = some .local) && (decide ((defScope st).names.lookup x = some .local) &&
      (decide (x ≠ "self") && (decide ((x == ("__debug__" : Str)) = false) && ((defScope st).names.all (fun y => decide (y.2 ≠ .cell)) && (decide ((defScope st).kind = .function) && (decide ((defScope st).isCoroutine = false) && (decide ((defScope st).isGenerator = false) && (p2.endLine == p4.line))))))))))) = true)
    (hfirst : ((defArgs st).posonlyargs ++ (defArgs st).args).head?.map (·.arg) = some ("self" : Str))
    (bi : ∀ (qual : Str) (dV kV doc pm cdv ct : Value) (an : Option Addr) (cc : Addr) (s : Shared) (a b : Value), dV = .none → BindsTo s (PySem.W.ksFn "__init__" qual (defArgs st) (defBody st) (defScope st) dV kV doc pm an cdv ct cc) ⟨[a, b], []⟩ [("self", a), (x, b)]) (hdV : dV = .none) : ErE.ErrC prog K B newId initId bm C fI f := by
  simp only [Bool.and_eq_true, decide_eq_true_eq, List.all_eq_true] at sc
  obtain ⟨s1, s2, s3, s4, s5, s6, s7, s8, s9, s10, s11⟩ := sc
  have bi' := bi qual dV kV doc pm (.ref cda) ct an cc
  rw [hb] at lI bi'
  refine { base := base, cls := ⟨_, _, _, _, _, _, _, _, _, _, _, _, _, _, _, lk, ln⟩, sa := sa, ini := ini, tI := tI, fld := fld, sup := sup, subB := subB, opq := opq, top := top, fn := ?_ }
  exact ⟨_, _, _, _, _, _, _, _, _, _, _, _, _, _, _, _, _, _, _, _, _, _, _, _, _, lI, cI, ⟨_, _, _, _, _, _, lc, v2, fe⟩, ⟨_, _, _, lce⟩, s1, s2, s3, s4, s5, s6, s7, s8, s9, s10, s11, hfirst, fun s a b => bi' s a b hdV⟩
theorem tabIn_mk {K : PySem.W.Frag} {x : Str} {f c P : Addr} {oc : Value} {od : Option Addr} {fd : FuncData} {osl : Array (Option Value)} {ccl : Value} {cdd : Option Addr} {vs : Array Value} {ccs : Array (Option Value)} (a : PySem.W.nsIn K mainGlobals x = some (some (.ref f)))
    (l : K.lookup f = some ⟨oc, od, .func fd, osl⟩) (hc : fd.code = .ref c) (lc : K.lookup c = some ⟨ccl, cdd, .fields vs, ccs⟩) (v : vs[11]? = some (.ref P)) : PySem.W.tabIn K x = some (c, P) := by
  unfold PySem.W.tabIn
  rw [a]
  simp only [l, hc, lc, v]
end DM
end
section
set_option maxHeartbeats 2000000
namespace DM
open PySem PySem.Spec PyProof.Rows L2
/-! ### running the further mirrors -/
section
variable {ρ ρ1 : DM.Env} {A A1 : AH} {n N : Nat} {C f q : Str} {P : Addr} {d : D} {fs : List (Str × D)} {me mw : ME} {sa sb : MS} {F : ME → MS} {hs : List HdM} {h : HdM} {r : SRes} {x : LTag}
theorem ev_raise : mRaise C f me ρ A = lift (me ρ A) ρ fun d A1 => .exc C [(f, d)] ρ A1 := id rfl
theorem seq_exc (h : sa ρ A = .exc C fs ρ1 A1) : mSeq sa sb ρ A = .exc C fs ρ1 A1 := by unfold mSeq; rw [h]
theorem fun_exc {ds : List D} (h : sa (ds.map some ++ List.replicate (n - ds.length) none) A = .exc C fs ρ1 A1) : mFun n sa ds A = .exc C fs A1 := by unfold mFun; rw [h]
theorem fun_nx {ds : List D} (h : sa (ds.map some ++ List.replicate (n - ds.length) none) A = .nx ρ1 A1) : mFun n sa ds A = .ok .non A1 := by unfold mFun; rw [h]
theorem try_rt (h : sa ρ A = .rt d A1) : mTry sa hs ρ A = .rt d A1 := by unfold mTry; rw [h]
theorem try_exc (h : sa ρ A = .exc C fs ρ1 A1) : mTry sa hs ρ A = excGo hs C fs ρ1 A1 := by unfold mTry; rw [h]
theorem exc_yes (hy : C ∈ h.yes) (hr : ∀ a d, goneM h.slot (h.suite C a (if fs = [] then none else some d) (enterM h.slot a (if fs = [] then none else some d) fs ρ) A) = r) : excGo (h :: hs) C fs ρ A = r := by
  unfold excGo
  rw [if_pos hy]
  exact indep_eq hr
theorem exc_no (hy : C ∉ h.yes) (hn : C ∈ h.nos) : excGo (h :: hs) C fs ρ A = excGo hs C fs ρ A := by
  conv => lhs; unfold excGo
  rw [if_neg hy, if_pos hn]
theorem work_at {σ : List (Option D)} : mWork x q me 0 (some (.fnv x.1 x.2.1 q x.2.2 ρ) :: σ) A = me ρ A := by
  unfold mWork
  exact if_pos ⟨rfl, rfl, rfl, rfl⟩
theorem lam_at {r : Res D} (hT : A[n]? = some (.tab P q)) (h : ∀ x : LTag, mFun N (F (mWork x q me 0)) [.fnv x.1 x.2.1 q x.2.2 ρ] A = r) : mLam n P q N F me ρ A = r := by
  unfold mLam
  rw [hT]
  exact (if_pos ⟨rfl, rfl⟩).trans (indepR_eq h)
theorem xf_at {xs : List Str} {a dd : Addr} {ns : List Str} {ds : List D} {y : D} (hm : me ρ A = .ok (.exv a (some dd) ns ds) A1) (hC : C ∈ xs) (hl : (ns.zip ds).lookup f = some y) : mXf C xs a (some dd) f me ρ A = .ok y A1 := by
  unfold mXf
  rw [hm, bind_ok]
  exact (if_pos ⟨hC, rfl, rfl⟩).trans (by rw [hl])
theorem isx_yes {yes nos : List Str} {t : D} {a : Addr} {dd : Option Addr} {ns : List Str} {ds : List D} (hC : C ∈ yes) : fIsx C yes nos t a dd [.exv a dd ns ds, t] A = .ok (.bl true) A := by
  unfold fIsx
  exact (if_pos ⟨rfl, rfl, rfl⟩).trans (if_pos hC)
end
end DM
end
section
set_option maxHeartbeats 2000000
namespace DM
open PySem PySem.Spec PyProof.Rows L2
/-! ### zip of a list or tuple and another one -/
def IterAt (tp : Bool) (h : Heap) (it a : Addr) (i : Nat) : Prop := if tp = true then h.IsTupleIter it a i else h.IsListIter it a i
theorem IterAt.keep {tp : Bool} {h h' : Heap} {it a : Addr} {i : Nat} (x : IterAt tp h it a i) (k : ∀ o, h.get? it = some o → h'.get? it = some o) : IterAt tp h' it a i := by
  cases tp with
  | false => exact Heap.IsListIter.at x k
  | true => exact Heap.IsTupleIter.at x k
end DM
end
section
set_option maxHeartbeats 2000000
namespace DM
open PySem PySem.Spec PyProof.Rows L2
section
variable {X : Cx} {W : WX} {a b c e e2 tg : Expr} {es elts : List Expr} {ma mb mc me : ME} {mt mu : MT} {ms : MA} {pos p p2 p3 tpos : Pos} {kk : Nat}
/-! ### zip of things that stay -/
/-! ### any, all -/
def blsOf : List D → Option (List Bool)
  | [] => some []
  | .bl b :: xs => (blsOf xs).map (b :: ·)
  | _ => none
theorem bls_rd {K : PySem.W.Frag} {m : Mp} {H : Hp} : ∀ {xs : List D} {bs : List Bool} {vs : List V}, blsOf xs = some bs → RDs K m H xs vs → vs = bs.map V.bl
  | [], bs, vs, h, r => by cases h; cases r; rfl
  | d :: xs, bs, vs, h, r => by
    cases r with
    | cons r rs =>
      cases d with
      | bl b =>
        simp only [blsOf, Option.map_eq_some_iff] at h
        obtain ⟨cs, h1, rfl⟩ := h
        rw [bls_rd h1 rs]
        cases r
        rfl
      | _ => simp [blsOf] at h
def fAll : List D → AH → Res D := fun ds A => match ds with
  | [.lst xs] => match blsOf xs with
    | some bs => .ok (.bl (bs.all id)) A
    | none => .no
  | _ => .no
theorem fAll_ok {K : PySem.W.Frag} : CallD K fAll (rAll K) := by
  intro W σ m A H xs ds Q R hx h
  unfold fAll at h
  split at h
  · obtain ⟨v, rfl, r⟩ := hx.one
    split at h
    · rename_i bs hb
      cases r with
      | lst s rs =>
        have := bls_rd hb rs
        subst this
        exact ⟨_, bs, rfl, s.sq, Post.here R (.bl _) h⟩
    · exact h.elim
  · exact h.elim
theorem d_all (hm : X.mg "all" = none) (ha : DA X W [e] ms) (hc : X.calm = true := by rfl) (hg : Gl X "all" := by rfl) (he : starEach [e] X.env = (false, eval e X.env) :: starEach [] X.env := by rfl) (hpl : (backTo pos (starEach [] X.env)).any (·.1) = false := by rfl) :
    DE X W (.Call (.Name "all" p) [e] [] pos) (mCall fAll ms) := d_callB (cr_all hc) fAll_ok hg hm (by decide +kernel) ha (by decide) (by decide) he hpl
/-! ### sorted ints; sum -/
theorem units65 {k : Nat} {A : Around} (r : Room k A) : A.units + 65 < cLine := by have := r.un; omega
/-! ### in, deep things -/
def rInT (K : PySem.W.Frag) : R2 := fun x y H Q => ∃ d ds, Dp K H x d ∧ Dp K H y (.tuple ds) ∧ SeqAt.shaped d = true ∧ SeqAt.shaped (.tuple ds) = true ∧ Q (.bl (ds.any fun z => PyData.eqv z d)) H
def rNotInT (K : PySem.W.Frag) : R2 := fun x y H Q => ∃ d ds, Dp K H x d ∧ Dp K H y (.tuple ds) ∧ SeqAt.shaped d = true ∧ SeqAt.shaped (.tuple ds) = true ∧ Q (.bl (!ds.any fun z => PyData.eqv z d)) H
theorem op_inT (hu : X.A.units + 65 < cLine) : OpR X (compareOp .In) (rInT X.K) := by
  intro pins s σ H x y v u Q I rx ry h
  obtain ⟨d, ds, hd, he, sd, se, q⟩ := h
  obtain ⟨as, r1⟩ := Dp.reads I d x v hd rx
  obtain ⟨bs, r2⟩ := Dp.reads I (.tuple ds) y u he ry
  exact SeqAt.in_tuple_reads r2 r1 (SeqAt.canLay_of_shaped se) (SeqAt.canLay_of_shaped sd) (room_in_shaped sd hu) ⟨.bl _, H, I, rfl, q⟩
theorem op_notInT (hu : X.A.units + 65 < cLine) : OpR X (compareOp .NotIn) (rNotInT X.K) := by
  intro pins s σ H x y v u Q I rx ry h
  obtain ⟨d, ds, hd, he, sd, se, q⟩ := h
  obtain ⟨as, r1⟩ := Dp.reads I d x v hd rx
  obtain ⟨bs, r2⟩ := Dp.reads I (.tuple ds) y u he ry
  exact SeqAt.notIn_tuple_reads r2 r1 (SeqAt.canLay_of_shaped se) (SeqAt.canLay_of_shaped sd) (room_in_shaped sd hu) ⟨.bl _, H, I, rfl, q⟩
def fInD (neg : Bool) : D → D → AH → Res D := fun d e A => match toPyA A d, toPyA A e with
  | some p, some (.list ds) => if SeqAt.shaped p = true ∧ SeqAt.shaped (.list ds) = true then .ok (.bl (if neg then !(ds.any fun z => PyData.eqv z p) else ds.any fun z => PyData.eqv z p)) A else .no
  | some p, some (.tuple ds) => if SeqAt.shaped p = true ∧ SeqAt.shaped (.tuple ds) = true then .ok (.bl (if neg then !(ds.any fun z => PyData.eqv z p) else ds.any fun z => PyData.eqv z p)) A else .no
  | _, _ => .no
theorem fInD_ok {K : PySem.W.Frag} : OpD K (fInD false) (fun x y H Q => rInD K x y H Q ∨ rInT K x y H Q) := by
  intro W σ m A H x y d e Q R hx hy h
  unfold fInD at h
  split at h
  · rename_i p ds h1 h2
    split at h
    · rename_i hs
      exact .inl ⟨p, ds, RD.dpA R hx h1, RD.dpA R hy h2, hs.1, hs.2, Post.here R (.bl _) h⟩
    · exact h.elim
  · rename_i p ds h1 h2
    split at h
    · rename_i hs
      exact .inr ⟨p, ds, RD.dpA R hx h1, RD.dpA R hy h2, hs.1, hs.2, Post.here R (.bl _) h⟩
    · exact h.elim
  · exact h.elim
theorem fNinD_ok {K : PySem.W.Frag} : OpD K (fInD true) (fun x y H Q => rNotInD K x y H Q ∨ rNotInT K x y H Q) := by
  intro W σ m A H x y d e Q R hx hy h
  unfold fInD at h
  split at h
  · rename_i p ds h1 h2
    split at h
    · rename_i hs
      exact .inl ⟨p, ds, RD.dpA R hx h1, RD.dpA R hy h2, hs.1, hs.2, Post.here R (.bl _) h⟩
    · exact h.elim
  · rename_i p ds h1 h2
    split at h
    · rename_i hs
      exact .inr ⟨p, ds, RD.dpA R hx h1, RD.dpA R hy h2, hs.1, hs.2, Post.here R (.bl _) h⟩
    · exact h.elim
  · exact h.elim
theorem t_inD (hu : X.A.units + 65 < cLine) (ha : DE X W a ma) (hb : DE X W b mb) (hm : behindInMarks .In b = false := by rfl) : DT X W (.Compare a [.In] [b] pos) (mTst (mOp (fInD false) ma mb)) := t_cmp ((op_inD hu).or (op_inT hu)) fInD_ok ha hb hm
theorem t_ninD (hu : X.A.units + 65 < cLine) (ha : DE X W a ma) (hb : DE X W b mb) (hm : behindInMarks .NotIn b = false := by rfl) : DT X W (.Compare a [.NotIn] [b] pos) (mTst (mOp (fInD true) ma mb)) := t_cmp ((op_notInD hu).or (op_notInT hu)) fNinD_ok ha hb hm
/-! ### list(range(n)) -/
end
end DM
end
section
set_option maxHeartbeats 2000000
namespace DM
open PySem PySem.Spec PyProof.Rows L2
section
variable {X : Cx} {W : WX} {a b c e e2 tg : Expr} {es elts : List Expr} {ma mb mc me : ME} {mt mu : MT} {ms : MA} {pos p p2 p3 tpos : Pos} {kk : Nat}
/-! ### dicts: of pairs, read -/
def keyOf : D → Option Key
  | .int i => some (.inl i)
  | .str x => some (.inr x)
  | _ => none
/-! ### d[k] -/
end
end DM
end
section
set_option maxHeartbeats 2000000
namespace DM
open PySem PySem.Spec PyProof.Rows L2
/-! ### instances of own classes -/
structure ClsI (K : PySem.W.Frag) (C : Str) (c : Addr) : Prop where
  nm : clsV K C = some (.ref c)
  cl : Cls K c
section
variable {X : Cx} {W : WX} {a b c e o tg : Expr} {es : List Expr} {ma mb mc me mo mv : ME} {mt mu : MT} {ms mk : MA} {pos p pos' apos : Pos} {kws : List Keyword} {C f mname : Str} {ca : Addr}
/-! ### methods -/
variable {k : Nat} {g : Addr} {fd : FuncData} {ps ks : List Str} {mf : List D → AH → Res D} {pl : Sem Bool}
/-! ### C(..) -/
/-! ### is, of bools -/
def fIsB (neg : Bool) : D → D → AH → Res D := fun d e A => match d, e with
  | .bl a, .bl b => .ok (.bl (if neg then !decide (a = b) else decide (a = b))) A
  | _, _ => .no
theorem fNotB_ok {K : PySem.W.Frag} : OpD K (fIsB true) rNotB := by
  intro W σ m A H x y d e Q R hx hy h
  unfold fIsB at h
  split at h
  · cases hx; cases hy
    exact ⟨_, _, rfl, rfl, Post.here R (.bl _) h⟩
  · exact h.elim
theorem t_isntB (ha : DE X W a ma) (hb : DE X W b mb) : DT X W (.Compare a [.IsNot] [b] pos) (mTst (mOp (fIsB true) ma mb)) := t_cmp op_notBl fNotB_ok ha hb
end
end DM
end
section
set_option maxHeartbeats 2000000
namespace DM
open PySem PySem.Spec PyProof.Rows L2
/-! ### isinstance of several built-in types -/
def rIsiU (K : PySem.W.Frag) : List V → Hp → VK → Prop := fun xs H Q => ∃ (x : V) (tp : Addr) (cs : List V) (t : Value) (us : List Value) (b : Bool), xs = [x, .ref tp] ∧ SqT K H tp cs ∧ Paired ClsV cs us ∧ TyX K H x t ∧ PySem.W.kitAny K t us = some b ∧ Q (.bl b) H
theorem call_isiU {X : Cx} : CallR X (.builtin "isinstance") (rIsiU X.K) := by
  intro pins s σ H xs us Q I r h
  obtain ⟨x, tp, cs, t, ws, b, rfl, hT, k, ty, e, q⟩ := h
  obtain ⟨u1, u2, rfl, r1, r2⟩ := vals2 r
  cases (show u2 = Value.ref tp from r2)
  obtain ⟨P, Z, p, hx⟩ := kit_of I r1 ty
  obtain ⟨its, rv, ⟨o, h1, h2, n, h3⟩, _⟩ := I.tuple hT
  have e3 := ClsV.all k rv
  subst e3
  obtain ⟨oc, od, dt, sl⟩ := o
  simp only at h2 h3
  subst h2 h3
  exact PySem.W.kia_tup Z I.kIn p h1 e hx fun tk => ⟨.bl b, H, I.tok tk, rfl, q⟩
def tysOf : List D → Option (List String)
  | [] => some []
  | .ty n :: r => (tysOf r).map (n :: ·)
  | _ => none
theorem tys_rd {K : PySem.W.Frag} {m : Mp} {H : Hp} : ∀ {xs : List D} {ns : List String} {vs : List V}, tysOf xs = some ns → RDs K m H xs vs → vs = ns.map V.ty
  | [], ns, vs, h, r => by cases h; cases r; rfl
  | d :: xs, ns, vs, h, r => by
    cases r with
    | cons r rs =>
      cases d with
      | ty b =>
        simp only [tysOf, Option.map_eq_some_iff] at h
        obtain ⟨cs, h1, rfl⟩ := h
        rw [tys_rd h1 rs]
        cases r
        rfl
      | _ => simp [tysOf] at h
theorem tys_cls : ∀ ns : List String, Paired ClsV (ns.map V.ty) (ns.map Value.type)
  | [] => .nil
  | n :: ns => .cons (.ty n) (tys_cls ns)
theorem kit_tys {K : PySem.W.Frag} {t : String} (ht : t ∈ tyNames) : ∀ ns : List String, (∀ n ∈ ns, n ∈ tyNames) → PySem.W.kitAny K (.type t) (ns.map Value.type) = some (ns.any fun n => isB t n)
  | [], _ => rfl
  | n :: ns, h => by
    have e := kit_ty (K := K) (kitB_ok t ht n (h n List.mem_cons_self))
    have ih := kit_tys (K := K) ht ns fun z hz => h z (List.mem_cons_of_mem _ hz)
    rw [List.map_cons, List.any_cons]
    unfold PySem.W.kitAny
    rw [e]
    cases isB t n with
    | true => rfl
    | false => simpa using ih
def fIsiT : List D → AH → Res D := fun ds A => match ds with
  | [x, .tup ts] => (match tyName A x, tysOf ts with
    | some t, some ns => if ∀ n ∈ ns, n ∈ tyNames then .ok (.bl (ns.any fun n => isB t n)) A else .no
    | _, _ => .no)
  | _ => .no
theorem fIsiT_ok {K : PySem.W.Frag} : CallD K fIsiT (rIsiU K) := by
  intro W σ m A H xs ds Q R hx h
  unfold fIsiT at h
  split at h
  rotate_left
  · exact h.elim
  rename_i x ts
  split at h
  rotate_left
  · exact h.elim
  rename_i t ns ht hn
  split at h
  rotate_left
  · exact h.elim
  rename_i hm
  cases hx with
  | cons r1 r =>
    obtain ⟨v, rfl, r2⟩ := r.one
    cases r2 with
    | tup s rs =>
      have := tys_rd hn rs
      subst this
      exact ⟨_, _, _, _, _, _, rfl, s.sq, tys_cls ns, tyName_ok R r1 ht, kit_tys (tyName_in ht) ns hm, Post.here R (.bl _) h⟩
section
variable {X : Cx} {W : WX} {a b c e e2 tg : Expr} {es elts : List Expr} {ma mb mc me : ME} {mt mu : MT} {ms : MA} {pos p p2 p3 tpos : Pos} {kk : Nat}
theorem d_isiT (hm : X.mg "isinstance" = none) (ha : DA X W (e :: es) ms)
    (hg : Gl X "isinstance" := by rfl) (he : starEach (e :: es) X.env = (false, eval e X.env) :: starEach es X.env := by rfl) (hpl : (backTo pos (starEach es X.env)).any (·.1) = false := by rfl) :
    DE X W (.Call (.Name "isinstance" p) (e :: es) [] pos) (mCall fIsiT ms) := d_callB call_isiU fIsiT_ok hg hm (by decide +kernel) ha (by decide) (by decide) he hpl
/-! ### sum, min of two -/
/-! ### lists that will change: a copy, a slice -/
/-! ### zip of things that may change -/
end
end DM
end
section
set_option maxHeartbeats 2000000
namespace DM
open PySem PySem.Spec PyProof.Rows L2
section
variable {X : Cx} {W : WX} {a b c e e2 tg : Expr} {es elts : List Expr} {ma mb mc me mv mo : ME} {mt mu : MT} {ms : MA} {pos pos' p p2 p3 tpos apos cpos : Pos} {kk : Nat}
/-! ### dicts that change -/
def putKD (kvs : List (Key × D)) (k : Key) (v : D) : List (Key × D) :=
  if (kvs.any fun kv => decide (kv.1 = k)) = true then kvs.map (fun kv => if kv.1 = k then (kv.1, v) else kv) else kvs ++ [(k, v)]
end
end DM
end
section
set_option maxHeartbeats 2000000
namespace DM
open PySem PySem.Spec PyProof.Rows L2
section
variable {X : Cx} {W : WX} {a b c e e2 o tg : Expr} {es elts : List Expr} {ma mb mc me mv mo : ME} {mt mu : MT} {ms : MA} {pos pos' p p2 p3 tpos apos cpos : Pos} {kk : Nat} {C f : Str} {ca : Addr}
/-! ### xs.insert(i, y), xs.remove(k) of whole numbers -/
/-! ### o.f += i -/
end
end DM
end
section
set_option maxHeartbeats 2000000
/-! own errors over KeyError: its __new__ is LookupError's -/
namespace PySem
namespace ErE
open Builtin Builtin.ObjectAttr
/-- what a line over KeyError holds and what not -/
structure OverKey (l : List Value) : Prop where
  over : l.contains (.type "LookupError") = true
  noAttr : l.contains (.type "AttributeError") = false
  noName : l.contains (.type "NameError") = false
section
variable {M : Model} {prog : Program} {w : World} {A : Around} {E : Value → Shared → Prop} {hp : Heap} {gs : Array GenState} {dr : Drawn} {tn : Nat} {os : OsState}
variable {cn cq : Str} {C N : Addr} {bs l : List Value} {hasD : Bool} {sn : List Str} {sb : List Value} {ab : Bool} {cl : Option Bool} {dd : Option Addr} {k0 k1 k2 k3 k5 : Option Value}
end
section
variable {M : Model} {A : Around} {E : Value → Shared → Prop} {hp : Heap} {gs : Array GenState} {dr : Drawn} {tn : Nat} {os : OsState}
end
end ErE
end PySem
end
section
set_option maxHeartbeats 2000000
namespace DM
open PySem PySem.Spec PyProof.Rows L2
/-! ### defs that are called where an exception is handled, and let none out -/
abbrev XNo : XK := fun _ _ _ => False
structure FnH (P : Program) (w : World) (K : PySem.W.Frag) (mg : Str → Option Value) (base : Heap) (k : Nat) (f : Addr) (fd : FuncData) (ps : List Str) (mf : List D → AH → Res D) : Prop where
  run : ∀ (A : Around) (outer : List PySem.Env) (s : Shared) (H : Hp) (args : Args) (us : List Value) (vs : List V) (Q : VK) (p : Addr × Obj), L2H.RoomH k A → A.handled = some (.ref p.1) → A.guards = some [] → L2H.PinOk outer H s p → Env0 P w K mg base A outer s H → BindsTo s fd args (ps.zip us) → Vals vs us →
    spD K ps.length mf vs H Q XNo → codeAny (model P w) A (.call (.ref f) args) (CR (L2.CX P w) outer P w H s Q XNo) s
section
variable {P : Program} {w : World} {K : PySem.W.Frag} {mg : Str → Option Value} {base : Heap}
theorem FnH.of {x qual : Str} {st : Stmt} {f : Addr} {fd : FuncData} {N ps : List Str} {k : Nat} {ms : MS} (F : Fun K x qual st f fd) (S : FnScope N ps (defScope st))
    (hb : ∀ (cdv : Value), fd.code = cdv → ∀ (A : Around) (outer : List PySem.Env) (s : Shared) (H : Hp) (p : Addr × Obj), A.handled = some (.ref p.1) → L2H.RoomH k (A.deeper (envOfC qual (defScope st) s.heap.objs.size f cdv)) → (A.deeper (envOfC qual (defScope st) s.heap.objs.size f cdv)).guards = some [] →
      DSs (L2H.cxH (L2.CX P w) P w K mg base N qual (defScope st) f cdv A outer s H XNo p) WNo (defBody st) ms) {n : Nat} (hn : N.length = n := by rfl) : FnH P w K mg base (k + 1) f fd ps (mFun n ms) := by
  subst hn
  obtain ⟨oc, od, kV, doc, pm, an, cdv, ct, osl, rfl, lk, hcd⟩ := F.ex
  refine ⟨fun A outer s H args us vs Q p room hot gd pin en bi rel hsp => ?_⟩
  obtain ⟨hlen, m, AA, ds, R, rds, post⟩ := hsp
  have kin : K.In s.heap := en.mod.kin.keeps fun b o h => (en.bs b o h).1
  have nolim : s.heap.NoLimit := en.mod.nolimit.keeps fun b o h => (en.bs b o h).1
  have kinds : ∀ y ∈ ps.zip us, (defScope st).names.lookup y.1 = some .local ∨ ((defScope st).names.lookup y.1 = some .cell ∧ ((cellsFrom (s.heap.objs.size + 1) (defScope st).names []).lookup y.1).isSome = true) := by
    rintro ⟨n, v⟩ hy
    rcases S.par n (List.of_mem_zip hy).1 with z | z
    · exact .inl z
    · exact .inr ⟨z, PySem.W.cellsFrom_some _ _ _ (.inl z)⟩
  refine codeAny_call_function room.depth (kin _ _ lk) rfl S.co S.gen rfl (PySem.W.codeRec_of kin hcd) (bi _ _ _ _ (wpAny_newFunctionEnv_cells S.kind kinds fun env henv s1 hx => ?_))
  subst henv
  refine ⟨nolim.keeps hx.toInCall.keep, codeAny_func ?_⟩
  have body := hb cdv rfl A outer s H p hot (room.deeper _) gd
  have I := L2H.inv_startH (CX := L2.CX P w) (E := XNo) S pin en hlen rel hx
  have want : tS K WNo ms { nx := fun _ H' => Q .non H', rt := Q } (L2.start N vs) H := by
    refine ⟨m, AA, _, R, start_rel (N := N) rds, ?_⟩
    unfold mFun at post
    cases hr : ms (ds.map some ++ List.replicate (N.length - ds.length) none) AA with
    | nx ρ1 A1 => rw [hr] at post; exact fun m' H' σ' e1 R1 _ => post m' H' .non e1 R1 .non
    | rt d A1 => rw [hr] at post; exact fun m' H' v e1 R1 r1 => post m' H' v e1 R1 r1
    | exc C fs ρ1 A1 => rw [hr] at post; exact fun m' H' c dx σ' e1 R1 _ hc hx => post m' H' c dx e1 R1 hc hx
    | bk ρ1 A1 => rw [hr] at post; exact post.elim
    | ct ρ1 A1 => rw [hr] at post; exact post.elim
    | no => rw [hr] at post; exact post.elim
  have back : ∀ {σ' : L2.St} {H' : Hp} {v : V} {u : Value} {s' : Shared}, Inv (L2H.cxH (L2.CX P w) P w K mg base N qual (defScope st) f cdv A outer s H XNo p) [] σ' H' s' → RelV v u → Q v H' → CE outer P w H s Q u s' :=
    fun J ru q => ⟨_, _, J.os, J.bare, J.base, J.hok, ru, q⟩
  refine wpAny_mono (body.run [] s1 (L2.start N vs) H _ I want) (fun fl s' z => ?_) fun _ _ z => z
  cases fl with
  | next =>
    obtain ⟨_, _, J, q⟩ := z
    exact back (v := V.non) (u := Value.none) J rfl q
  | ret u =>
    obtain ⟨_, _, _, J, ru, q⟩ := z
    exact back J ru q
  | brk =>
    obtain ⟨_, _, _, q⟩ := z
    exact q.elim
  | cont =>
    obtain ⟨_, _, _, q⟩ := z
    exact q.elim
end
section
variable {X : Cx} {k : Nat} {f : Addr} {fd : FuncData} {ps ks : List Str} {mf : List D → AH → Res D} {x : Str} {p pos kpos : Pos} {e : Expr} {es : List Expr} {ms mk : MA} {me : ME}
end
/-! ### built-in classes: isinstance, except -/
section
variable {K : PySem.W.Frag} {T : String} {c : Addr} {b : Bool}
end
end DM
end
section
set_option maxHeartbeats 4000000
namespace DM
open PySem PySem.Spec PyProof.Rows L2
/-! ### set(xs) of a list of whole numbers, and sorted(set(xs)) -/
section
variable {P : Program} {w : World} {A : Around} {E : Value → Shared → Prop} {s : Shared}
end
/-! ### sorted(set(xs)) -/
section
variable {X : Cx} {W : WX} {e : Expr} {me : ME} {p p2 pos pos2 : Pos}
def rSetL (K : PySem.W.Frag) (w : World) : List V → Hp → VK → Prop := fun xs H Q => ∃ (l : Addr) (ns : List Int), xs = [.ref l] ∧ SqL K H l (ns.map V.int) ∧ ns.length < 64 ∧
  ∀ (a : Addr) (c : Nat), H a = none → c ≤ ns.length → Q (.ref a) (upd H a (SetO w a (fun j => decide (j ∈ ns)) c))
end
end DM
namespace DM
open PySem PySem.Spec PyProof.Rows L2
theorem units64 {k : Nat} {A : Around} (r : Room k A) : A.units + 64 < cLine := by have := r.un; omega
section
variable {X : Cx} {j k : Nat} {a f : Addr} {oe : Obj} {pn : List (Addr × Obj)} {fd : FuncData} {ps : List Str} {mf : List D → AH → Res D} {x : Str} {p pos : Pos} {e : Expr} {es : List Expr} {ms : MA}
end
end DM
end
section
set_option maxHeartbeats 2000000
namespace DM
open PySem PySem.Spec PyProof.Rows L2
/-! ### order of texts -/
abbrev sLt (a b : Str) : Prop := a.cps.toList < b.cps.toList
def sLe (a b : Str) : Bool := !decide (sLt b a)
theorem str_ext {a b : Str} (h : a.cps.toList = b.cps.toList) : a = b := by
  cases a
  cases b
  simp only at h
  congr 1
  exact Array.toList_inj.mp h
theorem sLe_total (a b : Str) : (sLe a b || sLe b a) = true := by
  unfold sLe sLt
  by_cases h : b.cps.toList < a.cps.toList
  · have : ¬ a.cps.toList < b.cps.toList := List.lt_asymm h
    simp [this]
  · simp [h]
theorem sLe_iff {a b : Str} : sLe a b = true ↔ a.cps.toList ≤ b.cps.toList := by
  unfold sLe sLt
  simp
theorem sLe_trans (a b c : Str) (h1 : sLe a b = true) (h2 : sLe b c = true) : sLe a c = true := sLe_iff.mpr (List.le_trans (sLe_iff.mp h1) (sLe_iff.mp h2))
theorem sLe_anti {a b : Str} (h1 : sLe a b = true) (h2 : sLe b a = true) : a = b := str_ext (List.le_antisymm (sLe_iff.mp h1) (sLe_iff.mp h2))
def srtS (xs : List Str) : List Str := xs.mergeSort sLe
theorem srtS_perm (xs : List Str) : (srtS xs).Perm xs := List.mergeSort_perm ..
theorem srtS_sorted (xs : List Str) : (srtS xs).Pairwise fun a b => sLe a b = true := List.pairwise_mergeSort sLe_trans sLe_total xs
theorem srtS_uniq {a b : List Str} (h1 : a.Perm b) (h2 : a.Pairwise fun x y => sLe x y = true) : a = srtS b :=
  List.Perm.eq_of_pairwise (fun x y _ _ h h' => sLe_anti h h') h2 (srtS_sorted b) (h1.trans (srtS_perm b).symm)
theorem rising_up : ∀ {r : List Str} {p : Str}, risingS p r = true → (p :: r).Pairwise fun a b => sLe a b = true
  | [], p, _ => by simp
  | x :: r, p, h => by
    unfold risingS at h
    rw [Bool.and_eq_true] at h
    have hp : sLe p x = true := by
      have := h.1
      rw [ltCps_eq] at this
      exact this
    have ih := rising_up h.2
    refine List.pairwise_cons.mpr ⟨fun y hy => ?_, ih⟩
    rcases List.mem_cons.mp hy with rfl | hy
    · exact hp
    · exact sLe_trans _ _ _ hp ((List.pairwise_cons.mp ih).1 y hy)
theorem sortedS_up {ys : List Str} (h : sortedS ys = true) : ys.Pairwise fun a b => sLe a b = true := by
  cases ys with
  | nil => exact List.Pairwise.nil
  | cons x r => exact rising_up h
/-! ### lists of texts -/
def strsOf : List D → Option (List Str)
  | [] => some []
  | .str b :: xs => (strsOf xs).map (b :: ·)
  | _ => none
theorem strs_rd {K : PySem.W.Frag} {m : Mp} {H : Hp} : ∀ {xs : List D} {bs : List Str} {vs : List V}, strsOf xs = some bs → RDs K m H xs vs → vs = bs.map V.str
  | [], bs, vs, h, r => by cases h; cases r; rfl
  | d :: xs, bs, vs, h, r => by
    cases d with
    | str b =>
      obtain ⟨c, hc, rfl⟩ := Option.map_eq_some_iff.mp h
      cases r with
      | cons r rs =>
        cases r
        rw [strs_rd hc rs]
        rfl
    | _ => exact nomatch h
theorem rds_strs {K : PySem.W.Frag} {m : Mp} {H : Hp} : ∀ bs : List Str, RDs K m H (bs.map D.str) (bs.map V.str)
  | [] => .nil
  | b :: bs => .cons (.str _) (rds_strs bs)
theorem strsOf_map : ∀ ns : List Str, strsOf (ns.map D.str) = some ns
  | [] => rfl
  | k :: r => by
    rw [List.map_cons]
    unfold strsOf
    rw [strsOf_map r]
    rfl
section
variable {X : Cx} {W : WX} {a b c e e2 o tg iter kx vx : Expr} {es ifs : List Expr} {ma mb mc me mo mk mv : ME} {mt tt : MT} {ms : MA} {mi : MI} {pos pos' p p2 apos cpos : Pos} {t : Tg} {f C : Str} {ca : Addr}
/-! ### a <= b of whole numbers and of texts -/
def fLeX : D → D → AH → Res D := fun d e A => match d, e with
  | .int i, .int j => .ok (.bl (decide (i ≤ j))) A
  | .str i, .str j => .ok (.bl (sLe i j)) A
  | _, _ => .no
theorem fLeX_ok {K : PySem.W.Frag} : OpD K fLeX (fun x y H Q => rI0 (fun i j => .bl (decide (i ≤ j))) x y H Q ∨ ∃ i j, x = .str i ∧ y = .str j ∧ Q (.bl (!decide (j.cps.toList < i.cps.toList))) H) := by
  intro W σ m A H x y d e Q R hx hy h
  unfold fLeX at h
  split at h
  · cases hx; cases hy
    exact .inl ⟨_, _, rfl, rfl, Post.here R (.bl _) h⟩
  · cases hx; cases hy
    exact .inr ⟨_, _, rfl, rfl, Post.here R (.bl _) h⟩
  · exact h.elim
theorem op_leX : OpR X (compareOp .LtE) (fun x y H Q => rI0 (fun i j => .bl (decide (i ≤ j))) x y H Q ∨ ∃ i j, x = .str i ∧ y = .str j ∧ Q (.bl (!decide (j.cps.toList < i.cps.toList))) H) := op_le.or op_le_str
/-! ### x += y of whole numbers, texts, tuples -/
/-! ### a.join(list), ord, what is walked -/
def mJoin (mo me : ME) : ME := fun ρ A => (mo ρ A).bind fun d A1 => match d with
  | .str a => (me ρ A1).bind fun e A2 => match seqOf A2 e with
    | some xs => match strsOf xs with
      | some ys => if (ys.map (·.length)).sum + ys.length * a.length ≤ 16777216 then .ok (.str (Txt.join a ys)) A2 else .no
      | none => .no
    | none => .no
  | _ => .no
theorem d_join (ho : DE X W o mo) (he : DE X W e me) (hs : starEach [e] X.env = [(false, eval e X.env)] := by rfl) (hbase : attributeBase o "join" X.env (eval o X.env) = eval o X.env := by rfl) (hline : (apos.endLine == pos.line) = true := by rfl) :
    DE X W (.Call (.Attribute o "join" apos) [e] [] pos) (mJoin mo me) :=
  PEi (pe_join ho he hs hbase hline) fun σ H Q ⟨m, A, ρ, R, E, h⟩ => tE.bind R E h fun m1 A1 d v H1 e1 R1 E1 r1 h1 => by
    split at h1
    · rename_i a
      cases r1
      refine ⟨⟨a, rfl⟩, tE.bind R1 E1 h1 fun m2 A2 d2 v2 H2 e2 R2 E2 r2 h2 => ?_⟩
      split at h2
      · rename_i xs hs2
        split at h2
        · rename_i ys hy
          split at h2
          · rename_i hz
            obtain ⟨q, us, rfl, sq, rs⟩ := seqOf_ok R2 r2 hs2
            have := strs_rd hy rs
            subst this
            exact ⟨a, q, ys, rfl, rfl, sq, hz, Post.here R2 (.str _) h2⟩
          · exact h2.elim
        · exact h2.elim
      · exact h2.elim
    · exact h1.elim
def charsD (x : Str) : List D := x.cps.toList.map fun c => D.str ⟨#[c]⟩
theorem iter_str {K : PySem.W.Frag} {m : Mp} {H : Hp} {x : Str} : Iter K (Its x) m H (.sq (.lst (charsD x))) := by
  refine ⟨fun m' A' H' all i d e R hs hi => ?_, fun m' A' H' all i e R hs hl => ?_⟩
  · cases hs
    unfold charsD at hi
    rw [List.getElem?_map] at hi
    obtain ⟨c, hc, rfl⟩ := Option.map_eq_some_iff.mp hi
    rw [Array.getElem?_toList] at hc
    refine ⟨(Array.getElem?_eq_some_iff.mp hc).1, fun y H'' hy => ?_⟩
    obtain ⟨rfl, c2, h2, rfl⟩ := hy
    rw [hc] at h2
    cases h2
    exact ⟨R, Ext.refl _ _, .str _⟩
  · cases hs
    unfold charsD at hl
    rw [List.length_map, Array.length_toList] at hl
    exact hl
def mStrI (me : ME) : MI := fun ρ A => (me ρ A).bind fun d A1 => match d with
  | .str x => .ok (.sq (.lst (charsD x))) A1
  | _ => .no
theorem i_str (he : DE X W e me) : DI X W tg e (mStrI me) :=
  PIi (pi_str he) fun σ H Q ⟨m, A, ρ, R, E, h⟩ => tE.bind R E h fun m1 A1 d v H1 e1 R1 E1 r1 h1 => by
    split at h1
    · rename_i x
      cases r1
      exact ⟨x, rfl, Post.here R1 iter_str h1⟩
    · exact h1.elim
/-! ### sorted of texts, of a dict -/
def fSortS : List D → AH → Res D := fun ds A => match ds with
  | [d] => if isTup d = true then .no else match seqOf A d with
    | some xs => match strsOf xs with
      | some ns => if ns.length < 64 then .ok (.lst ((srtS ns).map D.str)) A else .no
      | none => .no
    | none => .no
  | _ => .no
theorem fSortS_ok {K : PySem.W.Frag} : CallD K fSortS (rSortedS K) := by
  intro W σ m A H xs ds Q R hx h
  unfold fSortS at h
  split at h
  rotate_left
  · exact h.elim
  obtain ⟨v, rfl, r⟩ := hx.one
  split at h
  · exact h.elim
  rename_i d ht
  split at h
  rotate_left
  · exact h.elim
  rename_i ys hs
  split at h
  rotate_left
  · exact h.elim
  rename_i ns hn
  split at h
  rotate_left
  · exact h.elim
  rename_i few
  obtain ⟨a, us, rfl, rs, z⟩ := seqOf_is R r hs
  have hL : SqL K H a us := by
    rcases z with ⟨rfl, _⟩ | ⟨_, z⟩
    · exact absurd rfl ht
    · exact z
  have := strs_rd hn rs
  subst this
  refine ⟨a, ns, rfl, hL, few, fun out q pm up hq => ?_⟩
  have := srtS_uniq pm (sortedS_up up)
  subst this
  exact lst_new R (rds_strs _) h q hq
theorem d_sortS (hm : X.mg "sorted" = none) (ha : DA X W [e] ms) (hg : Gl X "sorted" := by rfl) (he : starEach [e] X.env = (false, eval e X.env) :: starEach [] X.env := by rfl) (hpl : (backTo pos (starEach [] X.env)).any (·.1) = false := by rfl) :
    DE X W (.Call (.Name "sorted" p) [e] [] pos) (mCall fSortS ms) := d_callB cr_sortedS fSortS_ok hg hm (by decide +kernel) ha (by decide) (by decide) he hpl
/-! ### xs.extend(ys) -/
/-! ### {k: v} -/
/-! ### {k: v for ..} -/
open Classical in
noncomputable def dcGo (iv : ItV) (all : List D) (t : Tg) (tt : MT) (mk mv : ME) (ρ : DM.Env) (n : Nat) : List D → AH → Res Unit
  | [], A => if itemsOf A iv = some all then .ok () A else .no
  | x :: xs, A => if itemsOf A iv = some all then (match bindT t x ρ with
    | some ρ1 => (match tt ρ1 A with
      | .ok true A1 => (match mk ρ1 A1 with
        | .ok y A2 => (match mv ρ1 A2 with
          | .ok z A3 => (match A3[n]?, keyOf y with
            | some (.dk kvs), some key => if kvs.length < 16777216 then dcGo iv all t tt mk mv ρ n xs (A3.set n (.dk (putKD kvs key z))) else .no
            | _, _ => .no)
          | _ => .no)
        | _ => .no)
      | .ok false A1 => dcGo iv all t tt mk mv ρ n xs A1
      | _ => .no)
    | none => .no) else .no
end
end DM
end
section
set_option maxHeartbeats 2000000
namespace DM
open PySem PySem.Spec PyProof.Rows L2
/-! ### dict(t), t a tuple of pairs that is known as a plain object -/
section
variable {X : Cx} {W : WX} {e o a b kx vx : Expr} {es : List Expr} {ms : MA} {me mo ma mb mv : ME} {pos p pos' apos cpos : Pos}
/-! ### len of a dict -/
/-! ### texts of the written part -/
theorem d_gstr {x : Str} {v : Str} (h : ∃ t, X.mg x = some (.str v t)) (hg : Gl X x := by rfl) (hd : (x == ("__debug__" : Str)) = false := by decide) : DE X W (.Name x pos) (mK (.str v)) := by
  obtain ⟨t, h⟩ := h
  exact PEi (pe_glob (v := .str v) hg h ⟨t, rfl⟩ hd) fun σ H Q ⟨m, A, ρ, R, E, h⟩ => Post.here R (.str v) h
/-! ### o.f, o.g = t -/
inductive AtF (X : Cx) (W : WX) (C : Str) (ca : Addr) (mo : ME) : List Expr → List Str → Prop
  | nil : AtF X W C ca mo [] []
  | cons {o : Expr} {f : Str} {pos : Pos} {es : List Expr} {fs : List Str} (ho : DE X W o mo) (nf : NoAttr X.K ca f) (r : AtF X W C ca mo es fs)
      (hs : (assignEach (.Attribute o f pos :: es) X.env).map (·.2) = assign (.Attribute o f pos) X.env :: (assignEach es X.env).map (·.2) := by rfl) : AtF X W C ca mo (.Attribute o f pos :: es) (f :: fs)
end
end DM
end
section
set_option maxHeartbeats 2000000
namespace DM
open PySem PySem.Spec PyProof.Rows L2
/-! ### C(k = v, ..) -/
section
variable {X : Cx} {W : WX} {pos p : Pos} {kws : List Keyword} {mk : MA} {C : Str} {ca g : Addr} {fd : FuncData} {ps ks : List Str} {pm : List Nat} {mf : List D → AH → Res D} {k : Nat}
end
end DM
namespace DM
open PySem PySem.Spec PyProof.Rows L2
/-! ### k in d, k perhaps None -/
section
variable {X : Cx} {W : WX} {a b : Expr} {ma mb : ME} {pos : Pos}
theorem t_leX (ha : DE X W a ma) (hb : DE X W b mb) (hm : behindInMarks .LtE b = false := by first | exact nomark _ | rfl) : DT X W (.Compare a [.LtE] [b] pos) (mTst (mOp fLeX ma mb)) := t_cmp op_leX fLeX_ok ha hb hm
end
end DM
end
section
set_option maxHeartbeats 2000000
namespace DM
open PySem PySem.Spec PyProof.Rows L2
section
variable {X : Cx} {W : WX} {a b : Expr} {ma mb : ME} {pos : Pos}
/-- + where the left list changes later -/
def fAddR : D → D → AH → Res D := fun d e A => match d, e with
  | .ref n, .lst ys => match A[n]? with
    | some (.lst xs) => if xs.length + ys.length ≤ 16777216 then .ok (.lst (xs ++ ys)) A else .no
    | _ => .no
  | _, _ => .no
theorem fAddR_ok {K : PySem.W.Frag} : OpD K fAddR (fun x y H Q => rI0 (fun i j => .int (i + j)) x y H Q ∨ (∃ i j, x = .str i ∧ y = .str j ∧ i.length + j.length ≤ sizeLine ∧ Q (.str (i ++ j)) H) ∨ rCatP K x y H Q ∨ rCatL K x y H Q) := by
  intro W σ m A H x y d e Q R hx hy h
  have sz : (sizeLine : Nat) = 16777216 := sizeLine_eq
  unfold fAddR at h
  split at h
  · rename_i n ys
    split at h
    · rename_i xs hA
      split at h
      · rename_i hz
        cases hx with
        | ref hm =>
          cases hy with
          | lst sy ry =>
            obtain ⟨q, h1, vs, h2, r⟩ := R.obj _ _ hA
            rw [hm] at h1; cases h1
            exact .inr (.inr (.inr ⟨_, _, vs, _, rfl, rfl, .inl (.inl h2), sy.sq, by rw [sz, ← r.length, ← ry.length]; exact hz, lst_new R (r.append ry) h⟩))
      · exact h.elim
    · exact h.elim
  · exact h.elim
theorem d_addR (ha : DE X W a ma) (hb : DE X W b mb) : DE X W (.BinOp a .Add b pos) (mOp fAddR ma mb) := d_op (op_add.or (op_add_str.or (op_catP.or op_catL))) fAddR_ok ha hb
end
end DM
end
section
set_option maxHeartbeats 1000000
namespace DM
open PySem PySem.Spec PyProof.Rows L2
section
variable {X : Cx} {W : WX} {e e2 : Expr} {ms : MA} {pos p : Pos}
/-! ### max of two -/
end
end DM
end
section
set_option maxHeartbeats 2000000
namespace DM
open PySem PySem.Spec PyProof.Rows L2
section
variable {X : Cx} {W : WX} {a b c : Expr} {ma mb : ME} {ms : MA} {pos p p2 p3 : Pos}
/-! ### list(range(i, j)) -/
/-! ### list(range(i, j, k)) -/
end
end DM
end
section
set_option maxHeartbeats 1000000
namespace DM
open PySem PySem.Spec PyProof.Rows L2
/-! ### numbers as data -/
theorem toPys_ints : ∀ L : List Int, toPys (L.map D.int) = some (L.map PyData.int)
  | [] => rfl
  | x :: L => by
    simp only [List.map_cons, toPys, toPy, toPys_ints L]
theorem toPysG_ints (g : Nat → Option PyData) : ∀ L : List Int, toPysG g (L.map D.int) = some (L.map PyData.int)
  | [] => rfl
  | x :: L => by
    simp only [List.map_cons, toPysG, toPyG, toPysG_ints g L]
theorem canLays_ints : ∀ L : List Int, PyData.canLayAll0 (L.map PyData.int) = true
  | [] => rfl
  | x :: L => by simp only [List.map_cons, PyData.canLayAll0, PyData.canLay0, canLays_ints L, Bool.and_self]
theorem depths_ints : ∀ L : List Int, PyData.depthAll (L.map PyData.int) ≤ 1
  | [] => by decide
  | x :: L => by
    have h := depths_ints L
    simp only [List.map_cons, PyData.depthAll, PyData.depth] at h ⊢
    omega
theorem shaped_lints (L : List Int) : SeqAt.shaped (.list (L.map PyData.int)) = true := by
  have h := depths_ints L
  have h1 : PyData.canLay0 (.list (L.map PyData.int)) = true := by simp only [PyData.canLay0, canLays_ints]
  have h2 : PyData.depth (.list (L.map PyData.int)) ≤ 64 := by
    simp only [PyData.depth]
    omega
  unfold SeqAt.shaped
  rw [h1, decide_eq_true h2]
  rfl
theorem eqvAll_nil (xs : List PyData) : PyData.eqvAll xs [] = xs.isEmpty := by
  cases xs <;> rfl
/-- the drawing object: at h the pair of the list at q and the number -/
def HS (h q : Nat) (A : AH) : Prop := h ≠ q ∧ ∃ (L : List Int) (s : Int), A[h]? = some (.lst [.ref q, .int s]) ∧ A[q]? = some (.lst (L.map D.int)) ∧ L.length ≤ 63 ∧ 0 ≤ s ∧ s < 2147483647
def Drawn (h q : Nat) (A A' : AH) : Prop := A'.length = A.length ∧ HS h q A' ∧ ∀ n, n ≠ h → n ≠ q → A'[n]? = A[n]?
theorem Drawn.trans {h q : Nat} {A B C : AH} (a : Drawn h q A B) (b : Drawn h q B C) : Drawn h q A C := ⟨b.1.trans a.1, b.2.1, fun n h1 h2 => (b.2.2 n h1 h2).trans (a.2.2 n h1 h2)⟩
/-- one object changed -/
def Put (q : Nat) (o : AO) (A A' : AH) : Prop := A'.length = A.length ∧ A'[q]? = some o ∧ ∀ n, n ≠ q → A'[n]? = A[n]?
theorem Put.set {q : Nat} {o u : AO} {A : AH} (h : A[q]? = some u) : Put q o A (A.set q o) := by
  refine ⟨List.length_set .., List.getElem?_set_self (List.getElem?_eq_some_iff.mp h).1, fun n hn => List.getElem?_set_ne (Ne.symm hn)⟩
theorem Put.trans {q : Nat} {o u : AO} {A B C : AH} (a : Put q o A B) (b : Put q u B C) : Put q u A C := ⟨b.1.trans a.1, b.2.1, fun n h => (b.2.2 n h).trans (a.2.2 n h)⟩
theorem at_ref0 {q : Nat} {s : Int} : atI [D.ref q, D.int s] 0 = some (D.ref q) := rfl
theorem at_ref1 {q : Nat} {s : Int} : atI [D.ref q, D.int s] 1 = some (D.int s) := rfl
theorem seqOf_ref {A : AH} {n : Nat} {xs : List D} (h : A[n]? = some (.lst xs)) : seqOf A (.ref n) = some xs := by
  simp only [seqOf, h]
theorem ix_ref {A : AH} {n : Nat} {xs : List D} {i : Int} {v : D} (h : A[n]? = some (.lst xs)) (hv : atI xs i = some v) : fIx (.ref n) (.int i) A = .ok v A := by
  unfold fIx
  simp only [seqOf_ref h, hv]
theorem ix_lst {A : AH} {xs : List D} {i : Int} {v : D} (hv : atI xs i = some v) : fIx (.lst xs) (.int i) A = .ok v A := by
  unfold fIx
  simp only [seqOf, hv]
theorem ix_tup {A : AH} {xs : List D} {i : Int} {v : D} (hv : atI xs i = some v) : fIx (.tup xs) (.int i) A = .ok v A := by
  unfold fIx
  simp only [seqOf, hv]
theorem eq_ints {A : AH} {i j : Int} {neg : Bool} : fEq neg (.int i) (.int j) A = .ok (.bl (if neg then !decide (i = j) else decide (i = j))) A := rfl
theorem eq_refnil {A : AH} {n : Nat} {L : List Int} (h : A[n]? = some (.lst (L.map D.int))) {neg : Bool} : fEq neg (.ref n) (.lst []) A = .ok (.bl (if neg then !L.isEmpty else L.isEmpty)) A := by
  have hz : SeqAt.shaped (.list []) = true := by decide +kernel
  have e : cEq A (.ref n) (.lst []) = some L.isEmpty := by
    unfold cEq
    simp only [toPyA, refPy, toPyG, h, toPysG_ints, toPys_ints, toPy, toPys, Option.map_some, shaped_lints, hz, and_self, if_true, PyData.eqv, eqvAll_nil]
    cases L <;> rfl
  unfold fEq
  rw [e]
noncomputable def pickM (c : List D → AH → Res D) : List D → AH → Res D := mFun 2 (mRet (mOp fIx (mVar 1) (mCallF 2 c (mCons (mVar 0) (mCons (mCall fLen (mCons (mVar 1)
    (mNil))) (mNil))))))
def tstM : MT := mAnd (mTst (mOp (fEq true) (mOp fIx (mVar 0) (mK (.int 0))) (mLst (mNil)))) (mTst (mOp (fEq false) (mOp fIx (mOp fIx (mVar 0) (mK (.int 0))) (mNeg (mK (.int 1)))) (mK (.int 0))))
def popM : MS := mDrop (mPop (mOp fIx (mVar 0) (mK (.int 0))))
theorem zeros_go {h q : Nat} {s k : Int} (hq : h ≠ q) : ∀ (n : Nat) (L : List Int) (A : AH), L.length = n → A[h]? = some (.lst [.ref q, .int s]) → A[q]? = some (.lst (L.map D.int)) →
    ∃ (L' : List Int) (A' : AH), L'.length ≤ L.length ∧ Put q (.lst (L'.map D.int)) A A' ∧ iterW tstM popM (n + 1) [some (.ref h), some (.int k), none] A = .nx [some (.ref h), some (.int k), none] A'
  | n, L, A, hn, h1, h2 => by
    cases hL : L with
    | nil =>
      subst hL
      refine ⟨[], A, Nat.le_refl _, ⟨rfl, h2, fun _ _ => rfl⟩, ?_⟩
      simp [iterW, tstM, mAnd, mTst, mOp, mVar, mK, mLst, mNil, ix_ref h1 at_ref0, eq_refnil h2]
    | cons x0 R =>
      obtain ⟨M, x, e⟩ : ∃ M x, L = M ++ [x] := ⟨L.dropLast, L.getLast (by rw [hL]; simp), (List.dropLast_concat_getLast (by rw [hL]; simp)).symm⟩
      rw [← hL]
      have hlast : atI (L.map D.int) (-1) = some (D.int x) := by
        rw [e, List.map_append]; exact atI_last _ _
      have hne : L.isEmpty = false := by rw [hL]; rfl
      have t1 : tstM [some (.ref h), some (.int k), none] A = .ok (decide (x = 0)) A := by
        simp [tstM, mAnd, mTst, mOp, mVar, mK, mLst, mNil, mNeg, ix_ref h1 at_ref0, eq_refnil h2, hne, ix_ref h2 hlast, eq_ints]
      by_cases hx : x = 0
      · have hlen : M.length + 1 = n := by rw [← hn, e]; simp
        obtain ⟨m, rfl⟩ : ∃ m, n = m + 1 := ⟨M.length, hlen.symm⟩
        have hg : (L.map D.int)[(L.map D.int).length - 1]? = some (D.int x) := by
          rw [e]; simp
        have hd : (L.map D.int).dropLast = M.map D.int := by
          rw [e]; simp
        have p1 : popM [some (.ref h), some (.int k), none] A = .nx [some (.ref h), some (.int k), none] (A.set q (.lst (M.map D.int))) := by
          simp only [popM, mDrop, mPop, mOp, mVar, mK, List.getElem?_cons_zero, bind_ok, ix_ref h1 at_ref0, h2, hg, hd, lift_ok]
        have P := Put.set (o := .lst (M.map D.int)) h2
        obtain ⟨L', A', l1, P', w⟩ := zeros_go hq m M (A.set q (.lst (M.map D.int))) (by omega) ((P.2.2 h hq).trans h1) P.2.1
        refine ⟨L', A', by rw [e]; simp; omega, P.trans P', ?_⟩
        unfold iterW
        rw [t1, decide_eq_true hx]
        simp only [p1]
        exact w
      · refine ⟨L, A, Nat.le_refl _, ⟨rfl, h2, fun _ _ => rfl⟩, ?_⟩
        unfold iterW
        rw [t1, decide_eq_false hx]
end DM
end
section
set_option maxHeartbeats 1000000
namespace DM
open PySem PySem.Spec PyProof.Rows L2
/-- a comprehension whose parts change nothing -/
theorem comp_pure {iv : ItV} {all : List D} {t : Tg} {tt : MT} {me : ME} {ρ : DM.Env} {A : AH} {p : D → Bool} {f : D → D} (hit : itemsOf A iv = some all) : ∀ (xs acc : List D), (∀ x ∈ xs, ∃ ρ1, bindT t x ρ = some ρ1 ∧ tt ρ1 A = .ok (p x) A ∧ (p x = true → me ρ1 A = .ok (f x) A)) →
    compGo iv all t tt me ρ xs acc A = .ok (acc ++ (xs.filter p).map f) A
  | [], acc, _ => by
    unfold compGo
    rw [if_pos hit]
    simp
  | x :: xs, acc, h => by
    obtain ⟨ρ1, h1, h2, h3⟩ := h x List.mem_cons_self
    have ih := comp_pure (t := t) (tt := tt) (me := me) (ρ := ρ) (p := p) (f := f) hit xs
    unfold compGo
    rw [if_pos hit, h1]
    simp only [h2]
    cases hp : p x with
    | true =>
      simp only [h3 hp]
      rw [ih _ fun y hy => h y (List.mem_cons_of_mem _ hy), List.filter_cons, if_pos hp, List.map_cons, List.append_assoc]
      rfl
    | false =>
      simp only
      rw [ih _ fun y hy => h y (List.mem_cons_of_mem _ hy), List.filter_cons, if_neg (by rw [hp]; decide)]
theorem filter_true {α : Type} (xs : List α) : xs.filter (fun _ => true) = xs := List.filter_eq_self.mpr fun _ _ => rfl
end DM
end
section
set_option maxHeartbeats 1000000
namespace DM
open PySem PySem.Spec PyProof.Rows L2
theorem Drawn.refl {h q : Nat} {A : AH} (hs : HS h q A) : Drawn h q A A := ⟨rfl, hs, fun _ _ _ => rfl⟩
end DM
end
section
set_option maxHeartbeats 1000000
namespace DM
open PySem PySem.Spec PyProof.Rows L2
/-! ### the other way to draw -/
end DM
end
section
set_option maxHeartbeats 1000000
namespace DM
open PySem PySem.Spec PyProof.Rows L2
/-! ### the sum -/
def cs (os : List Nat) : Nat := os.foldl (fun t o => (t * 256 + o) % 4294967291) 1
def s4 (os : List Nat) : List Nat := [cs os / 65536 / 256, cs os / 65536 % 256, cs os % 65536 / 256, cs os % 65536 % 256]
/-! ### a frame -/
def hd4 (b : List Nat) : List Nat := [b.length / 256, b.length % 256, (65535 - b.length) / 256, (65535 - b.length) % 256]
end DM
end
section
set_option maxHeartbeats 1000000
namespace DM
open PySem PySem.Spec PyProof.Rows L2
section
variable {S : List D → AH → Res D} {T : D} {A : AH} {p n ia ib ic id : Int}
end
/-! ### what is told of the octets from a place on -/
end DM
end
section
set_option maxHeartbeats 1000000
namespace DM
open PySem PySem.Spec PyProof.Rows L2
section
variable {F G : List D → AH → Res D} {T U U' : D} {A : AH} {p n ia ib ic id : Int}
end
/-! ### frames told and read -/
end DM
end
section
set_option maxHeartbeats 1000000
namespace DM
open PySem PySem.Spec PyProof.Rows L2
/-- data of few and small parts -/
structure Few (k w : Nat) (d : PyData) : Prop where
  lay : d.canLay0 = true
  short : d.leavesShort 13 = true
  sh : d.showable = true
  dep : d.depth ≤ k
  wt : d.weight ≤ w
theorem Few.mono {k w k' w' : Nat} {d : PyData} (h : Few k w d) (hk : k ≤ k') (hw : w ≤ w') : Few k' w' d := ⟨h.lay, h.short, h.sh, Nat.le_trans h.dep hk, Nat.le_trans h.wt hw⟩
mutual
theorem eqv_self : ∀ d : PyData, d.canLay0 = true → PyData.eqv d d = true
  | .none, _ => rfl
  | .bool b, _ => by cases b <;> rfl
  | .int i, _ => by simp [PyData.eqv]
  | .str x, _ => by simp [PyData.eqv]
  | .list xs, h => by
    simp only [PyData.eqv]
    exact eqvAll_self xs (by simpa only [PyData.canLay0] using h)
  | .tuple xs, h => by
    simp only [PyData.eqv]
    exact eqvAll_self xs (by simpa only [PyData.canLay0] using h)
  | .dict kvs, h => by simp [PyData.canLay0] at h
theorem eqvAll_self : ∀ xs : List PyData, PyData.canLayAll0 xs = true → PyData.eqvAll xs xs = true
  | [], _ => rfl
  | x :: xs, h => by
    simp only [PyData.canLayAll0, Bool.and_eq_true] at h
    simp only [PyData.eqvAll, eqv_self x h.1, eqvAll_self xs h.2, Bool.and_self]
end
theorem Few.shaped {k w : Nat} {d : PyData} (h : Few k w d) (hk : k ≤ 64) : SeqAt.shaped d = true := by
  unfold SeqAt.shaped
  rw [h.lay, decide_eq_true (Nat.le_trans h.dep hk)]
  rfl
theorem toPyA_of {d : D} {q : PyData} {A : AH} (h : toPy d = some q) : toPyA A d = some q := by unfold toPyA; rw [h]
/-- == of tuples and lists -/
def notSc : D → Bool
  | .tup _ => true
  | .lst _ => true
  | .ref _ => true
  | .non => true
  | _ => false
/-! ### octets and bodies -/
def pyT (b : List Nat) : PyData := .tuple ((b.map fun n : Nat => (n : Int)).map PyData.int)
end DM
end
section
set_option maxHeartbeats 1000000
namespace DM
open PySem PySem.Spec PyProof.Rows L2
/-- data of small parts; B: how long a leaf is shown -/
structure FewB (B k w : Nat) (d : PyData) : Prop where
  lay : d.canLay0 = true
  short : d.leavesShort B = true
  sh : d.showable = true
  dep : d.depth ≤ k
  wt : d.weight ≤ w
theorem FewB.mono {B k w k' w' : Nat} {d : PyData} (h : FewB B k w d) (hk : k ≤ k') (hw : w ≤ w') : FewB B k' w' d := ⟨h.lay, h.short, h.sh, Nat.le_trans h.dep hk, Nat.le_trans h.wt hw⟩
theorem fewB_int {B : Nat} {i : Int} (hB : 20 ≤ B) (h : i.natAbs < 10 ^ 19) : FewB B 0 64 (.int i) := by
  have hl : i.natAbs.log2 < 64 := by
    by_cases h0 : i.natAbs = 0
    · rw [h0]; decide
    · exact (Nat.log2_lt h0).mpr (Nat.lt_trans h (by decide))
  refine ⟨rfl, ?_, ?_, Nat.le_refl _, ?_⟩
  · simp only [PyData.leavesShort]
    have e := int_text_length_le10 (k := 19) (by decide) h
    refine decide_eq_true ?_
    show (Str.ofString (toString i)).length ≤ B
    rw [PySem.ofString_length]
    omega
  · simp only [PyData.showable]
    exact decide_eq_true (by omega)
  · simp only [PyData.weight]
    split <;> omega
theorem fewB_str {B : Nat} {x : Str} (h1 : PyData.canLay0 (.str x) = true) (h2 : (x.cps.toList.all fun c => decide (c < 16 ^ 8)) = true) (h3 : x.cps.size ≤ 64) : FewB B 0 64 (.str x) := ⟨h1, h2, rfl, Nat.zero_le _, h3⟩
theorem FewB.shaped {B k w : Nat} {d : PyData} (h : FewB B k w d) (hk : k ≤ 64) : SeqAt.shaped d = true := by
  unfold SeqAt.shaped
  rw [h.lay, decide_eq_true (Nat.le_trans h.dep hk)]
  rfl
theorem repr_fewB {B : Nat} {d : D} {q : PyData} {k w : Nat} {A : AH} (h : toPyA A d = some q) (f : FewB B k w q) (hk : k ≤ 32) (hB : 8 ≤ B) (hw : (B + 2) * w + B ≤ 16777216) : fRepr [d] A = .ok (.str q.shown) A := by
  have hs := PyData.shown_le B hB q f.short
  have h2 : (B + 2) * q.weight ≤ (B + 2) * w := Nat.mul_le_mul_left _ f.wt
  unfold fRepr
  simp only [h]
  exact if_pos ⟨f.sh, by omega, Nat.le_trans f.dep hk⟩
theorem eq_pyS {d e : D} {p q : PyData} {A : AH} (hd : toPyA A d = some p) (he : toPyA A e = some q) (h1 : notSc d = true) {neg : Bool} (hs1 : SeqAt.shaped p = true) (hs2 : SeqAt.shaped q = true) : fEq neg d e A = .ok (.bl (if neg then !PyData.eqv p q else PyData.eqv p q)) A := by
  have c : cEq A d e = some (PyData.eqv p q) := by
    unfold cEq
    split
    · cases h1
    · cases h1
    · cases h1
    · simp only [hd, he, hs1, hs2, and_self, if_true]
  unfold fEq
  rw [c]
theorem cut_last (xs : List D) : DM.cutD xs (some (-1)) none = xs.drop (xs.length - 1) := by
  unfold DM.cutD
  have e : HT.sIx xs.length 0 (some (-1)) = xs.length - 1 := by
    show (if (-1 : Int) < 0 then ((-1 : Int) + (xs.length : Int)).toNat else min (-1 : Int).toNat xs.length) = _
    rw [if_pos (by decide)]
    omega
  rw [e, HT.sIx_none]
  exact List.take_of_length_le (by rw [List.length_drop]; exact Nat.le_refl _)
theorem for_rt {iv : ItV} {all xs : List D} {x d : D} {t : Tg} {sb : MS} {ρ ρ1 : DM.Env} {A A2 : AH} (h : itemsOf A iv = some all) (hb : bindT t x ρ = some ρ1) (hs : sb ρ1 A = .rt d A2) : forGo iv all t sb (x :: xs) ρ A = .rt d A2 := by
  conv => lhs; unfold forGo
  rw [if_pos h, hb]
  simp only [hs]
end DM
end
section
set_option maxHeartbeats 1000000
namespace DM
open PySem PySem.Spec PyProof.Rows L2
/-! ### running rules: fields, methods, instances, dicts, lists that change, try -/
section
variable {ρ ρ1 : DM.Env} {A A1 A2 A3 : AH} {i j l n m k : Nat} {C f mname : Str} {d e x y : D} {xs ds es : List D} {fs : List (Str × D)} {kvs : List (Key × D)} {mf : List D → AH → Res D} {ma mb mc me mo mi mv : ME} {ms mk : MA} {sa sb : MS} {pm : List Nat} {key : Key}
theorem comp_nil {iv : ItV} {all acc : List D} {t : Tg} {tt : MT} (hit : itemsOf A iv = some all) : compGo iv all t tt me ρ [] acc A = .ok acc A := by
  unfold compGo; rw [if_pos hit]
theorem comp_step {iv : ItV} {all acc xs : List D} {t : Tg} {tt : MT} (hit : itemsOf A iv = some all) (hb : bindT t x ρ = some ρ1) (ht : tt ρ1 A = .ok true A1) (hm : me ρ1 A1 = .ok y A2) :
    compGo iv all t tt me ρ (x :: xs) acc A = compGo iv all t tt me ρ xs (acc ++ [y]) A2 := by
  conv => lhs; unfold compGo
  rw [if_pos hit, hb]
  simp only [ht, hm]
end
theorem add_ii {a b : Int} {A : AH} : fAdd (.int a) (.int b) A = .ok (.int (a + b)) A := rfl
theorem sub_ii {a b : Int} {A : AH} : fSub (.int a) (.int b) A = .ok (.int (a - b)) A := rfl
theorem lt_ii {a b : Int} {A : AH} : fLt (.int a) (.int b) A = .ok (.bl (decide (a < b))) A := rfl
theorem le_ii {a b : Int} {A : AH} : fLe (.int a) (.int b) A = .ok (.bl (decide (a ≤ b))) A := rfl
theorem gt_ii {a b : Int} {A : AH} : fGt (.int a) (.int b) A = .ok (.bl (decide (b < a))) A := rfl
theorem mod_ii {a b : Int} {A : AH} (h : 0 < b) : fMod (.int a) (.int b) A = .ok (.int (a % b)) A := by simp only [fMod, fI, h, if_true]
/-! ### a dict by its keys -/
end DM
end
section
set_option maxHeartbeats 1000000
namespace DM
open PySem PySem.Spec PyProof.Rows L2
/-! ### a module's own dict with text keys that nobody changes -/
inductive TabE (P : Params) : List DictEntry → List (Str × Value) → Prop
  | nil : TabE P [] []
  | cons {e : DictEntry} {r : List DictEntry} {x : Str} {u : Value} {l : List (Str × Value)} (t : Tok) : e.key = .str x t → e.hash = PyData.keyHash P x → e.val = u → TabE P r l → TabE P (e :: r) ((x, u) :: l)
inductive TabD (K : PySem.W.Frag) : List (Str × Value) → List (Str × D) → Prop
  | nil : TabD K [] []
  | fn {x C : Str} {a : Addr} {l : List (Str × Value)} {t : List (Str × D)} : clsV K C = some (.ref a) → TabD K l t → TabD K ((x, .ref a) :: l) ((x, .cl C) :: t)
  | int {x : Str} {i : Int} {tk : Tok} {l : List (Str × Value)} {t : List (Str × D)} : TabD K l t → TabD K ((x, .int i tk) :: l) ((x, .int i) :: t)
  | str {x y : Str} {tk : Tok} {l : List (Str × Value)} {t : List (Str × D)} : TabD K l t → TabD K ((x, .str y tk) :: l) ((x, .str y) :: t)
structure TabC (K : PySem.W.Frag) (P : Params) (mg : Str → Option Value) (nm : Str) (tbl : List (Str × D)) : Prop where
  ex : ∃ (a : Addr) (es : Array DictEntry) (n : Nat) (l : List (Str × Value)), mg nm = some (.ref a) ∧ clsV K nm = some (.ref a) ∧ K.lookup a = some { cls := .type "dict", data := .dict es n } ∧ (a == sysModules) = false ∧ TabE P es.toList l ∧ TabD K l tbl
theorem TabE.lit {P : Params} : ∀ {es : List DictEntry} {l : List (Str × Value)}, TabE P es l → PySem.W.KeysLit P es
  | _, _, .nil => by rw [PySem.W.KeysLit.eq_1]; trivial
  | _, _, .cons t a b c r => by rw [PySem.W.KeysLit.eq_2]; exact ⟨⟨_, t, a, b⟩, r.lit⟩
theorem TabE.noref {P : Params} : ∀ {es : List DictEntry} {l : List (Str × Value)}, TabE P es l → (es.any fun x => x.refKey) = false
  | _, _, .nil => rfl
  | _, _, .cons t a b c r => by
    rw [List.any_cons, r.noref, Bool.or_false]
    unfold DictEntry.refKey
    rw [a]
theorem TabE.find {P : Params} (z : Str) : ∀ {es : List DictEntry} {l : List (Str × Value)}, TabE P es l → (match es.find? (fun x => x.key.isStr z) with | some e => some e.val | none => none) = l.lookup z
  | _, _, .nil => rfl
  | _, _, .cons (e := e) (x := x) (u := u) (l := l) t a b c r => by
    have ih := r.find z
    rw [List.find?_cons, List.lookup_cons, a]
    show (match (match (x == z) with | true => some e | false => _) with | some e => some e.val | none => none) = (match z == x with | true => some u | false => _)
    by_cases h : x = z
    · subst h
      rw [beq_self_eq_true]
      exact congrArg some c
    · rw [beq_eq_false_iff_ne.mpr h, beq_eq_false_iff_ne.mpr (Ne.symm h)]
      exact ih
theorem TabE.ns {P : Params} {K : PySem.W.Frag} {a : Addr} {es : Array DictEntry} {n : Nat} {l : List (Str × Value)} (h : K.lookup a = some { cls := .type "dict", data := .dict es n }) (T : TabE P es.toList l) (z : Str) : PySem.W.nsIn K a z = some (l.lookup z) := by
  unfold PySem.W.nsIn
  rw [h]
  have f := T.find z
  show (match es.toList.find? (fun x => x.key.isStr z) with | some e => some (some e.val) | none => if (es.toList.any fun x => x.refKey) = true then none else some none) = _
  rw [T.noref]
  cases hf : es.toList.find? (fun x => x.key.isStr z) with
  | none => rw [hf] at f; rw [← f]; rfl
  | some e => rw [hf] at f; rw [← f]
theorem TabD.at {K : PySem.W.Frag} {z : Str} : ∀ {l : List (Str × Value)} {t : List (Str × D)}, TabD K l t → (l.lookup z).isSome = (t.lookup z).isSome ∧ ∀ d, t.lookup z = some d → ∃ u v, l.lookup z = some u ∧ RelV v u ∧ ∀ m H, RD K m H d v
  | _, _, .nil => ⟨rfl, fun _ h => by cases h⟩
  | _, _, .fn (x := x) (a := a) h r => by
    rw [List.lookup_cons, List.lookup_cons]
    cases z == x with
    | true => exact ⟨rfl, fun d e => by cases e; exact ⟨_, .ref a, rfl, rfl, fun _ _ => .cl h⟩⟩
    | false => exact r.at
  | _, _, .int (x := x) (i := i) (tk := tk) r => by
    rw [List.lookup_cons, List.lookup_cons]
    cases z == x with
    | true => exact ⟨rfl, fun d e => by cases e; exact ⟨_, .int i, rfl, ⟨tk, rfl⟩, fun _ _ => .int i⟩⟩
    | false => exact r.at
  | _, _, .str (x := x) (y := y) (tk := tk) r => by
    rw [List.lookup_cons, List.lookup_cons]
    cases z == x with
    | true => exact ⟨rfl, fun d e => by cases e; exact ⟨_, .str y, rfl, ⟨tk, rfl⟩, fun _ _ => .str y⟩⟩
    | false => exact r.at
section
variable {X : Cx} {W : WX} {a b c e : Expr} {es : List Expr} {ma mb me : ME} {ms : MA} {pos p p2 : Pos} {nm : Str} {tbl : List (Str × D)}
/-! ### a local that is one of some defs -/
abbrev FnL := List (Str × (List D → AH → Res D))
inductive CalL (X : Cx) (n : Nat) : FnL → Prop
  | nil : CalL X n []
  | cons {z : Str} {f : Addr} {fd : FuncData} {k : Nat} {ps : List Str} {g : List D → AH → Res D} {l : FnL} : clsV X.K z = some (.ref f) → FnD X.prog X.w X.K X.mg X.base k f fd ps g → Room k X.A → PySem.W.keepIn X.K (.ref f) = true → Binds X.K fd ps [] → ps.length = n → CalL X n l → CalL X n ((z, g) :: l)
theorem CalL.at {n : Nat} {z : Str} {g : List D → AH → Res D} : ∀ {l : FnL}, CalL X n l → l.lookup z = some g → ∃ f fd k ps, clsV X.K z = some (.ref f) ∧ FnD X.prog X.w X.K X.mg X.base k f fd ps g ∧ Room k X.A ∧ PySem.W.keepIn X.K (.ref f) = true ∧ Binds X.K fd ps [] ∧ ps.length = n
  | _, .nil, h => by cases h
  | _, .cons (z := z') h1 h2 h3 h4 h5 h6 r, h => by
    rw [List.lookup_cons] at h
    by_cases e : z = z'
    · subst e
      rw [beq_self_eq_true] at h
      cases h
      exact ⟨_, _, _, _, h1, h2, h3, h4, h5, h6⟩
    · rw [beq_eq_false_iff_ne.mpr e] at h
      exact r.at h
end
end DM
end
section
set_option maxHeartbeats 2000000
namespace DM
open PySem PySem.Spec PyProof.Rows L2
section
variable {X : Cx} {W : WX} {a b c e e2 o tg : Expr} {es elts : List Expr} {ma mb mc me mv mo : ME} {mt mu : MT} {ms : MA} {pos pos' p p2 p3 tpos apos cpos : Pos} {kk : Nat} {C f : Str} {ca : Addr}
/-! ### xs.index(x), data of any depth -/
/-! ### a < b of whole numbers and of texts -/
end
end DM
end
section
set_option maxHeartbeats 1000000
namespace DM
open PySem PySem.Spec PyProof.Rows L2
/-! ### a module's own tuple, of tuples, whole numbers, texts -/
mutual
inductive ConD (K : PySem.W.Frag) : D → V → Prop
  | non : ConD K .non .non
  | int (i : Int) : ConD K (.int i) (.int i)
  | str (x : Str) : ConD K (.str x) (.str x)
  | tup {a : Addr} {o : Obj} {its : Array Value} {n : Nat} {vs : List V} {ds : List D} : K.lookup a = some o → o.cls = .type "tuple" → o.dict = none → o.data = .seq its n → its.size ≤ sizeLine → Vals vs its.toList → ConDs K ds vs → ConD K (.tup ds) (.ref a)
inductive ConDs (K : PySem.W.Frag) : List D → List V → Prop
  | nil : ConDs K [] []
  | cons {d : D} {v : V} {ds : List D} {vs : List V} : ConD K d v → ConDs K ds vs → ConDs K (d :: ds) (v :: vs)
end
section
variable {K : PySem.W.Frag}
mutual
theorem ConD.rd : ∀ {d : D} {v : V}, ConD K d v → ∀ (m : Mp) (H : Hp), RD K m H d v
  | _, _, .non, m, H => .non
  | _, _, .int i, m, H => .int i
  | _, _, .str x, m, H => .str x
  | _, _, .tup h1 h2 h3 h4 h5 h6 h7, m, H => .tup (.inr ⟨_, _, _, h1, h2, h3, h4, h5, h6⟩) (ConDs.rd h7 m H)
theorem ConDs.rd : ∀ {ds : List D} {vs : List V}, ConDs K ds vs → ∀ (m : Mp) (H : Hp), RDs K m H ds vs
  | _, _, .nil, m, H => .nil
  | _, _, .cons h1 h2, m, H => .cons (ConD.rd h1 m H) (ConDs.rd h2 m H)
end
structure ConC (K : PySem.W.Frag) (mg : Str → Option Value) (nm : Str) (d : D) : Prop where
  ex : ∃ (v : V) (u : Value), mg nm = some u ∧ RelV v u ∧ ConD K d v
end
section
variable {X : Cx} {W : WX} {nm : Str} {d : D} {pos : Pos}
end
end DM
end
section
set_option maxHeartbeats 1000000
namespace DM
open PySem PySem.Spec PyProof.Rows L2
section
variable {X : Cx} {W : WX} {o i : Expr} {mo mi : ME} {pos tpos : Pos}
/-! ### del d[k], d a dict of whole numbers or texts -/
/-! ### d.pop(k, x) -/
/-! ### str(i) -/
end
end DM
end
section
set_option maxHeartbeats 2000000
namespace DM
open PySem PySem.Spec PyProof.Rows L2 LamX NdefX
/-! ### a lambda that captures nothing, as a value -/
theorem lamO_at {P : Program} {w : World} {H : Hp} {h : Heap} {f c : Addr} {F : LF} (hok : HOk P w H h) (e : H f = some (LamO f c F)) : ∃ (pm ctv : Value), h.get? f = some (PySem.W.kla_obj "<lambda>" F.qual F.params F.body F.scope [] pm c ctv) := by
  obtain ⟨z, _, _⟩ := hok f _ e
  exact z
section
variable {X : Cx} {pins : List (Addr × Obj)} {σ : L2.St} {H : Hp} {s : Shared} {m : Mp} {A : AH}
end
open Classical in
noncomputable def mLamV (n : Nat) (P : Addr) (F : LF) : ME := fun _ A => match A[n]? with
  | some (.tab P' q') => if P' = P ∧ q' = F.qual then .ok (.fno F) A else .no
  | _ => .no
/-! ### its promise -/
structure LmD (P : Program) (w : World) (K : PySem.W.Frag) (mg : Str → Option Value) (base : Heap) (k : Nat) (F : LF) (n : Nat) (g : List D → AH → Res D) : Prop where
  run : ∀ (A : Around) (outer : List PySem.Env) (s : Shared) (H : Hp) (f c : Addr) (us : List Value) (vs : List V) (Q : VK) (E : XK), Room k A → A.guards = some [] → Env0 P w K mg base A outer s H → H f = some (LamO f c F) → H c = some (CodeO c F.qual) → Vals vs us →
    spD K n g vs H Q E → codeAny (model P w) A (.call (.ref f) ⟨us, []⟩) (CR (L2.CX P w) outer P w H s Q E) s
def mLb (me : ME) : List D → AH → Res D := fun ds A => me (ds.map some) A
section
variable {P : Program} {w : World} {K : PySem.W.Frag} {mg : Str → Option Value} {base : Heap} {F : LF} {ps : List Str} {k : Nat} {me : ME}
theorem LmD.of (S : NScope ps ps [] F.scope) (hb : ∀ (pm cv ctv : Value) (us : List Value), us.length = ps.length → bindArgs (PySem.W.kla_fn "<lambda>" F.qual F.params F.body F.scope [] pm cv ctv) ⟨us, []⟩ = pure (ps.zip us))
    (hbody : ∀ (A : Around) (outer : List PySem.Env) (s : Shared) (H : Hp) (E : XK) (f c : Addr), Room k (A.deeper (envF (F.nf c) f s.heap.objs.size)) → (A.deeper (envF (F.nf c) f s.heap.objs.size)).guards = some [] → Takes (ncx (L2.CX P w) P w K mg base ps (F.nf c) f A outer s H E) (fun c d _ H' => E c d H') →
      DE (ncx (L2.CX P w) P w K mg base ps (F.nf c) f A outer s H E) (fun c d _ H' => E c d H') F.body me) {n : Nat} (hn : ps.length = n := by rfl) : LmD P w K mg base (k + 1) F n (mLb me) := by
  subst hn
  refine ⟨fun A outer s H f c us vs Q E hr gd e0 hf hc r hsp => ?_⟩
  obtain ⟨hl, m, AA, ds, R, rds, post⟩ := hsp
  have lim : s.heap.NoLimit := e0.mod.nolimit.keeps fun b o e => (e0.bs b o e).1
  obtain ⟨pm, ctv, ho⟩ := lamO_at e0.hok hf
  refine PySem.W.kla_callFunE hr.depth ho rfl S.co S.gen rfl (codeO_at e0.hok hc) ?_
  rw [hb pm _ ctv us (by rw [← r.length]; exact hl)]
  refine wpAny_pure (wpAny_newFunctionEnv S.nocell (fun ⟨n, _⟩ hy => S.par n (List.of_mem_zip hy).1) (fun h₁ hns hsb => ⟨lim.fresh _ hsb, ?_⟩) S.kind)
  show codeAny _ _ (.expr F.body (envF (F.nf c) f s.heap.objs.size)) _ _
  have kp : ∀ b o, s.heap.get? b = some o → h₁.get? b = some o := fun b o e => hsb.extBut b o (Nat.ne_of_lt (Heap.lt_size e)) (Heap.get?_push_of_some _ e)
  have C : CellsAt (F.nf c).cl [] [] s.heap H := ⟨rfl, fun y c e => (nomatch e), fun x y c e => (nomatch e), fun i y e => (nomatch e)⟩
  have I : Inv (ncx (L2.CX P w) P w K mg base ps (F.nf c) f A outer s H E) [] (startF ps vs []) H { s with heap := h₁, toks := s.toks + (ps.zip us).length } := inv_startN S hr.hd e0 hl r C hns kp
  have body := hbody A outer s H E f c (hr.deeper _) gd (takes_of rfl rfl rfl rfl)
  have es : startF ps vs [] = vs.map some := by
    unfold startF
    rw [hl, Nat.sub_self]
    simp
  have want : tE K (fun c d _ H' => E c d H') me (startF ps vs []) H Q := by
    refine ⟨m, AA, ds.map some, R, ?_, ?_⟩
    · have q := start_rel (N := ps) rds
      have e1 : L2.start ps vs = vs.map some := by
        unfold L2.start
        rw [hl, Nat.sub_self]
        simp
      rw [e1, rds.length, hl, Nat.sub_self] at q
      rw [es]
      simpa using q
    · unfold mLb at post
      cases hr2 : me (ds.map some) AA with
      | ok d A1 => rw [hr2] at post; exact post
      | exc C fs A1 => rw [hr2] at post; exact post
      | no => rw [hr2] at post; exact post
  refine PySem.W.kla_codeExpr (wpAny_mono (body.run [] _ _ H Q I want) (fun v s' hq => ?_) fun e s' hq => hq)
  obtain ⟨w', H', J', rv, q⟩ := hq
  exact ⟨w', H', J'.os, J'.bare, J'.base, J'.hok, rv, q⟩
theorem LmD.up {j n : Nat} {g : List D → AH → Res D} (L : LmD P w K mg base j F n g) (h : j ≤ k) : LmD P w K mg base k F n g := ⟨fun A outer s H f c us vs Q E hr => L.run A outer s H f c us vs Q E (hr.mono h)⟩
end
/-! ### a local that is one of some lambdas -/
abbrev LmT := List (LF × (List D → AH → Res D))
open Classical in
noncomputable def lookF : LmT → LF → Option (List D → AH → Res D)
  | [], _ => none
  | (G, g) :: l, F => if F = G then some g else lookF l F
theorem lookF_hit {F : LF} {g : List D → AH → Res D} {l : LmT} : lookF ((F, g) :: l) F = some g := if_pos rfl
inductive LmL (X : Cx) (n : Nat) : LmT → Prop
  | nil : LmL X n []
  | cons {F : LF} {k : Nat} {g : List D → AH → Res D} {l : LmT} : LmD X.prog X.w X.K X.mg X.base k F n g → Room k X.A → LmL X n l → LmL X n ((F, g) :: l)
theorem LmL.at {X : Cx} {n : Nat} {F : LF} {g : List D → AH → Res D} : ∀ {l : LmT}, LmL X n l → lookF l F = some g → ∃ k, LmD X.prog X.w X.K X.mg X.base k F n g ∧ Room k X.A
  | _, .nil, h => by cases h
  | _, .cons (F := G) h1 h2 r, h => by
    by_cases e : F = G
    · subst e
      rw [lookF_hit] at h
      cases h
      exact ⟨_, h1, h2⟩
    · unfold lookF at h
      rw [if_neg e] at h
      exact r.at h
section
variable {X : Cx} {W : WX} {e : Expr} {es : List Expr} {ms : MA} {p pos : Pos}
/-! ### a def's name as a value -/
end
/-- a def of which nothing is told -/
theorem FnD.none {P : Program} {w : World} {K : PySem.W.Frag} {mg : Str → Option Value} {base : Heap} {k : Nat} {f : Addr} {fd : FuncData} {ps : List Str} : FnD P w K mg base k f fd ps (fun _ _ => .no) :=
  ⟨fun A outer s H args us vs Q E hr gd en bi rel hsp => by
    obtain ⟨_, m, A1, ds, R, r, h⟩ := hsp
    exact h.elim⟩
/-! ### where a lambda stands in the text -/
end DM
end
section
set_option maxHeartbeats 2000000
/-! ### sorted of tuples of ints of any lengths -/
namespace SrtO
open PySem PyProof.Rows TS
section
variable {prog : Program} {w : World} {A : Around} {E : Value → Shared → Prop} {s : Shared} {Q : Bool → Shared → Prop}
end
end SrtO
namespace DM
open PySem PySem.Spec PyProof.Rows L2 SrtO
section
variable {X : Cx}
end
/-! ### as a mirror -/
section
variable {X : Cx} {W : WX} {e : Expr} {ms : MA} {p pos : Pos}
end
end DM
end
section
set_option maxHeartbeats 2000000
namespace DM
open PySem PySem.Spec PyProof.Rows L2
/-! ### enumerate(text) -/
section
variable {X : Cx} {W : WX} {e : Expr} {ms : MA} {p pos : Pos}
/-! ### text > text -/
/-! ### what is not a bool, as a test -/
/-! ### a if c else b, as a test -/
/-! ### a sign in a text -/
def fInC (neg : Bool) : D → D → AH → Res D := fun d e A => match d, e with
  | .str ⟨⟨[c]⟩⟩, .str z => .ok (.bl (if neg then !decide (c ∈ z.cps.toList) else decide (c ∈ z.cps.toList))) A
  | _, _ => .no
theorem fInC_ok {K : PySem.W.Frag} (neg : Bool) : OpD K (fInC neg) (fun x y H Q => ∃ (c : Nat) (z : Str), x = .str ⟨#[c]⟩ ∧ y = .str z ∧ Q (.bl (if neg then !decide (c ∈ z.cps.toList) else decide (c ∈ z.cps.toList))) H) := by
  intro W σ m A H x y d e Q R hx hy h
  unfold fInC at h
  split at h
  · cases hx; cases hy
    exact ⟨_, _, rfl, rfl, Post.here R (.bl _) h⟩
  · exact h.elim
theorem d_inC {a b : Expr} {ma mb : ME} (ha : DE X W a ma) (hb : DE X W b mb) (hm : behindInMarks .In b = false := by first | exact nomark _ | rfl) : DE X W (.Compare a [.In] [b] pos) (mOp (fInC false) ma mb) := d_cmp op_in_sign (fInC_ok false) ha hb hm
end
end DM
end
section
set_option maxHeartbeats 2000000
namespace DM
open PySem PySem.Spec PyProof.Rows L2
/-! ### text[lo:hi] -/
section
variable {X : Cx} {W : WX} {e : Expr} {me : ME} {pos p2 : Pos}
end
end DM
end
section
set_option maxHeartbeats 2000000
namespace DM
open PySem PySem.Spec PyProof.Rows L2 PySem.W
/-! ### a < b of data -/
/-! ### min of a list of data -/
section
variable {prog : Program} {w : World} {A : Around} {E : Value → Shared → Prop} {s : Shared}
end
section
variable {X : Cx} {W : WX} {a b e : Expr} {ma mb : ME} {ms : MA} {pos p : Pos}
/-! ### text * int, int | int -/
end
end DM
end
section
set_option maxHeartbeats 2000000
namespace DM
open PySem PySem.Spec PyProof.Rows L2 PySem.W
/-! ### name = {k: v for ..} on one line, the name a local -/
section
variable {X : Cx} {W : WX} {tg iter kx vx : Expr} {ifs : List Expr} {tt : MT} {mk mv : ME} {mi : MI} {pos : Pos} {t : Tg}
end
end DM
end
section
set_option maxHeartbeats 2000000
namespace PySem
open Sem (wp)
open AutoSeq1 (wpAny_loadPart')
/-! ### enumerate(tuple) -/
theorem meets_enumerate_newT (l : Addr) (items : Array Value) (n : Nat) (dct : Option Addr) (sl : Array (Option Value)) :
    Meets (Builtin.«enumerate.__new__» ⟨[.type "enumerate", .ref l], []⟩) (fun _ R s => s.heap.get? l = some { cls := .type "tuple", dict := dct, data := .seq items n, slots := sl } ∧
      R (.ok (.ret (.ref (s.heap.push { cls := .type "tuple_iterator", data := .fields #[.ref l, .int 0 0] }).objs.size)))
        { s with heap := (s.heap.push { cls := .type "tuple_iterator", data := .fields #[.ref l, .int 0 0] }).push { cls := .type "enumerate", data := .fields #[.none, .bool false, .ref s.heap.objs.size, rawInt 0, .none, .none] } }) :=
  .of_wp fun prog w A R s h => by
    obtain ⟨hp, g, d, tk, os⟩ := s; obtain ⟨hl, h⟩ := h
    have hsub := sub_enumerate
    have hL : Heap.IsTuple (Shared.heap ⟨hp, g, d, tk, os⟩) l items := ⟨_, hl, rfl, n, rfl⟩
    wp_walk using wpAny_loadPart' hl
    refine wpAny_stack_any fun st => wpAny_pure ?_
    split
    · rename_i c _ _ _ _ _
      cases (c == Value.type "enumerate")
      · wp_walk using wpAny_loadPart' hl, wpAny_pyIter_tuple hL
        exact ⟨_, rfl, h⟩
      · wp_walk using wpAny_loadPart' hl, wpAny_pyIter_tuple hL
        exact ⟨_, rfl, h⟩
    · wp_walk using wpAny_loadPart' hl, wpAny_pyIter_tuple hL
      exact ⟨_, rfl, h⟩
theorem call_enumerate_tuple {prog : Program} {w : World} {A : Around} {E : Value → Shared → Prop} {s : Shared} {l : Addr} {items : Array Value} {Q : Value → Shared → Prop} (hL : s.heap.IsTuple l items)
    (h : ∀ h', IsEnum h' (s.heap.objs.size + 1) s.heap.objs.size 0 .none → h'.IsTupleIter s.heap.objs.size l 0 → h'.objs.size = s.heap.objs.size + 2 →
      (∀ b o, s.heap.get? b = some o → h'.get? b = some o) → Q (.ref (s.heap.objs.size + 1)) { s with heap := h' }) :
    wpAny (model prog w) A (call (.type "enumerate") [.ref l]) Q E s := by
  obtain ⟨⟨c, dct, dt, sl⟩, hl, hc, n, hd⟩ := hL
  replace hc : c = .type "tuple" := hc
  replace hd : dt = .seq items n := hd
  subst hc hd
  refine callType_new F.called_enumerate (by decide) (F.typeCall_enumerate_1 _) (F.newCall_enumerate_1 _) (fun obj => F.args_object_init_2 obj _) F.entry_enumerate_new
    (meets_enumerate_newT l items n dct sl) ⟨hl, ?_⟩
  have hz : (s.heap.push { cls := .type "tuple_iterator", data := .fields #[.ref l, .int 0 0] }).objs.size = s.heap.objs.size + 1 := Heap.size_push ..
  show _ ∧ _
  rw [hz]
  have he : IsEnum ((s.heap.push { cls := .type "tuple_iterator", data := .fields #[.ref l, .int 0 0] }).push
      { cls := .type "enumerate", data := .fields #[.none, .bool false, .ref s.heap.objs.size, rawInt 0, .none, .none] }) (s.heap.objs.size + 1) s.heap.objs.size 0 .none := by
    have := Heap.get?_push_size (s.heap.push { cls := .type "tuple_iterator", data := .fields #[.ref l, .int 0 0] })
      (o := { cls := .type "enumerate", data := .fields #[.none, .bool false, .ref s.heap.objs.size, rawInt 0, .none, .none] }) rfl
    rw [hz] at this; exact this
  refine ⟨⟨_, he, rfl⟩, h _ he ⟨_, Heap.get?_push_of_some _ (Heap.get?_push_size _ rfl), rfl, rfl⟩ (by rw [Heap.size_push, hz]) fun b o x => Heap.get?_push_of_some _ (Heap.get?_push_of_some _ x)⟩
end PySem
namespace DM
open PySem PySem.Spec PyProof.Rows L2
def Iten (K : PySem.W.Frag) (a : Addr) (n : Nat) : It :=
  ⟨fun i H => ∃ (xs : List V) (x : V), SqT K H a xs ∧ xs.length = n ∧ xs[i]? = some x, fun i H v H' => ∃ T x, v = .ref T ∧ H T = none ∧ H' = upd H T (.tup [.int (i : Nat), x]) ∧ ∀ xs, SqT K H a xs → xs[i]? = some x, fun i H => ∃ xs : List V, SqT K H a xs ∧ xs.length = n ∧ n ≤ i⟩
theorem turn_enumT {P : Program} {w : World} {K : PySem.W.Frag} {elts : List Expr} {kk : Nat} {tpos : Pos} (a : Addr) (n : Nat) (e it : Addr) :
    Turn P w K (.Tuple elts kk tpos) (Iten K a n) [e, it] e (fun i h => (∃ old, IsEnum h e it ((i : Nat) : Int) old) ∧ h.IsTupleIter it a i ∧ e ≠ it ∧ i ≤ n ∧ a ≠ it ∧ a ≠ e) where
  mem := by simp
  obj := fun i h st b hb => by
    obtain ⟨⟨old, he⟩, ⟨o, ho, hc, hd⟩, _, _, _⟩ := st
    have e' : b = e ∨ b = it := by simpa using hb
    rcases e' with z | z
    · rw [z]; exact ⟨_, he, fun v q => nomatch q⟩
    · rw [z]; exact ⟨o, ho, fun v q => by rw [hd] at q; cases q⟩
  keep := fun i h h' st k => let ⟨⟨old, he⟩, hi, hne, hle, hat⟩ := st; ⟨⟨old, k e (by simp) _ he⟩, hi.at fun o q => k it (by simp) o q, hne, hle, hat⟩
  item := by
    intro X hP hw hK hc i pins s σ H E I hf st hg
    subst hP hw hK
    obtain ⟨⟨old, he⟩, hit, hne, hle, hai, hae⟩ := st
    obtain ⟨xs, x, hq, hn, hx⟩ := hg
    obtain ⟨its, rv, p, hz⟩ := I.tuple hq
    have ht : s.heap.IsTuple a its.toArray := p
    obtain ⟨u, hu, ru⟩ := rv.get hx
    have hlx : i < xs.length := (List.getElem?_eq_some_iff.mp hx).1
    have hli : its.length = xs.length := rv.length.symm
    have D : Draws X.prog X.w X.A.in1 it [it, a] its.toArray.size (fun i v => its.toArray[i]? = some v) (fun i h => h.IsTupleIter it a i ∧ h.IsTuple a its.toArray) :=
      Draws.tuple (A := X.A.in1) (show X.A.in1.handled = none from I.ok.hd hc) it a hai its.toArray
    have hel : e < s.heap.objs.size := Heap.lt_size he
    have hil : it < s.heap.objs.size := by obtain ⟨_, q, _⟩ := hit; exact Heap.lt_size q
    refine wpAny_pyNext_enum_itemD D he ⟨hit, ht⟩ (by rw [List.size_toArray]; omega) hne (by simp [hne, Ne.symm hae]) fun v h' tk hv ho hit' hT hsz hk => ?_
    have hvu : v = u := by
      rw [List.getElem?_toArray, hu] at hv
      exact (Option.some.inj hv).symm
    subst hvu
    refine ⟨_, rfl, wpAny_letOwnedTupleGo_enum (s := { s with heap := h', toks := tk + 1 }) ho fun h'' he' sb => ?_⟩
    have hT2 : h''.get? s.heap.objs.size = some { cls := .type "tuple", data := .seq #[.int i tk, v] } := (sb.2 _ (Nat.ne_of_gt hel)).trans hT
    have new : ObjOk X.prog X.w (upd H s.heap.objs.size (.tup [.int (i : Nat), x])) h'' s.heap.objs.size (.tup [.int (i : Nat), x]) :=
      ⟨by show 2 ≤ sizeLine; decide, [.int i tk, v], .cons ⟨_, rfl⟩ (.cons ru .nil), ⟨_, hT2, rfl, _, rfl⟩⟩
    have I1 : Inv X pins σ (upd H s.heap.objs.size (.tup [.int (i : Nat), x])) { s with heap := h'', toks := tk + 1 } :=
      I.turnedNew (ch := [e, it]) (fun b ob hb q => (sb.2 b (fun z => hb (by simp [z]))).trans (hk b ob (fun z => hb (by simp [z])) (fun z => hb (by simp [z])) q)) hf (Nat.le_refl _) new
    refine ⟨.ref s.heap.objs.size, _, I1, rfl, ⟨_, x, rfl, I.hok.fresh (Nat.le_refl _), rfl, fun ys hy => by rw [I.tuple_inj hy hq]; exact hx⟩, ⟨⟨v, ?_⟩, hit'.1.at fun o q => (sb.2 it (Ne.symm hne)).trans q, hne, by omega, hai, hae⟩, fun b hb => ?_⟩
    · have e1 : ((i + 1 : Nat) : Int) = (i : Int) + 1 := by omega
      rw [e1]; exact he'
    · have hb' : b < s.heap.objs.size := by
        have e' : b = e ∨ b = it := by simpa using hb
        rcases e' with z | z
        · rw [z]; exact hel
        · rw [z]; exact hil
      rw [upd_ne (Nat.ne_of_lt hb')]
      exact (hf b hb).1
  done := by
    intro X hP hw hK hc i pins s σ H E I hf st hg
    subst hP hw hK
    obtain ⟨⟨old, he⟩, hit, hne, hle, hai, hae⟩ := st
    obtain ⟨xs, hq, hn, hx⟩ := hg
    obtain ⟨its, rv, p, hz⟩ := I.tuple hq
    have ht : s.heap.IsTuple a its.toArray := p
    have hli : its.length = xs.length := rv.length.symm
    have D : Draws X.prog X.w X.A.in1 it [it, a] its.toArray.size (fun i v => its.toArray[i]? = some v) (fun i h => h.IsTupleIter it a i ∧ h.IsTuple a its.toArray) :=
      Draws.tuple (A := X.A.in1) (show X.A.in1.handled = none from I.ok.hd hc) it a hai its.toArray
    obtain ⟨f0, f1, f2, f3, f4, f5⟩ := hf it (by simp)
    have hi : i = its.toArray.size := by rw [List.size_toArray]; omega
    subst hi
    exact wpAny_pyNext_enum_endD D he ⟨hit, ht⟩ fun h' eb => ⟨rfl, I.turned (t' := s.toks) (fun b o hb q => eb b o hb q) f0 f1 f3 f4 f5⟩
  self := fun A i s Q E st h => let ⟨⟨_, he⟩, _⟩ := st; wpAny_pyIter_enum he h
def iEnumT (K : PySem.W.Frag) (ta : TA) : TI := fun σ H R => ta σ H fun vs H1 => ∃ a xs, vs = [.ref a] ∧ SqT K H1 a xs ∧ R (Iten K a xs.length) H1
theorem pi_enumT {X : Cx} {e : Expr} {ta : TA} {p pos tpos : Pos} {elts : List Expr} {kk : Nat} (hg : Gl X "enumerate") (hm : X.mg "enumerate" = none) (ha : PA X [e] ta) (hs : starEach [e] X.env = [(false, eval e X.env)] := by rfl) :
    PI X (.Tuple elts kk tpos) (.Call (.Name "enumerate" p) [e] [] pos) (iEnumT X.K ta) := by
  refine ⟨fun pins s σ H R I h => ?_⟩
  refine Call_ (ld_blt I hg hm boot_enumerate (PyProof.Rows.callWith_type1 (thn (ha.run pos pins s σ H _ I h) fun us s1 ⟨vs, H1, I1, r1, q1⟩ => ?_) hs rfl))
  obtain ⟨a, xs, ex, hq, q⟩ := q1
  subst ex
  cases r1 with
  | cons r rr =>
    cases rr
    cases r
    obtain ⟨its, rv, p', hz⟩ := I1.tuple hq
    have ht : s1.heap.IsTuple a its.toArray := p'
    have hal : a < s1.heap.objs.size := by
      obtain ⟨o, ho, _⟩ := id ht
      exact Heap.lt_size ho
    refine call_enumerate_tuple ht fun h' he hit hsz hk => wpAny_pyIter_enum he ?_
    have I2 : Inv X pins σ H1 { s1 with heap := h' } := I1.kept (t' := s1.toks) hk
    refine ⟨s1.heap.objs.size + 1, [s1.heap.objs.size + 1, s1.heap.objs.size], _, _, H1, rfl, I2, turn_enumT a xs.length (s1.heap.objs.size + 1) s1.heap.objs.size, ⟨⟨.none, he⟩, hit, Nat.succ_ne_self _, Nat.zero_le _, Nat.ne_of_lt hal, Nat.ne_of_lt (Nat.lt_succ_of_lt hal)⟩, fun b hb => ?_, q⟩
    have e' : b = s1.heap.objs.size + 1 ∨ b = s1.heap.objs.size := by simpa using hb
    have hle : s1.heap.objs.size ≤ b := by
      rcases e' with z | z
      · rw [z]; exact Nat.le_add_right _ _
      · rw [z]; exact Nat.le_refl _
    exact I1.fpOk hle (I1.hok.fresh hle)
theorem iter_enumT {K : PySem.W.Frag} {m : Mp} {H : Hp} {xs : List D} {q : Addr} (r : RD K m H (.tup xs) (.ref q)) : Iter K (Iten K q xs.length) m H (.en (.tup xs)) := by
  refine ⟨fun m' A' H' all i x e R hs hi => ?_, fun m' A' H' all i e R hs hl => ?_⟩
  · have hs : some (enumD 0 xs) = some all := hs
    cases hs
    have hs0 : seqOf A' (.tup xs) = some xs := rfl
    obtain ⟨q', vs, hq, rs, sq⟩ := seqOf_is R (RD.mono e _ _ r) hs0
    cases hq
    rcases sq with ⟨_, sq⟩ | ⟨hd, _⟩
    · rw [enum_at] at hi
      obtain ⟨x0, hx0, rfl⟩ := Option.map_eq_some_iff.mp hi
      obtain ⟨v, h1, h2⟩ := rs.get hx0
      refine ⟨⟨vs, v, sq, rs.length.symm, h1⟩, fun y H'' hy => ?_⟩
      obtain ⟨T, v', rfl, hT, rfl, hy⟩ := hy
      have := hy vs sq
      rw [h1] at this; cases this
      obtain ⟨R1, e1⟩ := R.new hT (.tup [.int (i : Nat), v])
      refine ⟨R1, e1, ?_⟩
      rw [Nat.zero_add]
      exact .qtup (.inl upd_same) (R.out hT) (.cons (.int _) (.cons (RD.mono e1 _ _ h2) .nil))
    · cases hd
  · have hs : some (enumD 0 xs) = some all := hs
    cases hs
    have hs0 : seqOf A' (.tup xs) = some xs := rfl
    obtain ⟨q', vs, hq, rs, sq⟩ := seqOf_is R (RD.mono e _ _ r) hs0
    cases hq
    rw [enum_length] at hl
    rcases sq with ⟨_, sq⟩ | ⟨hd, _⟩
    · exact ⟨vs, sq, rs.length.symm, hl⟩
    · cases hd
def mEnT (ms : MA) : MI := fun ρ A => (ms ρ A).bind fun ds A1 => match ds with
  | [.tup xs] => .ok (.en (.tup xs)) A1
  | _ => .no
section
variable {X : Cx} {W : WX} {e : Expr} {ms : MA} {p pos : Pos}
theorem i_enT {elts : List Expr} {kk : Nat} {tpos : Pos} (hm : X.mg "enumerate" = none) (ha : DA X W [e] ms) (hg : Gl X "enumerate" := by rfl) (hs : starEach [e] X.env = [(false, eval e X.env)] := by rfl) : DI X W (.Tuple elts kk tpos) (.Call (.Name "enumerate" p) [e] [] pos) (mEnT ms) :=
  PIi (pi_enumT hg hm ha hs) fun σ H Q ⟨m, A, ρ, R, E, h⟩ => tA.bind R E h fun m1 A1 ds vs H1 e1 R1 E1 r1 h1 => by
    split at h1
    · rename_i xs
      obtain ⟨v, rfl, r⟩ := r1.one
      obtain ⟨q, ws, rfl, rs, sq⟩ := seqOf_is (xs := xs) R1 r rfl
      rcases sq with ⟨_, sq⟩ | ⟨hd, _⟩
      · refine ⟨q, ws, rfl, sq, Post.here R1 ?_ h1⟩
        rw [← rs.length]
        exact iter_enumT r
      · cases hd
    · exact h1.elim
end
end DM
end
section
set_option maxHeartbeats 2000000
namespace HT
open PySem PyProof.Rows
section
variable {prog : Program} {w : World} {A : Around} {E : Value → Shared → Prop} {s : Shared}
/-! ### tuple[::-1] -/
end
end HT
namespace DM
open PySem PySem.Spec PyProof.Rows L2
section
variable {X : Cx} {W : WX} {a b e e2 o f : Expr} {ma mb me mo mf : ME} {ms : MA} {pos p apos cpos : Pos}
/-! ### text.upper() -/
def mUp (me : ME) : ME := fun ρ A => (me ρ A).bind fun d A1 => match d with
  | .str x => if x.length ≤ 5592405 then .ok (.str (Txt.upper x)) A1 else .no
  | _ => .no
theorem d_up (ho : DE X W o mo) (hbase : attributeBase o "upper" X.env (eval o X.env) = eval o X.env := by rfl) (hline : (apos.endLine == pos.line) = true := by rfl) :
    DE X W (.Call (.Attribute o "upper" apos) [] [] pos) (mUp mo) :=
  PEi (pe_m0 F.slot_str_upper F.type_str_upper mt_upper ho hbase hline) fun σ H Q ⟨m, A, ρ, R, E, h⟩ => tE.bind R E h fun m1 A1 d v H1 e1 R1 E1 r1 h1 => by
    split at h1
    · rename_i x
      cases r1
      split at h1
      · rename_i hz
        exact ⟨⟨x, rfl⟩, x, rfl, rfl, hz, Post.here R1 (.str _) h1⟩
      · exact h1.elim
    · exact h1.elim
/-! ### d.get(k) -/
/-! ### dict(d): a copy -/
/-! ### text * int, the text perhaps empty -/
end
end DM
end
section
set_option maxHeartbeats 2000000
namespace PySem
open PySem.W PyProof.Rows L2
section
variable {prog : Program} {w : World} {A : Around} {E : Value → Shared → Prop} {s : Shared}
end
end PySem
namespace DM
open PySem PySem.Spec PyProof.Rows L2 PySem.W
/-! ### max of a list of data -/
/-! ### min, max of two texts -/
section
variable {X : Cx} {W : WX} {a b e e2 : Expr} {ms : MA} {pos p : Pos}
end
end DM
end
section
set_option maxHeartbeats 2000000
namespace DM
open PySem PySem.Spec PyProof.Rows L2
section
variable {X : Cx} {W : WX} {e o i : Expr} {me mo mi : ME} {pos tpos : Pos}
end
end DM
end
section
set_option maxHeartbeats 2000000
namespace DM
open PySem PySem.Spec PyProof.Rows L2
section
variable {X : Cx} {W : WX} {e e2 e3 : Expr} {ms : MA} {pos p : Pos}
/-! ### max of three -/
/-! ### max of a dict with int keys -/
end
/-! ### {"a": v, "b": w, ..} -/
section
variable {X : Cx} {W : WX} {pos p : Pos}
/-! ### running rules -/
end
end DM
end
section
set_option maxHeartbeats 4000000
namespace DM
open PySem PySem.Spec PyProof.Rows L2
/-! ### sorted(set(xs)) of longer lists with few members -/
section
variable {X : Cx} {W : WX} {e : Expr} {me : ME} {p p2 pos pos2 : Pos}
end
end DM
end
section
set_option maxHeartbeats 2000000
namespace DM
open PySem PySem.Spec PyProof.Rows L2
/-! ### values that are keys -/
mutual
inductive NkV (K : PySem.W.Frag) (H : Hp) : NestedKey → V → Prop
  | non : NkV K H .none .non
  | bl (b : Bool) : NkV K H (.num (if b = true then 1 else 0)) (.bl b)
  | int (i : Int) : NkV K H (.num i) (.int i)
  | str (x : Str) : NkV K H (.text x) (.str x)
  | tup {a : Addr} {vs : List V} {ks : List NestedKey} : SqT K H a vs → NkVs K H ks vs → NkV K H (.tup ks) (.ref a)
inductive NkVs (K : PySem.W.Frag) (H : Hp) : List NestedKey → List V → Prop
  | nil : NkVs K H [] []
  | cons {k : NestedKey} {v : V} {ks : List NestedKey} {vs : List V} : NkV K H k v → NkVs K H ks vs → NkVs K H (k :: ks) (v :: vs)
end
mutual
theorem RD.nk {K : PySem.W.Frag} {m : Mp} {H : Hp} : ∀ (d : D) (k : NestedKey) (v : V), nkOf d = some k → RD K m H d v → NkV K H k v
  | .non, k, v, h, r => by cases h; cases r; exact .non
  | .bl b, k, v, h, r => by cases h; cases r; exact .bl b
  | .int i, k, v, h, r => by cases h; cases r; exact .int i
  | .str x, k, v, h, r => by cases h; cases r; exact .str x
  | .tup xs, k, v, h, r => by
    obtain ⟨ks, h1, rfl⟩ := Option.map_eq_some_iff.mp h
    cases r with
    | tup s rs => exact .tup s.sq (RDs.nk xs ks _ h1 rs)
  | .qtup xs, k, v, h, r => by
    obtain ⟨ks, h1, rfl⟩ := Option.map_eq_some_iff.mp h
    cases r with
    | qtup s n rs => exact .tup (.inl s) (RDs.nk xs ks _ h1 rs)
  | .lst _, _, _, h, _ => nomatch h
  | .ty _, _, _, h, _ => nomatch h
  | .abs _, _, _, h, _ => nomatch h
  | .cl _, _, _, h, _ => nomatch h
  | .ref _, _, _, h, _ => nomatch h
  | .exv _ _ _ _, _, _, h, _ => nomatch h
  | .fnv _ _ _ _ _, _, _, h, _ => nomatch h
  | .fno _, _, _, h, _ => nomatch h
theorem RDs.nk {K : PySem.W.Frag} {m : Mp} {H : Hp} : ∀ (ds : List D) (ks : List NestedKey) (vs : List V), nkOfs ds = some ks → RDs K m H ds vs → NkVs K H ks vs
  | [], ks, vs, h, r => by cases h; cases r; exact .nil
  | d :: ds, ks, vs, h, r => by
    unfold nkOfs at h
    split at h
    · rename_i k ks' h1 h2
      cases h
      cases r with
      | cons r rs => exact .cons (RD.nk d k _ h1 r) (RDs.nk ds ks' _ h2 rs)
    · cases h
end
section
variable {X : Cx} {pins : List (Addr × Obj)} {σ : L2.St} {H : Hp} {s : Shared} {a : Addr}
mutual
theorem nk_is (I : Inv X pins σ H s) : ∀ (k : NestedKey) (v : V) (u : Value), NkV X.K H k v → RelV v u → NestedIs s.heap k u
  | .none, v, u, h, r => by cases h; cases (show u = Value.none from r); exact .none
  | .num i, v, u, h, r => by
    cases h with
    | bl b => cases (show u = Value.bool b from r); exact .bool rfl
    | int => obtain ⟨t, rfl⟩ := (show ∃ t, u = Value.int i t from r); exact .int i t
  | .text x, v, u, h, r => by cases h; obtain ⟨t, rfl⟩ := (show ∃ t, u = Value.str x t from r); exact .text x t
  | .tup ks, v, u, h, r => by
    cases h with
    | tup sq hs =>
      rename_i b vs
      cases (show u = Value.ref b from r)
      obtain ⟨its, rv, ⟨o, ho, hc, n, hd⟩, _⟩ := I.tuple sq
      exact .tup ho hc hd (by rw [List.toList_toArray]; exact nks_are I ks vs its hs rv)
theorem nks_are (I : Inv X pins σ H s) : ∀ (ks : List NestedKey) (vs : List V) (us : List Value), NkVs X.K H ks vs → Vals vs us → NestedAll s.heap ks us
  | [], vs, us, h, r => by cases h; cases r; exact .nil
  | k :: ks, vs, us, h, r => by
    cases h with
    | cons h hs =>
      cases r with
      | cons r rs => exact .cons (nk_is I k _ _ h r) (nks_are I ks _ _ hs rs)
end
/-! ### the dict at a -/
structure DtAt (K : PySem.W.Frag) (P : Program) (w : World) (H : Hp) (a : Addr) (ws : DtW) : Prop where
  at_ : H a = some (dtH P w a ws)
  keys : ∀ z ∈ ws, NkV K H z.1 (.ref z.2.1)
theorem paired_back {α β : Type} {F : α → β → Prop} : ∀ {xs : List α} {ys : List β}, Paired F xs ys → ∀ y ∈ ys, ∃ x ∈ xs, F x y
  | _, _, .nil, y, h => nomatch h
  | _, _, .cons r t, y, h => by
    rcases List.mem_cons.mp h with rfl | h
    · exact ⟨_, List.mem_cons_self, r⟩
    · obtain ⟨x, hx, q⟩ := paired_back t y h
      exact ⟨x, List.mem_cons_of_mem _ hx, q⟩
theorem DtAt.full {ws : DtW} (I : Inv X pins σ H s) (d : DtAt X.K X.prog X.w H a ws) : ws.length ≤ sizeLine ∧ (a == sysModules) = false ∧ (∀ z ∈ ws, z.1.depth ≤ 8) ∧ ∃ xs, Paired DtP ws xs ∧ xs.length = ws.length ∧ s.heap.DictOfH (nestedKind X.prog X.w) a xs := by
  obtain ⟨⟨z, lo, fw, xs, r, o, es, ep, h1, h2, h3, h4, h5⟩, _, _⟩ := I.hok a _ d.at_
  refine ⟨z, lo, fw, xs, r, r.length.symm, o, es, ep, h1, h2, h3, h4, fun x hx => ?_, h5⟩
  obtain ⟨y, hy, e1, e2, _⟩ := paired_back r x hx
  rw [← e1, ← e2]
  exact ⟨nk_is I _ _ _ (d.keys y hy) rfl, fw y hy⟩
/-- what stands at a key -/
def valW (ws : DtW) (k : NestedKey) : Option V := (ws.find? fun z => decide (z.1 = k)).map (·.2.2)
def putW (ws : DtW) (k : NestedKey) (b : Addr) (v : V) : DtW := if (valW ws k).isSome then ws.map (fun z => if z.1 = k then (z.1, z.2.1, v) else z) else ws ++ [(k, b, v)]
def dropW (ws : DtW) (k : NestedKey) : DtW := ws.filter fun z => decide (z.1 ≠ k)
theorem valW_rel {k : NestedKey} : ∀ {ws : DtW} {xs : List (NestedKey × Addr × Value)}, Paired DtP ws xs → RelO (valW ws k) ((atKey xs k).map (·.2))
  | _, _, .nil => True.intro
  | z :: ws, x :: xs, .cons r t => by
    by_cases e : z.1 = k
    · have e' : x.1 = k := r.1 ▸ e
      have a1 : valW (z :: ws) k = some z.2.2 := by simp [valW, List.find?_cons, e]
      have a2 : (atKey (x :: xs) k).map (·.2) = some x.2.2 := by simp [atKey, List.find?_cons, e']
      rw [a1, a2]
      exact r.2.2
    · have e' : ¬ x.1 = k := fun y => e (r.1 ▸ y)
      have a1 : valW (z :: ws) k = valW ws k := by simp [valW, List.find?_cons, e]
      have a2 : (atKey (x :: xs) k).map (·.2) = (atKey xs k).map (·.2) := by simp [atKey, List.find?_cons, e']
      rw [a1, a2]
      exact valW_rel t
theorem valW_iso {k : NestedKey} {ws : DtW} {xs : List (NestedKey × Addr × Value)} (r : Paired DtP ws xs) : (valW ws k).isSome = (atKey xs k).isSome := by
  have h := valW_rel (k := k) r
  cases a : valW ws k with
  | none => cases b : atKey xs k with
    | none => rfl
    | some y => rw [a, b] at h; exact (show False from h).elim
  | some x => cases b : atKey xs k with
    | none => rw [a, b] at h; exact (show False from h).elim
    | some y => rfl
theorem paired_put {k : NestedKey} {b : Addr} {v : V} {u : Value} (rv : RelV v u) {ws : DtW} {xs : List (NestedKey × Addr × Value)} (r : Paired DtP ws xs) : Paired DtP (putW ws k b v) (storedH xs k b u) := by
  have rep : ∀ {ws : DtW} {xs : List (NestedKey × Addr × Value)}, Paired DtP ws xs → Paired DtP (ws.map fun z => if z.1 = k then (z.1, z.2.1, v) else z) (xs.map (putAt k u)) := by
    intro ws xs r
    induction r with
    | nil => exact .nil
    | @cons z x ws xs h t ih =>
      refine .cons ?_ ih
      show DtP (if z.1 = k then (z.1, z.2.1, v) else z) (if x.1 = k then (x.1, x.2.1, u) else x)
      by_cases e : z.1 = k
      · rw [if_pos e, if_pos (h.1 ▸ e)]
        exact ⟨h.1, h.2.1, rv⟩
      · rw [if_neg e, if_neg fun y => e (h.1 ▸ y)]
        exact h
  unfold putW storedH
  rw [valW_iso r]
  split
  · exact rep r
  · exact r.snoc ⟨rfl, rfl, rv⟩
theorem paired_drop {k : NestedKey} : ∀ {ws : DtW} {xs : List (NestedKey × Addr × Value)}, Paired DtP ws xs → Paired DtP (dropW ws k) (withoutH xs k)
  | _, _, .nil => .nil
  | z :: ws, x :: xs, .cons r t => by
    unfold dropW withoutH
    by_cases e : z.1 = k
    · have e' : x.1 = k := r.1 ▸ e
      rw [List.filter_cons_of_neg (by simp [e]), List.filter_cons_of_neg (by simp [e'])]
      exact paired_drop t
    · have e' : ¬ x.1 = k := fun y => e (r.1 ▸ y)
      rw [List.filter_cons_of_pos (by simp [e]), List.filter_cons_of_pos (by simp [e'])]
      exact .cons r (paired_drop t)
theorem putW_len (ws : DtW) (k : NestedKey) (b : Addr) (v : V) : (putW ws k b v).length ≤ ws.length + 1 := by
  unfold putW
  split
  · rw [List.length_map]; omega
  · rw [List.length_append]; exact Nat.le_refl _
theorem dropW_few {ws : DtW} {k : NestedKey} (f : ∀ z ∈ ws, z.1.depth ≤ 8) : ∀ z ∈ dropW ws k, z.1.depth ≤ 8 := fun z hz => f z (List.mem_filter.mp hz).1
theorem putW_few {ws : DtW} {k : NestedKey} {b : Addr} {v : V} (f : ∀ z ∈ ws, z.1.depth ≤ 8) (h : k.depth ≤ 8) : ∀ z ∈ putW ws k b v, z.1.depth ≤ 8 := fun z hz => by
  unfold putW at hz
  split at hz
  · obtain ⟨y, hy, rfl⟩ := List.mem_map.mp hz
    split
    · exact f y hy
    · exact f y hy
  · rcases List.mem_append.mp hz with hz | hz
    · exact f z hz
    · rw [List.mem_singleton.mp hz]; exact h
theorem dropW_len (ws : DtW) (k : NestedKey) : (dropW ws k).length ≤ ws.length := List.length_filter_le ..
/-- the dict's own object is another one -/
theorem dt_write {h' : Heap} {tk : Nat} {ws vs : DtW} {xs : List (NestedKey × Addr × Value)} (I : Inv X pins σ H s) (d : DtAt X.K X.prog X.w H a ws) (lo : (a == sysModules) = false) (z : vs.length ≤ sizeLine) (fw : ∀ z ∈ vs, z.1.depth ≤ 8) (r : Paired DtP vs xs)
    (dd : h'.DictOfH (nestedKind X.prog X.w) a xs) (hs : Heap.SameBut a s.heap h') : Inv X pins σ (upd H a (dtH X.prog X.w a vs)) { s with heap := h', toks := tk } := by
  obtain ⟨o, es, ep, h1, h2, h3, h4, _, h5⟩ := dd
  exact I.write (x := a) (e := a) (by rw [d.at_]; exact True.intro) (.inl rfl) (fun b q hb y => (hs.2 b hb).trans y) ⟨o, h1⟩ (dt_laid ⟨z, lo, fw, xs, r, o, es, ep, h1, h2, h3, h4, h5⟩)
/-! ### what is done with it -/
theorem units_in {A : Around} (hu : A.units + 64 < cLine) : (nestedKind X.prog X.w).room A.in1 := by
  show A.units + 1 + 8 < cLine
  omega
def rInW (K : PySem.W.Frag) (P : Program) (w : World) (neg : Bool) : R2 := fun x y H Q => ∃ (a : Addr) (ws : DtW) (k : NestedKey) (b : Addr), y = .ref a ∧ x = .ref b ∧ DtAt K P w H a ws ∧ NkV K H k x ∧ k.depth ≤ 8 ∧ Q (.bl ((valW ws k).isSome != neg)) H
theorem op_inW (hu : X.A.units + 64 < cLine) : OpR X (compareOp .In) (rInW X.K X.prog X.w false) := by
  intro pins s σ H x y v u Q I rx ry h
  obtain ⟨a, ws, k, b, rfl, rfl, d, hk, h8, q⟩ := h
  cases rx
  cases ry
  obtain ⟨z, lo, fw, xs, r, _, dd⟩ := d.full I
  refine wpAny_in_heap (units_in hu) ⟨nk_is I _ _ _ hk rfl, h8⟩ lo dd ?_
  rw [← valW_iso r]
  exact ⟨.bl (valW ws k).isSome, H, I.tok _, rfl, by rw [Bool.bne_false] at q; exact q⟩
end
section
variable {X : Cx} {o i e f value : Expr} {pos pos' tpos apos cpos : Pos} {td ty tv tx : TE}
/-- d[k] -/
def tGetT (K : PySem.W.Frag) (P : Program) (w : World) (td ty : TE) : TE := fun σ H Q => td σ H fun x H1 => ty σ H1 fun y H2 => ∃ (a b : Addr) (ws : DtW) (k : NestedKey) (v : V), x = .ref a ∧ y = .ref b ∧ DtAt K P w H2 a ws ∧ NkV K H2 k y ∧ k.depth ≤ 8 ∧ valW ws k = some v ∧ Q v H2
theorem some_rel {ws : DtW} {xs : List (NestedKey × Addr × Value)} {k : NestedKey} {v : V} (r : Paired DtP ws xs) (h : valW ws k = some v) : ∃ p, atKey xs k = some p ∧ RelV v p.2 := by
  have q := valW_rel (k := k) r
  rw [h] at q
  cases e : atKey xs k with
  | none => rw [e] at q; exact (show False from q).elim
  | some p => rw [e] at q; exact ⟨p, rfl, q⟩
theorem pe_getT (hu : X.A.units + 64 < cLine) (ho : PE X o td) (hi : PE X i ty) (hs : NoSl i) : PE X (.Subscript o i pos) (tGetT X.K X.prog X.w td ty) := by
  constructor
  intro pins s σ H Q I h
  refine subD_of PySem.F.slot_dict_getitem.lookup hs ?_
  refine thn (ho.run pins s σ H _ I h) fun u s1 ⟨x, H1, I1, rx, q1⟩ => ?_
  refine thn (hi.run pins s1 σ H1 _ I1 q1) fun iv s2 ⟨y, H2, I2, ry, a, b, ws, k, v, ex, ey, d, hk, h8, hv, q2⟩ => ?_
  subst ex
  subst ey
  obtain rfl : u = Value.ref a := rx
  obtain rfl : iv = Value.ref b := ry
  obtain ⟨z, lo, fw, xs, r, _, dd⟩ := d.full I2
  obtain ⟨p, hp, rp⟩ := some_rel r hv
  exact ⟨dd.typeIs, wpAny_getItem_heap (units_in hu) ⟨nk_is I2 _ _ _ hk rfl, h8⟩ dd hp ⟨v, H2, I2.tok _, rp, q2⟩⟩
/-- d[k] = v -/
def sPutT (K : PySem.W.Frag) (P : Program) (w : World) (td ty tv : TE) : TS := fun D σ H => tv σ H fun v H1 => td σ H1 fun x H2 => ty σ H2 fun y H3 => ∃ (a b : Addr) (ws : DtW) (k : NestedKey), x = .ref a ∧ y = .ref b ∧ DtAt K P w H3 a ws ∧ NkV K H3 k y ∧ k.depth ≤ 8 ∧ ws.length < sizeLine ∧
  D.nx σ (upd H3 a (dtH P w a (putW ws k b v)))
theorem ps_putT (hu : X.A.units + 64 < cLine) (ho : PE X o td) (hi : PE X i ty) (hv : PE X value tv) (hs : swapsWith value (some (.Subscript o i pos')) pos.line X.env = pure false) :
    PS X (.Assign [.Subscript o i pos'] value pos) (sPutT X.K X.prog X.w td ty tv) := by
  constructor
  intro pins s σ H D I h
  refine wpAny_Assign_Subscript ?_ hs
  refine thn (hv.run pins s σ H _ I h) fun r s1 ⟨v, H1, I1, rv, q1⟩ => ?_
  refine thn (ho.run pins s1 σ H1 _ I1 q1) fun u s2 ⟨x, H2, I2, rx, q2⟩ => ?_
  refine thn (hi.run pins s2 σ H2 _ I2 q2) fun iv s3 ⟨y, H3, I3, ry, a, b, ws, k, ex, ey, d, hk, h8, hl, q3⟩ => ?_
  subst ex
  subst ey
  obtain rfl : u = Value.ref a := rx
  obtain rfl : iv = Value.ref b := ry
  obtain ⟨z, lo, fw, xs, pr, xl, dd⟩ := d.full I3
  refine wpAny_setItem_heap (hsz := by omega) (units_in hu) ⟨nk_is I3 _ _ _ hk rfl, h8⟩ dd fun h' dd' sb => ?_
  exact ⟨σ, _, dt_write I3 d lo (by have := putW_len ws k b v; omega) (putW_few fw h8) (paired_put rv pr) dd' sb, q3⟩
/-! methods: the dict first, then what is handed in -/
def IsDt (P : Program) (w : World) (H : Hp) (a : Addr) : Prop := ∃ ws, H a = some (dtH P w a ws)
theorem isDt_at {pins : List (Addr × Obj)} {σ : L2.St} {H : Hp} {s : Shared} {a : Addr} (I : Inv X pins σ H s) (d : IsDt X.prog X.w H a) :
    s.TypeIs (.ref a) "dict" ∧ ∀ b, Value.ref a = .ref b → ∃ ob, s.heap.get? b = some ob ∧ ob.dict = none := by
  obtain ⟨ws, e⟩ := d
  obtain ⟨⟨z, lo, fw, xs, r, ob, es, ep, h1, h2, h3, h4, h5⟩, _, _⟩ := I.hok a _ e
  exact ⟨⟨ob, h1, h2.1⟩, fun b q => by cases q; exact ⟨ob, h1, h2.2.1⟩⟩
def tPop1T (K : PySem.W.Frag) (P : Program) (w : World) (td ty : TE) : TE := fun σ H Q => td σ H fun x H1 => ∃ a : Addr, x = .ref a ∧ IsDt P w H1 a ∧ ty σ H1 fun y H2 => ∃ (b : Addr) (ws : DtW) (k : NestedKey) (v : V), y = .ref b ∧ DtAt K P w H2 a ws ∧ NkV K H2 k y ∧ k.depth ≤ 8 ∧ valW ws k = some v ∧ Q v (upd H2 a (dtH P w a (dropW ws k)))
theorem pe_pop1T (hu : X.A.units + 64 < cLine) (ho : PE X o td) (he : PE X e ty) (m : M1 X o "pop" apos e cpos) : PE X (.Call (.Attribute o "pop" apos) [e] [] cpos) (tPop1T X.K X.prog X.w td ty) := by
  constructor
  intro pins s σ H Q I h
  refine wpAny_Call_method m.base m.few m.line PySem.F.plainAttrs_dict PySem.F.slot_dict_pop PySem.F.type_dict_pop ?_
  refine thn (ho.run pins s σ H _ I h) fun u s1 ⟨x, H1, I1, rx, a, ex, d, q1⟩ => ?_
  subst ex
  obtain rfl : u = Value.ref a := rx
  refine ⟨(isDt_at I1 d).1, (isDt_at I1 d).2, ?_⟩
  rw [m.trees]
  refine Calls.callWith_builtin rfl (Calls.evalArgs_plain (Calls.spliced_cons ?_))
  refine thn (he.run pins s1 σ H1 _ I1 q1) fun iv s2 ⟨y, H2, I2, ry, b, ws, k, v, ey, d2, hk, h8, hv, q2⟩ => Calls.spliced_nil ?_
  subst ey
  obtain rfl : iv = Value.ref b := ry
  obtain ⟨z, lo, fw, xs, r, xl, dd⟩ := d2.full I2
  obtain ⟨p, hp, rp⟩ := some_rel r hv
  refine call_pop_heap (hsz := by omega) (.inl rfl) (PySem.F.args_dict_pop_2 _ _) (units_in hu) ⟨nk_is I2 _ _ _ hk rfl, h8⟩ lo dd hp fun h' dd' sb => ?_
  exact ⟨v, _, dt_write I2 d2 lo (by have := dropW_len ws k; omega) (dropW_few fw) (paired_drop r) dd' sb, rp, q2⟩
/-- {} -/
theorem pe_newT : PE X (.Dict [] [] pos) (fun _ H Q => ∀ p, H p = none → Q (.ref p) (upd H p (dtH X.prog X.w p []))) := by
  constructor
  intro pins s σ H Q I h
  refine wpAny_Dict_empty ⟨.ref s.heap.objs.size, _, I.laid (t' := s.toks) (fun _ _ q => Heap.get?_push_of_some _ q) (Nat.le_refl _) (dt_laid ?_), rfl, h _ (I.hok.fresh (Nat.le_refl _))⟩
  exact ⟨Nat.zero_le _, beq_eq_false_iff_ne.mpr (Ne.symm (Nat.ne_of_lt I.big)), (fun _ h => nomatch h), [], .nil, _, #[], 0, Heap.get?_push_size _ rfl, ⟨rfl, rfl, rfl⟩, rfl, rfl, List.nodup_nil⟩
/-- list(d) -/
theorem call_listT (hc : X.calm = true) : CallR X (.type "list") (fun xs H Q => ∃ (a : Addr) (ws : DtW), xs = [V.ref a] ∧ H a = some (dtH X.prog X.w a ws) ∧ ∀ p, H p = none → Q (.ref p) (upd H p (.lst (ws.map fun z => V.ref z.2.1)))) := by
  intro pins s σ H xs us Q I r h
  obtain ⟨a, ws, rfl, hd, q⟩ := h
  obtain ⟨u, rfl, rx⟩ := vals1 r
  cases rx
  obtain ⟨⟨z, lo, fw, ks, pr, o, es, ep, ho, hx, hdt, he, hn⟩, _, _⟩ := I.hok a _ hd
  have l1 : es.size = ks.length := size_of_entries he
  have l2 : ws.length = ks.length := pr.length
  refine PySem.W.kdl_call (kdl_raw lo hx hdt) (I.ok.hd hc) ho (by omega) fun h' tk acc c kp e it => ?_
  have ea : acc.toList = (ws.map fun z => z.2.1).map Value.ref := by
    have hl : acc.toList.length = ws.length := by rw [Array.length_toList, it.1, l1, l2]
    refine List.ext_getElem? fun j => ?_
    rw [List.getElem?_map, List.getElem?_map]
    cases hj : ws[j]? with
    | none => rw [List.getElem?_eq_none (by have := List.getElem?_eq_none_iff.mp hj; omega)]; rfl
    | some y =>
      have hlt := (List.getElem?_eq_some_iff.mp hj).1
      obtain ⟨b, hb, e1, e2, _⟩ := L2.paired_get pr hj
      have hv : acc.toList[j]? = some acc.toList[j] := List.getElem?_eq_getElem (by omega)
      obtain ⟨en, hen, hv2⟩ := it.2 j _ (by rw [← Array.getElem?_toList]; exact hv)
      have qe := entry_at he j
      rw [hen, hb] at qe
      cases qe
      rw [hv, hv2]
      show some (Value.ref b.2.1) = some (Value.ref y.2.1)
      rw [e2]
  have rv : Vals (ws.map fun z => V.ref z.2.1) acc.toList := by
    rw [ea]
    have := vals_refs (ws.map fun z => z.2.1)
    rw [List.map_map] at this
    exact this
  refine ⟨.ref s.heap.objs.size, _, I.laid (t' := tk) (o := .lst (ws.map fun z => V.ref z.2.1)) kp (Nat.le_refl _) ?_, rfl, q _ (I.hok.fresh (Nat.le_refl _))⟩
  exact ⟨by rw [List.length_map]; exact z, acc.toList, c, rv, by rw [Array.toArray_toList]; exact e⟩
end
end DM
end
section
set_option maxHeartbeats 2000000
namespace DM
open PySem PySem.Spec PyProof.Rows L2
/-- the program and the world that the hashes of keys hang on -/
class HasPW where
  pw : Program × World
abbrev pw [h : HasPW] : Program × World := h.pw
def kyOf : D → Option NestedKey
  | .tup xs => match nkOf (.tup xs) with
    | some k => if k.depth ≤ 8 then some k else none
    | none => none
  | _ => none
theorem kyOf_is {d : D} {k : NestedKey} (h : kyOf d = some k) : nkOf d = some k ∧ k.depth ≤ 8 ∧ ∃ xs, d = .tup xs := by
  unfold kyOf at h
  split at h
  · rename_i xs
    split at h
    · rename_i j hj
      split at h
      · rename_i h8
        cases h
        exact ⟨hj, h8, xs, rfl⟩
      · cases h
    · cases h
  · cases h
def valT (kvs : List (D × D)) (k : NestedKey) : Option D := (kvs.find? fun p => decide (nkOf p.1 = some k)).map (·.2)
def putT (kvs : List (D × D)) (k : NestedKey) (e d : D) : List (D × D) := if (valT kvs k).isSome then kvs.map (fun p => if nkOf p.1 = some k then (p.1, d) else p) else kvs ++ [(e, d)]
def dropT (kvs : List (D × D)) (k : NestedKey) : List (D × D) := kvs.filter fun p => decide (nkOf p.1 ≠ some k)
/-- entries side by side -/
inductive Ent (K : PySem.W.Frag) (m : Mp) (H : Hp) : List (D × D) → DtW → Prop
  | nil : Ent K m H [] []
  | cons {p : D × D} {z : NestedKey × Addr × V} {kvs : List (D × D)} {ws : DtW} : nkOf p.1 = some z.1 → RD K m H p.1 (.ref z.2.1) → RD K m H p.2 z.2.2 → Ent K m H kvs ws → Ent K m H (p :: kvs) (z :: ws)
section
variable {K : PySem.W.Frag} {m : Mp} {H : Hp}
theorem RDs.app : ∀ {as bs : List D} {vs ws : List V}, as.length = vs.length → RDs K m H (as ++ bs) (vs ++ ws) → RDs K m H as vs ∧ RDs K m H bs ws
  | [], bs, [], ws, _, h => ⟨.nil, h⟩
  | a :: as, bs, v :: vs, ws, e, h => by
    cases h with
    | cons r rs =>
      obtain ⟨h1, h2⟩ := RDs.app (as := as) (vs := vs) (by simpa using e) rs
      exact ⟨.cons r h1, h2⟩
theorem Ent.of : ∀ {kvs : List (D × D)} {ws : DtW}, kvs.map (fun p => nkOf p.1) = ws.map (fun z => some z.1) → RDs K m H (kvs.map (·.1)) (ws.map fun z => V.ref z.2.1) → RDs K m H (kvs.map (·.2)) (ws.map (·.2.2)) → Ent K m H kvs ws
  | [], [], _, _, _ => .nil
  | p :: kvs, z :: ws, h, r1, r2 => by
    rw [List.map_cons, List.map_cons] at h r1 r2
    injection h with h1 h2
    cases r1 with
    | cons a as => cases r2 with
      | cons b bs => exact .cons h1 a b (Ent.of h2 as bs)
theorem Ent.to : ∀ {kvs : List (D × D)} {ws : DtW}, Ent K m H kvs ws → kvs.map (fun p => nkOf p.1) = ws.map (fun z => some z.1) ∧ RDs K m H (kvs.map (·.1)) (ws.map fun z => V.ref z.2.1) ∧ RDs K m H (kvs.map (·.2)) (ws.map (·.2.2))
  | _, _, .nil => ⟨rfl, .nil, .nil⟩
  | p :: kvs, z :: ws, .cons h a b t => by
    obtain ⟨h1, h2, h3⟩ := t.to
    exact ⟨by rw [List.map_cons, List.map_cons, h, h1], .cons a h2, .cons b h3⟩
theorem Ent.mono {m' : Mp} {H' : Hp} (e : Ext m H m' H') : ∀ {kvs : List (D × D)} {ws : DtW}, Ent K m H kvs ws → Ent K m' H' kvs ws
  | _, _, .nil => .nil
  | _, _, .cons h a b t => .cons h (RD.mono e _ _ a) (RD.mono e _ _ b) (t.mono e)
theorem Ent.len : ∀ {kvs : List (D × D)} {ws : DtW}, Ent K m H kvs ws → kvs.length = ws.length
  | _, _, .nil => rfl
  | _, _, .cons _ _ _ t => by rw [List.length_cons, List.length_cons, t.len]
theorem Ent.keys : ∀ {kvs : List (D × D)} {ws : DtW}, Ent K m H kvs ws → ∀ z ∈ ws, NkV K H z.1 (.ref z.2.1)
  | _, _, .nil, z, h => nomatch h
  | _, _, .cons h a b t, z, hz => by
    rcases List.mem_cons.mp hz with rfl | hz
    · exact RD.nk _ _ _ h a
    · exact t.keys z hz
theorem Ent.val {k : NestedKey} : ∀ {kvs : List (D × D)} {ws : DtW}, Ent K m H kvs ws → (∀ d, valT kvs k = some d → ∃ v, valW ws k = some v ∧ RD K m H d v) ∧ (valT kvs k = none → valW ws k = none)
  | _, _, .nil => ⟨fun d h => (nomatch h), fun _ => rfl⟩
  | p :: kvs, z :: ws, .cons h a b t => by
    by_cases e : z.1 = k
    · have a1 : valT (p :: kvs) k = some p.2 := by simp [valT, List.find?_cons, h, e]
      have a2 : valW (z :: ws) k = some z.2.2 := by simp [valW, List.find?_cons, e]
      rw [a1, a2]
      exact ⟨fun d hd => by cases hd; exact ⟨_, rfl, b⟩, fun hn => nomatch hn⟩
    · have a1 : valT (p :: kvs) k = valT kvs k := by simp [valT, List.find?_cons, h, e]
      have a2 : valW (z :: ws) k = valW ws k := by simp [valW, List.find?_cons, e]
      rw [a1, a2]
      exact t.val
theorem Ent.iso {k : NestedKey} {kvs : List (D × D)} {ws : DtW} (t : Ent K m H kvs ws) : (valT kvs k).isSome = (valW ws k).isSome := by
  cases e : valT kvs k with
  | none => rw [t.val.2 e]; rfl
  | some d =>
    obtain ⟨v, h, _⟩ := t.val.1 d e
    rw [h]
    rfl
theorem Ent.put {k : NestedKey} {e d : D} {b : Addr} {v : V} (he : nkOf e = some k) (re : RD K m H e (.ref b)) (rd : RD K m H d v) {kvs : List (D × D)} {ws : DtW} (t : Ent K m H kvs ws) : Ent K m H (putT kvs k e d) (putW ws k b v) := by
  have rep : ∀ {kvs : List (D × D)} {ws : DtW}, Ent K m H kvs ws → Ent K m H (kvs.map fun p => if nkOf p.1 = some k then (p.1, d) else p) (ws.map fun z => if z.1 = k then (z.1, z.2.1, v) else z) := by
    intro kvs ws t
    induction t with
    | nil => exact .nil
    | @cons p z kvs ws h a b t ih =>
      by_cases q : z.1 = k
      · have e1 : (if nkOf p.1 = some k then (p.1, d) else p) = (p.1, d) := if_pos (by rw [h, q])
        have e2 : (if z.1 = k then (z.1, z.2.1, v) else z) = (z.1, z.2.1, v) := if_pos q
        rw [List.map_cons, List.map_cons, e1, e2]
        exact .cons h a rd ih
      · have e1 : (if nkOf p.1 = some k then (p.1, d) else p) = p := if_neg (by rw [h]; exact fun y => q (Option.some.inj y))
        have e2 : (if z.1 = k then (z.1, z.2.1, v) else z) = z := if_neg q
        rw [List.map_cons, List.map_cons, e1, e2]
        exact .cons h a b ih
  have snoc : ∀ {kvs : List (D × D)} {ws : DtW}, Ent K m H kvs ws → Ent K m H (kvs ++ [(e, d)]) (ws ++ [(k, b, v)]) := by
    intro kvs ws t
    induction t with
    | nil => exact .cons he re rd .nil
    | cons h a b t ih => exact .cons h a b ih
  unfold putT putW
  rw [t.iso]
  split
  · exact rep t
  · exact snoc t
theorem Ent.drop {k : NestedKey} : ∀ {kvs : List (D × D)} {ws : DtW}, Ent K m H kvs ws → Ent K m H (dropT kvs k) (dropW ws k)
  | _, _, .nil => .nil
  | p :: kvs, z :: ws, .cons h a b t => by
    unfold dropT dropW
    by_cases e : z.1 = k
    · rw [List.filter_cons_of_neg (by simp [h, e]), List.filter_cons_of_neg (by simp [e])]
      exact t.drop
    · rw [List.filter_cons_of_pos (by simp [h, e]), List.filter_cons_of_pos (by simp [e])]
      exact .cons h a b t.drop
/-- what is known of the dict numbered n -/
theorem Rel.dt {A : AH} {n : Nat} {q : Addr} {PW : Program × World} {kvs : List (D × D)} (R : Rel K m A H) (hm : m.1[n]? = some q) (hA : A[n]? = some (.dt PW kvs)) : ∃ ws, DtAt K PW.1 PW.2 H q ws ∧ Ent K m H kvs ws := by
  obtain ⟨a, g1, ws, ⟨g2, g3⟩, g4⟩ := R.obj _ _ hA
  rw [hm] at g1; cases g1
  have hl : (kvs.map (·.1)).length = (ws.map fun z => V.ref z.2.1).length := by
    have := congrArg List.length g3
    rw [List.length_map, List.length_map] at this
    rw [List.length_map, List.length_map, this]
  obtain ⟨r1, r2⟩ := RDs.app hl g4
  have t := Ent.of g3 r1 r2
  exact ⟨ws, ⟨g2, t.keys⟩, t⟩
theorem Ent.objR {PW : Program × World} {q : Addr} {kvs : List (D × D)} {ws : DtW} (t : Ent K m H kvs ws) (h : H q = some (dtH PW.1 PW.2 q ws)) : ObjR K m H (.dt PW kvs) q := by
  obtain ⟨h1, h2, h3⟩ := t.to
  exact ⟨ws, ⟨h, h1⟩, RDs.append h2 h3⟩
end
section
variable [HasPW]
open Classical in
/-- the dict numbered n, if its hashes are of this program and world -/
noncomputable def dtOf (A : AH) (n : Nat) : Option (List (D × D)) := match A[n]? with
  | some (.dt PW kvs) => if PW = pw then some kvs else none
  | _ => none
theorem dtOf_is {A : AH} {n : Nat} {kvs : List (D × D)} (h : dtOf A n = some kvs) : A[n]? = some (.dt pw kvs) := by
  unfold dtOf at h
  split at h
  · rename_i PW ks e
    split at h
    · rename_i z
      cases h
      rw [e, z]
    · cases h
  · cases h
theorem dtOf_at {A : AH} {n : Nat} {kvs : List (D × D)} (h : A[n]? = some (.dt pw kvs)) : dtOf A n = some kvs := by
  unfold dtOf
  rw [h]
  exact if_pos rfl
noncomputable def fGetT : D → D → AH → Res D := fun d e A => match d with
  | .ref n => match dtOf A n, kyOf e with
    | some kvs, some k => (match valT kvs k with
      | some x => .ok x A
      | none => .no)
    | _, _ => .no
  | _ => .no
noncomputable def fInW (neg : Bool) : D → D → AH → Res D := fun e d A => match d with
  | .ref n => match dtOf A n, kyOf e with
    | some kvs, some k => .ok (.bl ((valT kvs k).isSome != neg)) A
    | _, _ => .no
  | _ => .no
noncomputable def mPutT (mv mo mi : ME) : MS := fun ρ A => lift (mv ρ A) ρ fun v A1 => lift (mo ρ A1) ρ fun d A2 => lift (mi ρ A2) ρ fun e A3 => match d with
  | .ref n => match dtOf A3 n, kyOf e with
    | some kvs, some k => if kvs.length < 16777216 then .nx ρ (A3.set n (.dt pw (putT kvs k e v))) else .no
    | _, _ => .no
  | _ => .no
noncomputable def mPop1T (mo me : ME) : ME := fun ρ A => (mo ρ A).bind fun d A1 => match d with
  | .ref n => match dtOf A1 n with
    | some _ => (me ρ A1).bind fun e A2 => match dtOf A2 n, kyOf e with
      | some kvs, some k => (match valT kvs k with
        | some x => .ok x (A2.set n (.dt pw (dropT kvs k)))
        | none => .no)
      | _, _ => .no
    | none => .no
  | _ => .no
def mDict0T : ME := fun ρ A => .ok (.ref A.length) (A ++ [.dt pw []])
noncomputable def fListT : List D → AH → Res D := fun ds A => match ds with
  | [.ref n] => match dtOf A n with
    | some kvs => .ok (.lst (kvs.map (·.1))) A
    | none => .no
  | _ => .no
end
section
variable [HasPW] {X : Cx} {W : WX} {a b e f o i : Expr} {ma mb mc me mf mo mi mv : ME} {ms : MA} {pos pos' p apos cpos : Pos}
theorem fInW_ok (neg : Bool) (hp : pw = (X.prog, X.w)) : OpD X.K (fInW neg) (rInW X.K X.prog X.w neg) := by
  intro W σ m A H x y d e Q R rx ry h
  unfold fInW at h
  split at h
  rotate_left
  · exact h.elim
  rename_i n
  split at h
  rotate_left
  · exact h.elim
  rename_i kvs k hA hk
  obtain ⟨hk1, h8, xs, rfl⟩ := kyOf_is hk
  cases ry with
  | ref hm =>
    obtain ⟨ws, dd, t⟩ := R.dt hm (dtOf_is hA)
    rw [hp] at dd
    have nk := RD.nk _ _ _ hk1 rx
    cases rx with
    | tup s rs =>
      refine ⟨_, ws, k, _, rfl, rfl, dd, nk, h8, ?_⟩
      rw [← t.iso]
      exact Post.here R (.bl _) h
theorem t_inW (hp : pw = (X.prog, X.w)) (hu : X.A.units + 64 < cLine) (ha : DE X W a ma) (hb : DE X W b mb) (hm : behindInMarks .In b = false := by first | exact nomark _ | rfl) : DT X W (.Compare a [.In] [b] pos) (mTst (mOp (fInW false) ma mb)) := t_cmp (op_inW hu) (fInW_ok false hp) ha hb hm
theorem d_getT (hp : pw = (X.prog, X.w)) (hu : X.A.units + 64 < cLine) (ha : DE X W a ma) (hb : DE X W b mb) (hs : NoSl b := by exact fun _ _ => rfl) : DE X W (.Subscript a b pos) (mOp fGetT ma mb) :=
  PEi (pe_getT hu ha hb hs) fun σ H Q ⟨m, A, ρ, R, E, h⟩ => tE.bind R E h fun m1 A1 d v H1 e1 R1 E1 r1 h1 => tE.bind R1 E1 h1 fun m2 A2 d2 v2 H2 e2 R2 E2 r2 h2 => by
    replace r1 := RD.mono e2 _ _ r1
    unfold fGetT at h2
    split at h2
    rotate_left
    · exact h2.elim
    rename_i n
    split at h2
    rotate_left
    · exact h2.elim
    rename_i kvs k hA hk
    split at h2
    rotate_left
    · exact h2.elim
    rename_i x hx
    obtain ⟨hk1, h8, xs, rfl⟩ := kyOf_is hk
    cases r1 with
    | ref hm =>
      obtain ⟨ws, dd, t⟩ := R2.dt hm (dtOf_is hA)
      rw [hp] at dd
      have nk := RD.nk _ _ _ hk1 r2
      obtain ⟨w, hw, rw'⟩ := t.val.1 x hx
      cases r2 with
      | tup s rs => exact ⟨_, _, ws, k, w, rfl, rfl, dd, nk, h8, hw, Post.here R2 rw' h2⟩
theorem s_putT (hp : pw = (X.prog, X.w)) (hu : X.A.units + 64 < cLine) (ho : DE X W a mo) (hi : DE X W b mb) (hv : DE X W e mv) (hs : swapsWith e (some (.Subscript a b pos')) pos.line X.env = pure false := by rfl) : DS X W (.Assign [.Subscript a b pos'] e pos) (mPutT mv mo mb) :=
  PSi (ps_putT hu ho hi hv hs) fun D0 σ H ⟨m, A, ρ, R, E, h⟩ => tE.lift R E h fun m1 A1 y v H1 e1 R1 E1 ry h1 => tE.lift R1 E1 h1 fun m2 A2 d w H2 e2 R2 E2 r2 h2 => tE.lift R2 E2 h2 fun m3 A3 i u H3 e3 R3 E3 r3 h3 => by
    replace r2 := RD.mono e3 _ _ r2
    replace ry := RD.mono e3 _ _ (RD.mono e2 _ _ ry)
    split at h3
    rotate_left
    · exact h3.elim
    rename_i n
    split at h3
    rotate_left
    · exact h3.elim
    rename_i kvs k hA hk
    split at h3
    rotate_left
    · exact h3.elim
    rename_i hlen
    obtain ⟨hk1, h8, xs, rfl⟩ := kyOf_is hk
    cases r2 with
    | ref hm =>
      rename_i q0
      obtain ⟨ws, dd, t⟩ := R3.dt hm (dtOf_is hA)
      have nk := RD.nk _ _ _ hk1 r3
      obtain ⟨bb, hb⟩ : ∃ bb, u = V.ref bb := by
        cases r3 with
        | tup s rs => exact ⟨_, rfl⟩
      subst hb
      let ⟨R4, e4⟩ := R3.write (H' := upd H3 q0 (dtH pw.1 pw.2 q0 (putW ws k bb v))) (o := .dt pw (putT kvs k (.tup xs) y)) hm (fun p u hp z => by rw [upd_ne hp]; exact z) fun ex => (Ent.put hk1 (RD.mono ex _ _ r3) (RD.mono ex _ _ ry) (t.mono ex)).objR upd_same
      have hl : ws.length < sizeLine := by rw [← t.len, sizeLine_eq]; exact hlen
      rw [hp] at dd R4 e4 h3
      exact ⟨q0, bb, ws, k, rfl, rfl, dd, nk, h8, hl, h3 m3 _ _ e4 R4 (E3.mono e4)⟩
theorem isDt_of {K : PySem.W.Frag} {m : Mp} {A : AH} {H : Hp} {n : Nat} {q : Addr} {kvs : List (D × D)} {P : Program} {w : World} (hp : pw = (P, w)) (R : Rel K m A H) (hm : m.1[n]? = some q) (hA : dtOf A n = some kvs) : IsDt P w H q := by
  obtain ⟨ws, dd, _⟩ := R.dt hm (dtOf_is hA)
  rw [hp] at dd
  exact ⟨ws, dd.at_⟩
theorem d_pop1T (hp : pw = (X.prog, X.w)) (hu : X.A.units + 64 < cLine) (ho : DE X W o mo) (he : DE X W e me) (m : M1 X o "pop" apos e cpos) : DE X W (.Call (.Attribute o "pop" apos) [e] [] cpos) (mPop1T mo me) :=
  PEi (pe_pop1T hu ho he m) fun σ H Q ⟨m, A, ρ, R, E, h⟩ => tE.bind R E h fun m1 A1 d v H1 e1 R1 E1 r1 h1 => by
    split at h1
    rotate_left
    · exact h1.elim
    rename_i n
    split at h1
    rotate_left
    · exact h1.elim
    rename_i kvs0 hA0
    cases r1 with
    | ref hm =>
      rename_i q0
      refine ⟨_, rfl, isDt_of hp R1 hm hA0, tE.bind R1 E1 h1 fun m2 A2 i u H2 e2 R2 E2 r2 h2 => ?_⟩
      split at h2
      rotate_left
      · exact h2.elim
      rename_i kvs k hA hk
      split at h2
      rotate_left
      · exact h2.elim
      rename_i x hx
      obtain ⟨hk1, h8, xs, rfl⟩ := kyOf_is hk
      have hm2 := e2.get hm
      obtain ⟨ws, dd, t⟩ := R2.dt hm2 (dtOf_is hA)
      have nk := RD.nk _ _ _ hk1 r2
      obtain ⟨w, hw, rw'⟩ := t.val.1 x hx
      obtain ⟨bb, hb⟩ : ∃ bb, u = V.ref bb := by
        cases r2 with
        | tup s rs => exact ⟨_, rfl⟩
      subst hb
      let ⟨R4, e4⟩ := R2.write (H' := upd H2 q0 (dtH pw.1 pw.2 q0 (dropW ws k))) (o := .dt pw (dropT kvs k)) hm2 (fun p u hp z => by rw [upd_ne hp]; exact z) fun ex => ((t.mono ex).drop).objR upd_same
      rw [hp] at dd R4 e4 h2
      exact ⟨bb, ws, k, w, rfl, dd, nk, h8, hw, h2 _ _ _ e4 R4 (RD.mono e4 _ _ rw')⟩
theorem d_dict0T (hp : pw = (X.prog, X.w)) : DE X W (.Dict [] [] pos) mDict0T :=
  PEi pe_newT fun σ H Q ⟨m, A, ρ, R, E, h⟩ => fun q hq => by
    let ⟨R1, e1⟩ := R.push (H' := upd H q (dtH pw.1 pw.2 q [])) (o := .dt pw []) hq (fun q' u z => by rw [upd_ne (ne_of_none z hq)]; exact z) fun e => Ent.nil.objR upd_same
    rw [hp] at R1 e1
    refine h _ _ _ e1 ?_ (.ref (by rw [← R.len]; simp))
    rw [hp]
    exact R1
theorem fListT_ok (hp : pw = (X.prog, X.w)) : CallD X.K fListT (fun xs H Q => ∃ (a : Addr) (ws : DtW), xs = [V.ref a] ∧ H a = some (dtH X.prog X.w a ws) ∧ ∀ p, H p = none → Q (.ref p) (upd H p (.lst (ws.map fun z => V.ref z.2.1)))) := by
  intro W σ m A H xs ds Q R hx h
  unfold fListT at h
  split at h
  rotate_left
  · exact h.elim
  rename_i n
  obtain ⟨v, rfl, r⟩ := hx.one
  split at h
  rotate_left
  · exact h.elim
  rename_i kvs hA
  cases r with
  | ref hm =>
    obtain ⟨ws, dd, t⟩ := R.dt hm (dtOf_is hA)
    rw [hp] at dd
    exact ⟨_, ws, rfl, dd.at_, fun p hp => lst_new R t.to.2.1 h p hp⟩
theorem d_listT (hp : pw = (X.prog, X.w)) (hc : X.calm = true) (hm : X.mg "list" = none) (ha : DA X W [e] ms) (hg : Gl X "list" := by rfl) (he : starEach [e] X.env = (false, eval e X.env) :: starEach [] X.env := by rfl) (hpl : (backTo pos (starEach [] X.env)).any (·.1) = false := by rfl) :
    DE X W (.Call (.Name "list" p) [e] [] pos) (mCall fListT ms) := d_callTy (call_listT hc) (fListT_ok hp) hg hm (by decide +kernel) ha (by decide) (by decide) he hpl
end
end DM
end
section
set_option maxHeartbeats 2000000
namespace DM
open PySem PySem.Spec PyProof.Rows L2 PySem.W
/-! ### sorted(xs): data of one kind -/
def isTup1 : PyData → Bool
  | .tuple (_ :: _) => true
  | _ => false
def noTup : PyData → Bool
  | .none => false
  | .tuple _ => false
  | _ => true
def sortK (ps : List PyData) : Bool := (ps.all fun p => ps.all fun q => alike p q) && (ps.all isTup1 || ps.all noTup)
theorem sortK_ok {ps : List PyData} (h : sortK ps = true) : AllAlike ps ∧ Sortable ps := by
  unfold sortK at h
  rw [Bool.and_eq_true, Bool.or_eq_true] at h
  refine ⟨fun d hd d' hd' => List.all_eq_true.mp (List.all_eq_true.mp h.1 d hd) d' hd', ?_⟩
  rcases h.2 with z | z
  · refine .inl fun d hd => ?_
    have := List.all_eq_true.mp z d hd
    unfold isTup1 at this
    split at this
    · exact ⟨_, _, rfl⟩
    · cases this
  · refine .inr fun d hd => ?_
    have := List.all_eq_true.mp z d hd
    exact ⟨fun e => by (rw [e] at this; cases this), fun xs e => by (rw [e] at this; cases this)⟩
/-- the order of pairs by what they are as data -/
def leP {α : Type} : α × PyData → α × PyData → Bool := dataLe false (·.2)
def srtP {α : Type} (xs : List α) (ps : List PyData) : List α := ((xs.zip ps).mergeSort leP).map (·.1)
theorem srtP_map {α β : Type} {f : α → β} (xs : List α) (ps : List PyData) : srtP (xs.map f) ps = (srtP xs ps).map f := by
  unfold srtP
  have e : (xs.map f).zip ps = (xs.zip ps).map fun z => (f z.1, z.2) := by
    rw [List.zip_map_left]
    rfl
  rw [e, ← List.map_mergeSort (r := leP) (s := leP) (f := fun z : α × PyData => (f z.1, z.2)) (fun a _ b _ => rfl), List.map_map, List.map_map]
  rfl
theorem srtP_perm {α : Type} {xs : List α} {ps : List PyData} (h : xs.length = ps.length) : (srtP xs ps).Perm xs := by
  unfold srtP
  refine (((xs.zip ps).mergeSort_perm leP).map (·.1)).trans (List.Perm.of_eq ?_)
  exact List.map_fst_zip (by omega)
/-- side by side stays side by side -/
theorem srtP_rds {K : PySem.W.Frag} {m : Mp} {H : Hp} {ds : List D} {vs : List V} {ps : List PyData} (r : RDs K m H ds vs) (h : ds.length = ps.length) : RDs K m H (srtP ds ps) (srtP vs ps) := by
  have hl := r.length
  obtain ⟨L, hL⟩ : ∃ L, L = ds.zip vs := ⟨_, rfl⟩
  have e1 : ds = L.map (·.1) := by rw [hL, List.map_fst_zip (by omega)]
  have e2 : vs = L.map (·.2) := by rw [hL, List.map_snd_zip (by omega)]
  have pw : ∀ z ∈ L, RD K m H z.1 z.2 := by
    have : ∀ {ds : List D} {vs : List V}, RDs K m H ds vs → ∀ z ∈ ds.zip vs, RD K m H z.1 z.2 := fun {ds} => by
      induction ds with
      | nil => intro vs r z hz; exact nomatch hz
      | cons d ds ih =>
        intro vs r z hz
        cases r with
        | cons a b =>
          rcases List.mem_cons.mp hz with rfl | hz
          · exact a
          · exact ih b z hz
    rw [hL]
    exact this r
  have lL : L.length = ps.length := by rw [hL, List.length_zip]; omega
  have pm := srtP_perm lL
  have back : ∀ M : List (D × V), (∀ z ∈ M, RD K m H z.1 z.2) → RDs K m H (M.map (·.1)) (M.map (·.2)) := fun M => by
    induction M with
    | nil => intro _; exact .nil
    | cons z M ih => intro hM; exact .cons (hM z List.mem_cons_self) (ih fun y hy => hM y (List.mem_cons_of_mem _ hy))
  rw [e1, e2, srtP_map, srtP_map]
  exact back _ fun z hz => pw z (pm.mem_iff.mp hz)
theorem dpAll_len {K : PySem.W.Frag} {H : Hp} : ∀ {vs : List V} {ps : List PyData}, DpAll K H vs ps → vs.length = ps.length
  | _, _, .nil => rfl
  | _, _, .cons _ t => by rw [List.length_cons, List.length_cons, dpAll_len t]
theorem depth_mem : ∀ {ps : List PyData} {p : PyData}, p ∈ ps → p.depth ≤ PyData.depthAll ps
  | q :: ps, p, h => by
    unfold PyData.depthAll
    rcases List.mem_cons.mp h with rfl | h
    · exact Nat.le_max_left _ _
    · exact Nat.le_trans (depth_mem h) (Nat.le_max_right _ _)
/-- vals beside what they are -/
theorem each_of_vals : ∀ {vs : List V} {us : List Value} {ps : List PyData}, Vals vs us → vs.length = ps.length → EachIs (fun (v : Value) (b : V × PyData) => RelV b.1 v) us (vs.zip ps)
  | _, _, _, .nil, _ => .nil
  | _, _, p :: ps, .cons r t, h => .cons r (each_of_vals t (by simpa using h))
theorem vals_of_each : ∀ {us : List Value} {bs : List (V × PyData)}, EachIs (fun (v : Value) (b : V × PyData) => RelV b.1 v) us bs → Vals (bs.map (·.1)) us
  | _, _, .nil => .nil
  | _, _, .cons r t => .cons r (vals_of_each t)
theorem zip_snd2 {α : Type} : ∀ {xs : List α} {ps : List PyData}, xs.length = ps.length → (xs.zip ps).map (fun z => z.2) = ps
  | [], [], _ => rfl
  | x :: xs, p :: ps, h => by
    rw [List.zip_cons_cons, List.map_cons, zip_snd2 (by simpa using h)]
theorem toPys_len : ∀ {xs : List D} {ps : List PyData}, toPys xs = some ps → xs.length = ps.length
  | [], ps, h => by cases h; rfl
  | x :: xs, ps, h => by
    unfold toPys at h
    split at h
    · rename_i p qs h1 h2
      cases h
      rw [List.length_cons, List.length_cons, toPys_len h2]
    · cases h
section
variable {X : Cx} {W : WX} {a b e : Expr} {ma mb : ME} {ms : MA} {pos p : Pos}
end
/-! ### sorted(d), d a dict with tuple keys -/
mutual
theorem reads_there {h : Heap} : ∀ (d : PyData) (v : Value) (as : List Addr), Reads h v d as → ∀ b ∈ as, ∃ o, h.get? b = some o
  | .none, v, as, r, b, hb => by cases r; exact nomatch hb
  | .bool _, v, as, r, b, hb => by cases r; exact nomatch hb
  | .int _, v, as, r, b, hb => by cases r; exact nomatch hb
  | .str _, v, as, r, b, hb => by cases r; exact nomatch hb
  | .list xs, v, as, r, b, hb => by
    cases r with
    | list h1 h2 h3 h4 =>
      rcases List.mem_cons.mp hb with rfl | hb
      · exact ⟨_, h1⟩
      · exact readsAll_there xs _ _ h4 b hb
  | .tuple xs, v, as, r, b, hb => by
    cases r with
    | tuple h1 h2 h3 h4 => exact readsAll_there xs _ _ h4 b hb
  | .dict kvs, v, as, r, b, hb => by
    cases r with
    | dict h1 h2 h3 h4 h5 =>
      rcases List.mem_append.mp hb with hb | hb
      · rcases List.mem_cons.mp hb with rfl | hb
        · exact ⟨_, h1⟩
        · exact readsKeys_there kvs _ _ h4 b hb
      · exact readsVals_there kvs _ _ h5 b hb
theorem readsKeys_there {h : Heap} : ∀ (kvs : List (PyData × PyData)) (vs : List Value) (as : List Addr), ReadsAll h vs (kvs.map (·.1)) as → ∀ b ∈ as, ∃ o, h.get? b = some o
  | [], vs, as, r, b, hb => by cases r; exact nomatch hb
  | (k, x) :: kvs, vs, as, r, b, hb => by
    cases r with
    | cons r t =>
      rcases List.mem_append.mp hb with hb | hb
      · exact reads_there k _ _ r b hb
      · exact readsKeys_there kvs _ _ t b hb
theorem readsVals_there {h : Heap} : ∀ (kvs : List (PyData × PyData)) (vs : List Value) (as : List Addr), ReadsAll h vs (kvs.map (·.2)) as → ∀ b ∈ as, ∃ o, h.get? b = some o
  | [], vs, as, r, b, hb => by cases r; exact nomatch hb
  | (k, x) :: kvs, vs, as, r, b, hb => by
    cases r with
    | cons r t =>
      rcases List.mem_append.mp hb with hb | hb
      · exact reads_there x _ _ r b hb
      · exact readsVals_there kvs _ _ t b hb
theorem readsAll_there {h : Heap} : ∀ (ds : List PyData) (vs : List Value) (as : List Addr), ReadsAll h vs ds as → ∀ b ∈ as, ∃ o, h.get? b = some o
  | [], vs, as, r, b, hb => by cases r; exact nomatch hb
  | d :: ds, vs, as, r, b, hb => by
    cases r with
    | cons r t =>
      rcases List.mem_append.mp hb with hb | hb
      · exact reads_there d _ _ r b hb
      · exact readsAll_there ds _ _ t b hb
end
theorem each_there {h : Heap} {L : Addr} (hL : h.objs.size ≤ L) {vs : List Value} {bs : List (V × PyData)} (e : EachIs (fun v b => ∃ as, Reads h v b.2 as) vs bs) : EachIs (fun v b => ∃ as, Reads h v b.2 as ∧ L ∉ as) vs bs := by
  induction e with
  | nil => exact .nil
  | cons r t ih =>
    obtain ⟨as, r⟩ := r
    refine .cons ⟨as, r, fun z => ?_⟩ ih
    obtain ⟨o, ho⟩ := reads_there _ _ _ r L z
    exact absurd (Nat.lt_of_lt_of_le (Heap.lt_size ho) hL) (Nat.lt_irrefl _)
def rSortTD (K : PySem.W.Frag) (P : Program) (w : World) : List V → Hp → VK → Prop := fun xs H Q => ∃ (a : Addr) (ws : DtW) (ps : List PyData), xs = [V.ref a] ∧ H a = some (dtH P w a ws) ∧ DpAll K H (ws.map fun z => V.ref z.2.1) ps ∧ AllAlike ps ∧ Sortable ps ∧ PyData.depthAll ps ≤ 32 ∧
  ∀ p, H p = none → Q (.ref p) (upd H p (.lst (srtP (ws.map fun z => V.ref z.2.1) ps)))
theorem cr_sortTD {X : Cx} (hc : X.calm = true) (hu : X.A.units + 64 < cLine) : CallR X (.builtin "sorted") (rSortTD X.K X.prog X.w) := by
  intro pins s σ H xs us Q I r h
  obtain ⟨a, ws, ps, rfl, hd, hp, hal, hso, h32, q⟩ := h
  obtain ⟨u, rfl, rx⟩ := vals1 r
  cases rx
  obtain ⟨⟨z, lo, fw, ks, pr, o, es, ep, ho, hx, hdt, he, hn⟩, _, _⟩ := I.hok a _ hd
  have l1 : es.size = ks.length := size_of_entries he
  have l2 : ws.length = ks.length := pr.length
  refine Calls.call_function_entry PyProof.Rows.kind_sorted PyProof.Rows.plain_sorted PyProof.Rows.entry_sorted (PyProof.Rows.args_sorted1 _) ?_
  unfold Builtin.«sorted»
  refine wpAny_bind (m := checkCount "sorted" 1 1 _) (wpAny_pure ?_)
  refine wpAny_bind (PySem.W.kdu_collect (A := X.A.in1) (kdl_raw lo hx hdt) (I.ok.hd hc) ho (by omega) fun h' tk acc hk hacc => ?_)
  have ea : acc.toList = (ws.map fun z => z.2.1).map Value.ref := by
    have hl : acc.toList.length = ws.length := by rw [Array.length_toList, hacc.1, l1, l2]
    refine List.ext_getElem? fun j => ?_
    rw [List.getElem?_map, List.getElem?_map]
    cases hj : ws[j]? with
    | none => rw [List.getElem?_eq_none (by have := List.getElem?_eq_none_iff.mp hj; omega)]; rfl
    | some y =>
      have hlt := (List.getElem?_eq_some_iff.mp hj).1
      obtain ⟨b, hb, e1, e2, _⟩ := L2.paired_get pr hj
      have hv : acc.toList[j]? = some acc.toList[j] := List.getElem?_eq_getElem (by omega)
      obtain ⟨en, hen, hv2⟩ := hacc.2 j _ (by rw [← Array.getElem?_toList]; exact hv)
      have qe := entry_at he j
      rw [hen, hb] at qe
      cases qe
      rw [hv, hv2]
      show some (Value.ref b.2.1) = some (Value.ref y.2.1)
      rw [e2]
  have rv : Vals (ws.map fun z => V.ref z.2.1) acc.toList := by
    rw [ea]
    have := vals_refs (ws.map fun z => z.2.1)
    rw [List.map_map] at this
    exact this
  obtain ⟨KS, hKS⟩ : ∃ KS, KS = ws.map fun z => V.ref z.2.1 := ⟨_, rfl⟩
  rw [← hKS] at hp rv q
  have hKl : KS.length ≤ sizeLine := by rw [hKS, List.length_map]; exact z
  have I1 : Inv X pins σ H { s with heap := h', toks := tk } := I.kept hk
  have hlen := dpAll_len hp
  obtain ⟨as, hr⟩ := Dp.readsAll I1 ps KS acc.toList hp rv
  have e2 := zip_snd2 hlen
  have hb : (KS.zip ps).length = KS.length := by rw [List.length_zip]; omega
  have hal2 : acc.toList.length = KS.length := rv.length.symm
  refine wpAny_bind (wpAny_newList ?_ (by rw [hal2]; exact hKl))
  obtain ⟨hp2, ehp2⟩ : ∃ g : Heap, g = h'.push (seqObj "list" acc.toList.toArray 0) := ⟨_, rfl⟩
  have kp2 : ∀ b o, h'.get? b = some o → hp2.get? b = some o := fun b o e => by rw [ehp2]; exact Heap.get?_push_of_some _ e
  have hoL : hp2.get? h'.objs.size = some (seqObj "list" acc.toList.toArray 0) := by rw [ehp2]; exact Heap.get?_push_size _ rfl
  have er : EachIs (fun v (b : V × PyData) => ∃ as, Reads hp2 v b.2 as ∧ h'.objs.size ∉ as) acc.toList (KS.zip ps) := by
    have e0 := readsAll_each (enc := fun z : V × PyData => z.2) (bs := KS.zip ps) (by rw [e2]; exact hr)
    exact (each_there (Nat.le_refl _) e0).mono fun _ _ ⟨as, r, n⟩ => ⟨as, PyProof.Rows.Reads.keeps kp2 r, n⟩
  show wpAny _ _ _ _ _ { s with heap := h'.push (seqObj "list" acc.toList.toArray 0), toks := tk }
  rw [← ehp2]
  refine wpAny_bind (wpAny_holding ?_)
  refine list_sort_data (s := { s with heap := hp2, toks := tk }) (β := V × PyData) (enc := (·.2)) (R := fun v b => RelV b.1 v) (bs := KS.zip ps) hoL (each_of_vals rv hlen) er ?_ ?_ ?_ ?_ fun out ho eo => ?_
  · rw [e2]; exact hal
  · rw [e2]; exact hso
  · rw [hb]; exact hKl
  · intro b hb
    have : b.2 ∈ ps := by rw [← e2]; exact List.mem_map.mpr ⟨b, hb, rfl⟩
    have := depth_mem this
    show X.A.units + 1 + 1 + _ < cLine
    omega
  · have rv2 := vals_of_each eo
    have hz2 : (srtP KS ps).length ≤ sizeLine := by rw [(srtP_perm hlen).length_eq]; exact hKl
    obtain ⟨n, hn⟩ := PyProof.Rows.sortedHeap_at (vs := acc.toList) (out := out.toArray) hoL
    refine wpAny_pure ⟨_, rfl, .ref h'.objs.size, upd H h'.objs.size (.lst (srtP KS ps)), I1.laid (t' := tk) (fun b u e => ?_) (Nat.le_refl _) ⟨hz2, out, n, rv2, hn⟩, rfl, q _ (I1.hok.fresh (Nat.le_refl _))⟩
    have hb : b < h'.objs.size := Heap.lt_size e
    refine (PyProof.Rows.sortedHeap_old (Nat.ne_of_lt hb) ?_).trans (kp2 b u e)
    rw [ehp2, size_push']
    exact Nat.lt_succ_of_lt hb
section
variable [HasPW] {X : Cx} {W : WX} {a b e : Expr} {ma mb : ME} {ms : MA} {pos p : Pos}
noncomputable def fSortTD : List D → AH → Res D := fun ds A => match ds with
  | [.ref n] => (match dtOf A n with
    | some kvs => (match toPys (kvs.map (·.1)) with
      | some ps => if sortK ps = true ∧ PyData.depthAll ps ≤ 32 then .ok (.lst (srtP (kvs.map (·.1)) ps)) A else .no
      | none => .no)
    | none => .no)
  | _ => .no
theorem fSortTD_ok (hp : pw = (X.prog, X.w)) : CallD X.K fSortTD (rSortTD X.K X.prog X.w) := by
  intro W σ m A H xs ds Q R hx h
  unfold fSortTD at h
  split at h
  rotate_left
  · exact h.elim
  obtain ⟨v, rfl, r⟩ := hx.one
  split at h
  rotate_left
  · exact h.elim
  rename_i kvs hA
  split at h
  rotate_left
  · exact h.elim
  rename_i ps hps
  split at h
  rotate_left
  · exact h.elim
  rename_i hz
  cases r with
  | ref hm =>
    obtain ⟨ws, dd, t⟩ := R.dt hm (dtOf_is hA)
    rw [hp] at dd
    have rs := t.to.2.1
    exact ⟨_, ws, ps, rfl, dd.at_, RDs.dp _ _ _ rs hps, (sortK_ok hz.1).1, (sortK_ok hz.1).2, hz.2, lst_new R (srtP_rds rs (toPys_len hps)) h⟩
theorem d_sortTD (hp : pw = (X.prog, X.w)) (hc : X.calm = true) (hu : X.A.units + 64 < cLine) (hm : X.mg "sorted" = none) (ha : DA X W [e] ms) (hg : Gl X "sorted" := by rfl) (he : starEach [e] X.env = (false, eval e X.env) :: starEach [] X.env := by rfl) (hpl : (backTo pos (starEach [] X.env)).any (·.1) = false := by rfl) :
    DE X W (.Call (.Name "sorted" p) [e] [] pos) (mCall fSortTD ms) := d_callB (cr_sortTD hc hu) (fSortTD_ok hp) hg hm (by decide +kernel) ha (by decide) (by decide) he hpl
end
/-! ### a <= b of tuples of texts -/
def lexLeS : List Str → List Str → Bool
  | [], _ => true
  | _ :: _, [] => false
  | x :: xs, y :: ys => if x = y then lexLeS xs ys else sLe x y
theorem lexLeS_at {N M : List Str} : ∀ (ns ms : List Str) (i : Nat) (z : Bool), N.drop i = ns → M.drop i = ms → z = decide (ns.length ≤ ms.length) → Ob.lexAt (fun j => decide (N.getD j "" = M.getD j "")) (fun j => sLe (N.getD j "") (M.getD j "")) z i (min ns.length ms.length) = lexLeS ns ms
  | [], ms, i, z, _, _, hz => by
    rw [List.length_nil, Nat.zero_min, Ob.lexAt_zero, hz]
    exact decide_eq_true (Nat.zero_le _)
  | x :: ns, [], i, z, _, _, hz => by
    rw [List.length_nil, Nat.min_zero, Ob.lexAt_zero, hz]
    exact decide_eq_false (by simp)
  | x :: ns, y :: ms, i, z, h1, h2, hz => by
    have dr : ∀ {L : List Str} {u : Str} {us : List Str}, L.drop i = u :: us → L.getD i "" = u ∧ L.drop (i + 1) = us := fun {L u us} e => by
      refine ⟨?_, by rw [← List.drop_drop, e]; rfl⟩
      have : (L.drop i)[0]? = L[i]? := by rw [List.getElem?_drop]; rfl
      rw [e] at this
      rw [List.getD_eq_getElem?_getD, ← this]
      rfl
    have a := dr h1
    have b := dr h2
    have hm : min (x :: ns).length (y :: ms).length = min ns.length ms.length + 1 := by rw [List.length_cons, List.length_cons]; omega
    rw [hm, Ob.lexAt_succ, a.1, b.1]
    unfold lexLeS
    by_cases e : x = y
    · rw [if_pos e, if_pos (decide_eq_true e)]
      refine lexLeS_at ns ms (i + 1) z a.2 b.2 ?_
      rw [hz, List.length_cons, List.length_cons]
      congr 1
      exact propext (by omega)
    · rw [if_neg e, if_neg (by simp [e])]
def rLeTS (K : PySem.W.Frag) : R2 := fun x y H Q => ∃ (a b : Addr) (ns ms : List Str), x = .ref a ∧ y = .ref b ∧ SqT K H a (ns.map V.str) ∧ SqT K H b (ms.map V.str) ∧ Q (.bl (lexLeS ns ms)) H
theorem strs_at_ix {ns : List Str} {its : List Value} (r : Vals (ns.map V.str) its) (j : Nat) (h : j < its.toArray.size) : ∃ t, its.toArray[j] = .str (ns.getD j "") t := by
  have hl := r.length
  rw [List.length_map] at hl
  rw [List.size_toArray] at h
  have h1 : (ns.map V.str)[j]? = some (.str (ns.getD j "")) := by
    rw [List.getElem?_map, List.getD_eq_getElem?_getD, List.getElem?_eq_getElem (by omega)]
    rfl
  obtain ⟨u, hu, ru⟩ := r.get h1
  obtain ⟨t, e⟩ := (show ∃ t, u = Value.str (ns.getD j "") t from ru)
  refine ⟨t, ?_⟩
  rw [← e]
  have := List.getElem?_eq_some_iff.mp hu
  obtain ⟨_, q⟩ := this
  simpa using q
theorem op_leTS {X : Cx} (hu : X.A.units < cLine) : OpR X (compareOp .LtE) (rLeTS X.K) := by
  intro pins s σ H x y v u Q I rx ry h
  obtain ⟨a, b, ns, ms, rfl, rfl, ha, hb, q⟩ := h
  cases rx
  cases ry
  obtain ⟨its, r1, p1, _⟩ := I.tuple ha
  obtain ⟨its2, r2, p2, _⟩ := I.tuple hb
  have e1 : its.toArray.size = ns.length := by rw [List.size_toArray, ← r1.length, List.length_map]
  have e2 : its2.toArray.size = ms.length := by rw [List.size_toArray, ← r2.length, List.length_map]
  have R := Ob.RcOp.tuples_le (A := X.A) (s := s) (e := fun j => decide (ns.getD j "" = ms.getD j "")) (r := fun j => sLe (ns.getD j "") (ms.getD j "")) p1 p2 hu (fun j h1 h2 => by
    obtain ⟨t, et⟩ := strs_at_ix r1 j h1
    obtain ⟨t', et'⟩ := strs_at_ix r2 j h2
    rw [et, et']
    have z : (ns.getD j "" == ms.getD j "") = decide (ns.getD j "" = ms.getD j "") := by
      by_cases q : ns.getD j "" = ms.getD j ""
      · rw [decide_eq_true q]; exact beq_iff_eq.mpr q
      · rw [decide_eq_false q]; exact beq_eq_false_iff_ne.mpr q
    rw [← z]
    exact SeqAt.EqAt.str_str _ _ _ _) (fun j h1 h2 _ => by
    obtain ⟨t, et⟩ := strs_at_ix r1 j h1
    obtain ⟨t', et'⟩ := strs_at_ix r2 j h2
    rw [et, et']
    exact fun _ _ _ _ h => PySem.P.le_str h)
  rw [e1, e2, lexLeS_at ns ms 0 _ rfl rfl rfl] at R
  have z : wpAny (model X.prog X.w) X.A (compareOp .LtE (.ref a) (.ref b)) (EP X pins σ Q) X.xe s := R X.prog X.w X.xe (EP X pins σ Q) ⟨.bl _, H, I, rfl, q⟩
  exact z
def fLeTS : D → D → AH → Res D := fun d e A => match d, e with
  | .tup xs, .tup ys => (match strsOf xs, strsOf ys with
    | some ns, some ms => .ok (.bl (lexLeS ns ms)) A
    | _, _ => .no)
  | _, _ => .no
theorem fLeTS_ok {K : PySem.W.Frag} : OpD K fLeTS (rLeTS K) := by
  intro W σ m A H x y d e Q R hx hy h
  unfold fLeTS at h
  split at h
  rotate_left
  · exact h.elim
  split at h
  rotate_left
  · exact h.elim
  rename_i ns ms h1 h2
  cases hx with
  | tup s1 rs1 => cases hy with
    | tup s2 rs2 =>
      have e1 := strs_rd h1 rs1
      have e2 := strs_rd h2 rs2
      subst e1
      subst e2
      exact ⟨_, _, ns, ms, rfl, rfl, s1.sq, s2.sq, Post.here R (.bl _) h⟩
section
variable {X : Cx} {W : WX} {a b : Expr} {ma mb : ME} {pos : Pos}
theorem t_leTS (hu : X.A.units + 64 < cLine) (ha : DE X W a ma) (hb : DE X W b mb) (hm : behindInMarks .LtE b = false := by first | exact nomark _ | rfl) : DT X W (.Compare a [.LtE] [b] pos) (mTst (mOp fLeTS ma mb)) := t_cmp (op_leTS (by omega)) fLeTS_ok ha hb hm
end
end DM
end
section
set_option maxHeartbeats 2000000
namespace DM
open PySem PySem.Spec PyProof.Rows L2
section
variable {X : Cx} {W : WX} {a b e : Expr} {ma mb : ME} {ms : MA} {p pos : Pos}
/-! ### enumerate of a list or a tuple -/
def mEnX (ms : MA) : MI := fun ρ A => (ms ρ A).bind fun ds A1 => match ds with
  | [d] => (match seqOf A1 d with
    | some _ => .ok (.en d) A1
    | none => .no)
  | _ => .no
theorem enX_is (ms : MA) (ρ : DM.Env) (A : AH) : mEnX ms ρ A = mEn ms ρ A ∨ mEnX ms ρ A = mEnT ms ρ A := by
  cases hr : ms ρ A with
  | ok ds A1 =>
    unfold mEnX mEn mEnT
    simp only [hr, bind_ok]
    match ds with
    | [d] =>
      cases ht : isTup d with
      | false =>
        left
        show _ = if isTup d = true then _ else _
        rw [ht, if_neg Bool.false_ne_true]
        all_goals rfl
      | true =>
        right
        cases d with
        | tup xs => rfl
        | _ => cases ht
    | [] => exact .inl rfl
    | _ :: _ :: _ => exact .inl rfl
  | exc C fs A1 => left; unfold mEnX mEn; rw [hr]; rfl
  | no => left; unfold mEnX mEn; rw [hr]; rfl
theorem i_enX {elts : List Expr} {kk : Nat} {tpos : Pos} (hm : X.mg "enumerate" = none) (ha : DA X W [e] ms) (hg : Gl X "enumerate" := by rfl) (hs : starEach [e] X.env = [(false, eval e X.env)] := by rfl) : DI X W (.Tuple elts kk tpos) (.Call (.Name "enumerate" p) [e] [] pos) (mEnX ms) := by
  refine PIor (i_en hm ha hg hs) (i_enT hm ha hg hs) fun σ H Q ⟨m, A, ρ, R, E, h⟩ => ?_
  rcases enX_is ms ρ A with z | z
  · exact .inl ⟨m, A, ρ, R, E, by rw [← z]; exact h⟩
  · exact .inr ⟨m, A, ρ, R, E, by rw [← z]; exact h⟩
/-! ### xs + ys, the new list changes later -/
def fAddN : D → D → AH → Res D := fun d e A => if isTup d = true ∨ isTup e = true then .no else (match seqOf A d, seqOf A e with
  | some xs, some ys => if xs.length + ys.length ≤ 16777216 then .ok (.ref A.length) (A ++ [.lst (xs ++ ys)]) else .no
  | _, _ => .no)
theorem fAddN_ok {K : PySem.W.Frag} : OpD K fAddN (rCatL K) := by
  intro W σ m A H x y d e Q R hx hy h
  have sz : (sizeLine : Nat) = 16777216 := sizeLine_eq
  unfold fAddN at h
  split at h
  · exact h.elim
  rename_i ht
  split at h
  rotate_left
  · exact h.elim
  rename_i xs ys h1 h2
  split at h
  rotate_left
  · exact h.elim
  rename_i hz
  obtain ⟨q1, us, rfl, r1, z1⟩ := seqOf_is R hx h1
  obtain ⟨q2, vs, rfl, r2, z2⟩ := seqOf_is R hy h2
  have s1 : SqL K H q1 us := by
    rcases z1 with ⟨rfl, _⟩ | ⟨_, z⟩
    · exact absurd (.inl rfl) ht
    · exact z
  have s2 : SqL K H q2 vs := by
    rcases z2 with ⟨rfl, _⟩ | ⟨_, z⟩
    · exact absurd (.inr rfl) ht
    · exact z
  exact ⟨_, _, us, vs, rfl, rfl, s1, s2, by rw [sz, ← r1.length, ← r2.length]; exact hz, ref_new R (r1.append r2) h⟩
theorem d_addN (ha : DE X W a ma) (hb : DE X W b mb) : DE X W (.BinOp a .Add b pos) (mOp fAddN ma mb) := d_op op_catL fAddN_ok ha hb
end
end DM
end
section
set_option maxHeartbeats 2000000
namespace DM
open PySem PySem.Spec PyProof.Rows L2
/-! ### xs.remove(text) -/
/-- a list of texts without the one at a place -/
theorem cut_strs : ∀ (ns : List Str) (j : Nat), (ns.map V.str).eraseIdx j = (ns.eraseIdx j).map V.str
  | [], j => by cases j <;> rfl
  | n :: ns, j => by
    cases j with
    | zero => rfl
    | succ j => exact congrArg (V.str n :: ·) (cut_strs ns j)
/-- the text that stands at a place -/
theorem text_at {ns : List Str} {its : List Value} (r : Vals (ns.map V.str) its) {i : Nat} (h : i < its.length) : ∃ (hn : i < ns.length) (t : Tok), its[i] = Value.str ns[i] t := by
  have hl : ns.length = its.length := by rw [← r.length, List.length_map]
  have hn : i < ns.length := by omega
  obtain ⟨u, hu, t, e⟩ := r.get (i := i) (x := .str ns[i]) (by rw [List.getElem?_map, List.getElem?_eq_getElem hn]; rfl)
  exact ⟨hn, t, by rw [← e]; exact (List.getElem?_eq_some_iff.mp hu).2⟩
section
variable {X : Cx} {W : WX} {o e : Expr} {mo me : ME} {ms : MA} {apos cpos : Pos}
def rRemS : V → List V → Hp → VK → Prop := fun x xs H Q => ∃ (l : Addr) (ns : List Str) (k : Str), x = .ref l ∧ xs = [.str k] ∧ H l = some (.lst (ns.map V.str)) ∧ k ∈ ns ∧ Q .non (upd H l (.lst ((ns.erase k).map V.str)))
theorem mt_remS : MtR X "list.remove" rRemS := by
  intro pins s σ H x xs v us Q I rx rs h
  obtain ⟨l, ns, k, rfl, rfl, hl, hk, q⟩ := h
  cases rx
  obtain ⟨u, rfl, t, rfl⟩ := vals1 rs
  obtain ⟨z, its, n, r, _, ob⟩ := I.lstM hl
  have len : its.length = ns.length := by rw [← r.length, List.length_map]
  have hj : ns.idxOf k < ns.length := List.idxOf_lt_length_of_mem hk
  have same : ∀ y ∈ its.toArray, MeetsSeq.EqGives y (.str k t) (isStrOf k y) := fun y hy => eq_isStrOf k t (strsAre_of r) y (by simpa using hy)
  have here : ∀ (i : Nat) (hi : i < its.toArray.size), isStrOf k its.toArray[i] = (ns.getD i "" == k) := fun i hi => by
    obtain ⟨hn, t2, e⟩ := text_at r (i := i) (by simpa using hi)
    have e2 : its.toArray[i] = Value.str ns[i] t2 := e
    rw [e2, List.getD_eq_getElem?_getD, List.getElem?_eq_getElem hn]
    rfl
  have hjs : ns.idxOf k < its.toArray.size := by rw [List.size_toArray]; omega
  have hit : isStrOf k its.toArray[ns.idxOf k] = true := by
    rw [here _ hjs, List.getD_eq_getElem?_getD, List.getElem?_eq_getElem hj, Option.getD_some, List.getElem_idxOf hj]
    exact beq_self_eq_true k
  have before : ∀ (i : Nat) (hi : i < its.toArray.size), i < ns.idxOf k → isStrOf k its.toArray[i] = false := fun i hi hij => by
    have hn : i < ns.length := by omega
    rw [here i hi, List.getD_eq_getElem?_getD, List.getElem?_eq_getElem hn]
    exact List.not_of_lt_findIdx (p := fun y => y == k) hij
  have small : its.toArray.size ≤ sizeLine := by
    rw [List.length_map] at z
    rw [List.size_toArray]
    omega
  have rest : Vals ((ns.erase k).map V.str) (its.eraseIdx (ns.idxOf k)) := by
    have w := r.eraseIdx (ns.idxOf k)
    rw [cut_strs] at w
    rw [List.erase_eq_eraseIdx_of_idxOf rfl]
    exact w
  refine call_meets PySem.F.slot_list_remove ⟨_, ob, rfl⟩ PySem.F.entry_list_remove (PySem.F.args_list_remove_2 _ _) (MeetsSeq.list_remove l its.toArray n (.str k t) (isStrOf k) same (ns.idxOf k) hjs hit before small) ⟨ob, ?_⟩
  exact ⟨.non, _, I.lset (its' := its.eraseIdx (ns.idxOf k)) hl ob (by simp) rest (by rw [List.length_map] at z ⊢; have := List.length_erase_le (a := k) (l := ns); omega), rfl, q⟩
/-- one text out of a list of texts that holds it -/
def fRemS : Nat → List D → AH → Res D := fun n ds A => match ds with
  | [.str k] => match A[n]? with
    | some (.lst xs) => match strsOf xs with
      | some ns => if k ∈ ns then .ok .non (A.set n (.lst ((ns.erase k).map D.str))) else .no
      | none => .no
    | _ => .no
  | _ => .no
theorem d_remS (ho : DE X W o mo) (ha : DA X W [e] ms) (hb1 : attributeBase o "remove" X.env (eval o X.env) = eval o X.env := by rfl)
    (hfew : ((backTo cpos (starEach [e] X.env)).all (fun x => !x.1) && (backToKw cpos (keywordEach [] X.env)).all (fun x => x.1.isSome)
      && decide (([e] : List Expr).length + ([] : List Keyword).length + (if ([] : List Keyword).isEmpty then 0 else 1) < 30)) = true := by rfl)
    (hline : (apos.endLine == cpos.line) = true := by rfl) (hs : starEach [e] X.env = (false, eval e X.env) :: starEach [] X.env := by rfl) (hpl : (backTo cpos (starEach [] X.env)).any (·.1) = false := by rfl) :
    DE X W (.Call (.Attribute o "remove" apos) [e] [] cpos) (mMet fRemS mo ms) :=
  PEi (pe_bm PySem.F.plainAttrs_list PySem.F.slot_list_remove PySem.F.type_list_remove mt_remS ho ha hb1 hfew hline hs hpl) fun σ H Q ⟨m, A, ρ, R, E, h⟩ => tE.bind R E h fun m1 A1 d v H1 e1 R1 E1 r1 h1 => by
    split at h1
    rotate_left
    · exact h1.elim
    rename_i n
    split at h1
    rotate_left
    · exact h1.elim
    rename_i xs0 hA0
    cases r1 with
    | ref hm =>
      rename_i q
      obtain ⟨ws, hw, _⟩ := R1.lst hm hA0
      refine ⟨.inl ⟨rfl, ws, .inl (.inl hw)⟩, tA.bind R1 E1 h1 fun m2 A2 ds vs H2 e2 R2 E2 r2 h2 => ?_⟩
      unfold fRemS at h2
      split at h2
      rotate_left
      · exact h2.elim
      rename_i k
      obtain ⟨y, rfl, ry⟩ := r2.one
      cases ry
      split at h2
      rotate_left
      · exact h2.elim
      rename_i xs hA
      split at h2
      rotate_left
      · exact h2.elim
      rename_i ns hn
      split at h2
      rotate_left
      · exact h2.elim
      rename_i hk
      have hm2 := e2.get hm
      obtain ⟨us, h4, rw4⟩ := R2.lst hm2 hA
      have e := strs_rd hn rw4
      subst e
      exact ⟨q, ns, k, rfl, rfl, h4, hk, wr_lst R2 hm2 (rds_strs _) .non h2⟩
end
end DM
end
section
namespace GR
open PySem PySem.Spec PyProof.Rows L2 DM
variable [HasPW]
noncomputable def f_is_integer : List D → AH → Res D := mFun 1 (mRet (mAndV (mCall fIsi (mCons (mVar 0) (mCons (mK (.ty "int")) (mNil)))) (mNotV (mCall fIsi (mCons (mVar 0) (mCons (mK (.ty "bool"))
    (mNil)))))))
noncomputable def f_is_sequence : List D → AH → Res D := mFun 1 (mRet (mCall fIsiT (mCons (mVar 0) (mCons (mTup (mCons (mK (.ty "list")) (mCons (mK (.ty "tuple")) (mNil)))) (mNil)))))
noncomputable def f_is_tuple_of : List D → AH → Res D := mFun 2 (mRet (mAndV (mCall fIsi (mCons (mVar 0) (mCons (mK (.ty "tuple")) (mNil)))) (mOp (fEq false) (mCall fLen (mCons (mVar 0) (mNil))) (mVar
    1))))
noncomputable def f_is_node : List D → AH → Res D := mFun 2 (mRet (mAndV (mCall fIsi (mCons (mVar 0) (mCons (mK (.ty "str")) (mNil)))) (mAndV (mChn fLe fLe (mK (.int 1)) (mCall fLen (mCons (mVar 0)
    (mNil))) (mK (.int 4))) (mCall fAll (mCons (mLc false (mStrI (mVar 0)) (.nm 1) (mYes) (mOp (fInC false) (mVar 1) (mK (.str "0123456789abcdefghijklmnopqrstuvwxyz"))) [1]) (mNil))))))
noncomputable def f_is_kind : List D → AH → Res D := mFun 1 (mRet (mCallF 1 f_is_node (mCons (mVar 0) (mNil))))
noncomputable def f_is_price : List D → AH → Res D := mFun 1 (mRet (mAndV (mCallF 1 f_is_integer (mCons (mVar 0) (mNil))) (mChn fLe fLe (mK (.int 0)) (mVar 0) (mK (.int 1000000)))))
noncomputable def b_line_fault1 : MS := (mIfS (mNot (mTst (mCallF 1 f_is_node (mCons (mVar 2) (mNil))))) (mRet (mVar 1)) (mNext))
noncomputable def f_line_fault : List D → AH → Res D := mFun 3 (mSeq (mIfS (mNot (mTst (mCallF 2 f_is_tuple_of (mCons (mVar 0) (mCons (mK (.int 3)) (mNil)))))) (mRet (mNeg (mK (.int 1)))) (mNext))
    (mSeq (mFor (mEnX (mCons (mVar 0) (mNil))) (.tp [.nm 1, .nm 2]) b_line_fault1) (mRet (mK .non))))
noncomputable def f_is_line : List D → AH → Res D := mFun 1 (mRet (mOp (fIsN false) (mCallF 1 f_line_fault (mCons (mVar 0) (mNil))) (mK .non)))
noncomputable def f_need_line : List D → AH → Res D := mFun 2 (mSeq (mSet 1 (mCallF 1 f_line_fault (mCons (mVar 0) (mNil)))) (mIfS (mTst (mOp (fIsN true) (mVar 1) (mK .non))) (mRaise "InvalidLine" "at"
    (mVar 1)) (mNext)))
noncomputable def b_graph_fault1 : MS := (mSeq (mIfS (mOr (mNot (mTst (mCallF 2 f_is_tuple_of (mCons (mVar 5) (mCons (mK (.int 2)) (mNil)))))) (mOr (mNot (mTst (mCallF 1 f_is_line (mCons (mOp fIx (mVar
    5) (mK (.int 0))) (mNil))))) (mNot (mTst (mCallF 1 f_is_price (mCons (mOp fIx (mVar 5) (mK (.int 1))) (mNil))))))) (mRet (mOp fAdd (mCall fLen (mCons (mVar 1) (mNil))) (mVar 3))) (mNext)) (mIfS
    (mOr (mTst (mOp (fInD true) (mOp fIx (mOp fIx (mVar 5) (mK (.int 0))) (mK (.int 0))) (mVar 1))) (mOr (mTst (mOp (fInD true) (mOp fIx (mOp fIx (mVar 5) (mK (.int 0))) (mK (.int 2))) (mVar 1))) (mAnd
    (mTst (mOp fGt (mVar 3) (mK (.int 0)))) (mTst (mOp fLeTS (mOp fIx (mVar 5) (mK (.int 0))) (mOp fIx (mOp fIx (mVar 2) (mOp fSub (mVar 3) (mK (.int 1)))) (mK (.int 0)))))))) (mRet (mOp fAdd (mCall
    fLen (mCons (mVar 1) (mNil))) (mVar 3))) (mNext)))
noncomputable def b_graph_fault2 : MS := (mIfS (mOr (mNot (mTst (mCallF 1 f_is_node (mCons (mVar 4) (mNil))))) (mAnd (mTst (mOp fGt (mVar 3) (mK (.int 0)))) (mTst (mOp fLeX (mVar 4) (mOp fIx (mVar 1)
    (mOp fSub (mVar 3) (mK (.int 1)))))))) (mRet (mVar 3)) (mNext))
noncomputable def f_graph_fault : List D → AH → Res D := mFun 6 (mSeq (mIfS (mOr (mNot (mTst (mCallF 2 f_is_tuple_of (mCons (mVar 0) (mCons (mK (.int 2)) (mNil)))))) (mOr (mNot (mTst (mCall fIsi (mCons
    (mOp fIx (mVar 0) (mK (.int 0))) (mCons (mK (.ty "tuple")) (mNil)))))) (mNot (mTst (mCall fIsi (mCons (mOp fIx (mVar 0) (mK (.int 1))) (mCons (mK (.ty "tuple")) (mNil)))))))) (mRet (mNeg (mK (.int
    1)))) (mNext)) (mSeq (mAsg (.tp [.nm 1, .nm 2]) (mVar 0)) (mSeq (mFor (mEnT (mCons (mVar 1) (mNil))) (.tp [.nm 3, .nm 4]) b_graph_fault2) (mSeq (mFor (mEnT (mCons (mVar 2) (mNil))) (.tp [.nm 3, .nm
    5]) b_graph_fault1) (mRet (mK .non))))))
noncomputable def f_is_graph : List D → AH → Res D := mFun 1 (mRet (mOp (fIsN false) (mCallF 1 f_graph_fault (mCons (mVar 0) (mNil))) (mK .non)))
noncomputable def f_need_graph : List D → AH → Res D := mFun 2 (mSeq (mSet 1 (mCallF 1 f_graph_fault (mCons (mVar 0) (mNil)))) (mIfS (mTst (mOp (fIsN true) (mVar 1) (mK .non))) (mRaise "InvalidGraph"
    "at" (mVar 1)) (mNext)))
noncomputable def f_deed_fault : List D → AH → Res D := mFun 1 (mSeq (mIfS (mOr (mNot (mTst (mCall fIsi (mCons (mVar 0) (mCons (mK (.ty "tuple")) (mNil)))))) (mTst (mOp fLt (mCall fLen (mCons (mVar 0)
    (mNil))) (mK (.int 2))))) (mRet (mNeg (mK (.int 1)))) (mNext)) (mSeq (mIfS (mAnd (mTst (mOp (fInD false) (mOp fIx (mVar 0) (mK (.int 0))) (mTup (mCons (mK (.str "node")) (mCons (mK (.str "drop"))
    (mNil)))))) (mTst (mOp (fEq false) (mCall fLen (mCons (mVar 0) (mNil))) (mK (.int 2))))) (mRet (mIf (mTst (mCallF 1 f_is_node (mCons (mOp fIx (mVar 0) (mK (.int 1))) (mNil)))) (mK .non) (mK (.int
    1)))) (mNext)) (mSeq (mIfS (mAnd (mTst (mOp (fEq false) (mOp fIx (mVar 0) (mK (.int 0))) (mK (.str "cut")))) (mTst (mOp (fEq false) (mCall fLen (mCons (mVar 0) (mNil))) (mK (.int 2))))) (mRet (mIf
    (mTst (mCallF 1 f_is_line (mCons (mOp fIx (mVar 0) (mK (.int 1))) (mNil)))) (mK .non) (mK (.int 1)))) (mNext)) (mSeq (mIfS (mAnd (mTst (mOp (fEq false) (mOp fIx (mVar 0) (mK (.int 0))) (mK (.str
    "line")))) (mTst (mOp (fEq false) (mCall fLen (mCons (mVar 0) (mNil))) (mK (.int 3))))) (mSeq (mIfS (mNot (mTst (mCallF 1 f_is_line (mCons (mOp fIx (mVar 0) (mK (.int 1))) (mNil))))) (mRet (mK
    (.int 1))) (mNext)) (mRet (mIf (mTst (mCallF 1 f_is_price (mCons (mOp fIx (mVar 0) (mK (.int 2))) (mNil)))) (mK .non) (mK (.int 2))))) (mNext)) (mRet (mNeg (mK (.int 1))))))))
noncomputable def f_is_deed : List D → AH → Res D := mFun 1 (mRet (mOp (fIsN false) (mCallF 1 f_deed_fault (mCons (mVar 0) (mNil))) (mK .non)))
noncomputable def f_need_deed : List D → AH → Res D := mFun 2 (mSeq (mSet 1 (mCallF 1 f_deed_fault (mCons (mVar 0) (mNil)))) (mIfS (mTst (mOp (fIsN true) (mVar 1) (mK .non))) (mRaise "InvalidDeed" "at"
    (mVar 1)) (mNext)))
noncomputable def b_need_batch1 : MS := (mIfS (mNot (mTst (mCallF 1 f_is_deed (mCons (mVar 2) (mNil))))) (mRaise "InvalidDeed" "at" (mVar 1)) (mNext))
noncomputable def f_need_batch : List D → AH → Res D := mFun 3 (mSeq (mIfS (mNot (mTst (mCallF 1 f_is_sequence (mCons (mVar 0) (mNil))))) (mRaise "InvalidDeed" "at" (mNeg (mK (.int 1)))) (mNext)) (mFor
    (mEnX (mCons (mVar 0) (mNil))) (.tp [.nm 1, .nm 2]) b_need_batch1))
noncomputable def b__law_source1 : MS := (mSet 3 (mOp fMod (mCall fInt (mCons (mOp fAdd (mOp fAdd (mOp fMulA (mVar 3) (mK (.int 48271))) (mOp fMod (mVar 4) (mK (.int 2147483549)))) (mK (.int 29)))
    (mNil))) (mK (.int 2147483647))))
noncomputable def f__law_source : List D → AH → Res D := mFun 5 (mSeq (mSet 2 (mLc false (mSq (mSl (mVar 0) (mNone) (mSome (mK (.int 63))))) (.nm 4) (mYes) (mCall fAbs (mCons (mCall fInt (mCons (mVar
    4) (mNil))) (mNil))) [4])) (mSeq (mSet 3 (mOp fAdd (mK (.int 1013)) (mOp fMulA (mK (.int 7919)) (mVar 1)))) (mSeq (mFor (mSq (mVar 2)) (.nm 4) b__law_source1) (mRet (mNew (mCons (mRev true (mLc
    false (mSq (mVar 2)) (.nm 4) (mTst (mOp fGe (mVar 4) (mOp fPow (mK (.int 10)) (mK (.int 18))))) (mVar 4) [4])) (mCons (mVar 3) (mNil))))))))
noncomputable def t__law_any1 : MT := (mAnd (mTst (mOp (fEq true) (mOp fIx (mVar 0) (mK (.int 0))) (mLst (mNil)))) (mTst (mOp (fEq false) (mOp fIx (mOp fIx (mVar 0) (mK (.int 0))) (mNeg (mK (.int 1))))
    (mK (.int 0)))))
noncomputable def b__law_any1 : MS := (mDrop (mPop (mOp fIx (mVar 0) (mK (.int 0)))))
noncomputable def f__law_any : List D → AH → Res D := mFun 3 (mSeq (mWhile t__law_any1 b__law_any1) (mSeq (mIfS (mTst (mOp (fEq true) (mOp fIx (mVar 0) (mK (.int 0))) (mLst (mNil)))) (mSeq (mSet 2
    (mCall fInt (mCons (mPop (mOp fIx (mVar 0) (mK (.int 0)))) (mNil)))) (mSeq (mDrop (mMet fApp (mOp fIx (mVar 0) (mK (.int 0))) (mCons (mOp fDiv (mVar 2) (mVar 1)) (mNil)))) (mRet (mOp fMod (mVar 2)
    (mVar 1))))) (mNext)) (mSeq (mSto (mOp fMod (mCall fInt (mCons (mOp fAdd (mOp fMulA (mOp fIx (mVar 0) (mK (.int 1))) (mK (.int 48271))) (mK (.int 29))) (mNil))) (mK (.int 2147483647))) (mVar 0) (mK
    (.int 1))) (mRet (mOp fMod (mCall fInt (mCons (mOp fDiv (mOp fIx (mVar 0) (mK (.int 1))) (mK (.int 64))) (mNil))) (mVar 1))))))
noncomputable def f__law_of : List D → AH → Res D := mFun 2 (mRet (mOp fIx (mVar 1) (mCallF 2 f__law_any (mCons (mVar 0) (mCons (mCall fLen (mCons (mVar 1) (mNil))) (mNil))))))
noncomputable def f__law_names : List D → AH → Res D := mFun 7 (mSeq (mSet 2 (mK (.str "abcdefghijklmnopqrstuvwxyz0123456789"))) (mSeq (mSet 3 (mLc false (mR1 (mCons (mOp fAdd (mK (.int 1)) (mCallF 2
    f__law_of (mCons (mVar 0) (mCons (mLst (mCons (mK (.int 0)) (mCons (mK (.int 0)) (mCons (mK (.int 1)) (mCons (mK (.int 3)) (mNil)))))) (mNil))))) (mNil))) (.nm 6) (mYes) (mCallF 2 f__law_of (mCons
    (mVar 0) (mCons (mVar 2) (mNil)))) [6])) (mSeq (mAsg (.tp [.nm 4, .nm 5]) (mTup (mCons (mCallF 2 f__law_any (mCons (mVar 0) (mCons (mCall fLen (mCons (mVar 3) (mNil))) (mNil)))) (mCons (mCallF 2
    f__law_any (mCons (mVar 0) (mCons (mK (.int 36)) (mNil)))) (mNil))))) (mRet (mLc false (mR1 (mCons (mVar 1) (mNil))) (.nm 6) (mYes) (mJoin (mK (.str "")) (mOp fAdd (mOp fAdd (mSl (mVar 3) (mNone)
    (mSome (mVar 4))) (mLst (mCons (mOp fIx (mVar 2) (mOp fMod (mCall fInt (mCons (mOp fAdd (mVar 5) (mOp fMulA (mK (.int 5)) (mVar 6))) (mNil))) (mK (.int 36)))) (mNil)))) (mSl (mVar 3) (mSome (mOp
    fAdd (mVar 4) (mK (.int 1)))) (mNone)))) [6])))))
noncomputable def f__law_price : List D → AH → Res D := mFun 1 (mRet (mCallF 2 f__law_of (mCons (mVar 0) (mCons (mLst (mCons (mK (.int 0)) (mCons (mK (.int 1)) (mCons (mK (.int 1)) (mCons (mK (.int 2))
    (mCons (mOp fPow (mK (.int 10)) (mK (.int 6))) (mCons (mCallF 2 f__law_any (mCons (mVar 0) (mCons (mOp fAdd (mOp fPow (mK (.int 10)) (mK (.int 6))) (mK (.int 1))) (mNil)))) (mNil)))))))) (mNil)))))
noncomputable def f__law_deed : List D → AH → Res D := mFun 5 (mSeq (mSet 3 (mCallF 2 f__law_any (mCons (mVar 0) (mCons (mK (.int 10)) (mNil))))) (mSeq (mIfS (mTst (mOp fLt (mVar 3) (mK (.int 2))))
    (mRet (mTup (mCons (mCallF 2 f__law_of (mCons (mVar 0) (mCons (mLst (mCons (mK (.str "node")) (mCons (mK (.str "drop")) (mNil)))) (mNil)))) (mCons (mCallF 2 f__law_of (mCons (mVar 0) (mCons (mVar
    1) (mNil)))) (mNil))))) (mNext)) (mSeq (mSet 4 (mTup (mCons (mCallF 2 f__law_of (mCons (mVar 0) (mCons (mVar 1) (mNil)))) (mCons (mCallF 2 f__law_of (mCons (mVar 0) (mCons (mVar 2) (mNil)))) (mCons
    (mCallF 2 f__law_of (mCons (mVar 0) (mCons (mVar 1) (mNil)))) (mNil)))))) (mRet (mIf (mTst (mOp (fEq false) (mVar 3) (mK (.int 2)))) (mTup (mCons (mK (.str "cut")) (mCons (mVar 4) (mNil)))) (mTup
    (mCons (mK (.str "line")) (mCons (mVar 4) (mCons (mCallF 1 f__law_price (mCons (mVar 0) (mNil))) (mNil))))))))))
noncomputable def b__law_do1 : MS := (mIfS (mTst (mOp (fInD true) (mVar 6) (mVar 0))) (mDrop (mMet fApp (mVar 0) (mCons (mVar 6) (mNil)))) (mNext))
noncomputable def b__law_do2 : MS := (mIfS (mOr (mTst (mOp (fEq false) (mOp fIx (mVar 5) (mK (.int 0))) (mVar 4))) (mTst (mOp (fEq false) (mOp fIx (mVar 5) (mK (.int 2))) (mVar 4)))) (mDrop (mPop1T
    (mVar 1) (mVar 5))) (mNext))
noncomputable def f__law_do : List D → AH → Res D := mFun 7 (mSeq (mPar2 3 4 (mCons (mOp fIx (mVar 2) (mK (.int 0))) (mCons (mOp fIx (mVar 2) (mK (.int 1))) (mNil)))) (mIfS (mTst (mOp (fEq false) (mVar
    3) (mK (.str "drop")))) (mSeq (mFor (mSq (mCall fListT (mCons (mVar 1) (mNil)))) (.nm 5) b__law_do2) (mIfS (mTst (mOp (fInD false) (mVar 4) (mVar 0))) (mDrop (mMet fRemS (mVar 0) (mCons (mVar 4)
    (mNil)))) (mNext))) (mIfS (mTst (mOp (fEq false) (mVar 3) (mK (.str "cut")))) (mIfS (mTst (mOp (fInW false) (mVar 4) (mVar 1))) (mDrop (mPop1T (mVar 1) (mVar 4))) (mNext)) (mSeq (mFor (mSq (mIf
    (mTst (mOp (fEq false) (mVar 3) (mK (.str "node")))) (mLst (mCons (mVar 4) (mNil))) (mLst (mCons (mOp fIx (mVar 4) (mK (.int 0))) (mCons (mOp fIx (mVar 4) (mK (.int 2))) (mNil)))))) (.nm 6)
    b__law_do1) (mIfS (mTst (mOp (fEq false) (mVar 3) (mK (.str "line")))) (mPutT (mOp fIx (mVar 2) (mK (.int 2))) (mVar 1) (mVar 4)) (mNext))))))
noncomputable def f__law_graph : List D → AH → Res D := mFun 3 (mRet (mTup (mCons (mCall fTup (mCons (mCall fSortS (mCons (mVar 0) (mNil))) (mNil))) (mCons (mCall fTup (mCons (mLc false (mSq (mCall
    fSortTD (mCons (mVar 1) (mNil)))) (.nm 2) (mYes) (mTup (mCons (mVar 2) (mCons (mOp fGetT (mVar 1) (mVar 2)) (mNil)))) [2]) (mNil))) (mNil)))))
noncomputable def b__law_drawn1 : MS := (mDrop (mCallF 3 f__law_do (mCons (mVar 4) (mCons (mVar 5) (mCons (mCallF 3 f__law_deed (mCons (mVar 0) (mCons (mVar 1) (mCons (mVar 2) (mNil))))) (mNil))))))
noncomputable def f__law_drawn : List D → AH → Res D := mFun 7 (mSeq (mPar2 4 5 (mCons (mNew (mNil)) (mCons (mDict0T) (mNil)))) (mSeq (mFor (mR1 (mCons (mVar 3) (mNil))) (.nm 6) b__law_drawn1) (mRet
    (mTup (mCons (mVar 4) (mCons (mVar 5) (mNil)))))))
noncomputable def f__law_bad : List D → AH → Res D := mFun 2 (mRet (mCallF 2 f__law_of (mCons (mVar 0) (mCons (mLst (mCons (mK (.str "")) (mCons (mOp fAdd (mVar 1) (mK (.str "_"))) (mCons (mOp fAdd
    (mUp (mVar 1)) (mK (.str "A"))) (mCons (mOp fAdd (mVar 1) (mK (.str "abcd"))) (mCons (mOp fAdd (mK (.str " ")) (mVar 1)) (mCons (mK .non) (mCons (mK (.int 5)) (mCons (mK (.bl true)) (mCons (mTup
    (mCons (mVar 1) (mNil))) (mCons (mLst (mCons (mVar 1) (mNil))) (mCons (mK (.str "a\n")) (mNil))))))))))))) (mNil)))))
noncomputable def f__law_bad_line : List D → AH → Res D := mFun 4 (mSeq (mIfS (mTst (mOp (fEq false) (mCallF 2 f__law_any (mCons (mVar 0) (mCons (mK (.int 3)) (mNil)))) (mK (.int 0)))) (mRet (mTup
    (mCons (mCallF 2 f__law_of (mCons (mVar 0) (mCons (mLst (mCons (mK .non) (mCons (mCall fList (mCons (mVar 1) (mNil))) (mCons (mSl (mVar 1) (mNone) (mSome (mK (.int 2)))) (mCons (mOp fAdd (mVar 1)
    (mTup (mCons (mOp fIx (mVar 1) (mK (.int 0))) (mNil)))) (mCons (mTup (mNil)) (mCons (mK (.str "abc")) (mCons (mK (.int 3)) (mCons (mK (.bl true)) (mNil)))))))))) (mNil)))) (mCons (mOp fSub (mK
    (.int 0)) (mK (.int 1))) (mNil))))) (mNext)) (mSeq (mSet 2 (mCallF 2 f__law_any (mCons (mVar 0) (mCons (mK (.int 3)) (mNil))))) (mSeq (mSet 3 (mCallF 2 f__law_of (mCons (mVar 0) (mCons (mLst (mCons
    (mSl (mVar 1) (mSome (mOp fAdd (mVar 2) (mK (.int 1)))) (mNone)) (mCons (mOp fMulA (mTup (mCons (mK .non) (mNil))) (mOp fSub (mK (.int 2)) (mVar 2))) (mNil)))) (mNil))))) (mRet (mTup (mCons (mOp
    fAdd (mOp fAdd (mSl (mVar 1) (mNone) (mSome (mVar 2))) (mTup (mCons (mCallF 2 f__law_bad (mCons (mVar 0) (mCons (mOp fIx (mVar 1) (mVar 2)) (mNil)))) (mNil)))) (mVar 3)) (mCons (mVar 2)
    (mNil))))))))
noncomputable def f__law_bad_graph : List D → AH → Res D := mFun 13 (mSeq (mPar2 4 5 (mCons (mCallF 2 f__law_any (mCons (mVar 0) (mCons (mK (.int 6)) (mNil)))) (mCons (mCall fLen (mCons (mVar 1)
    (mNil))) (mNil)))) (mSeq (mIfS (mOr (mTst (mOp (fEq false) (mVar 4) (mK (.int 0)))) (mTst (mOp (fEq false) (mVar 1) (mTup (mNil))))) (mSeq (mSet 11 (mNew (mCons (mK .non) (mCons (mLst (mCons (mVar
    1) (mCons (mVar 2) (mNil)))) (mCons (mTup (mCons (mVar 1) (mNil))) (mCons (mTup (mCons (mVar 1) (mCons (mVar 2) (mCons (mTup (mNil)) (mNil))))) (mCons (mTup (mCons (mCall fList (mCons (mVar 1)
    (mNil))) (mCons (mVar 2) (mNil)))) (mCons (mTup (mCons (mVar 1) (mCons (mCall fList (mCons (mVar 2) (mNil))) (mNil)))) (mCons (mK (.str "")) (mCons (mK (.int 0)) (mNil))))))))))) (mRet (mTup (mCons
    (mCallF 2 f__law_of (mCons (mVar 0) (mCons (mOp fAddR (mVar 11) (mLst (mCons (mTup (mCons (mVar 1) (mCons (mK .non) (mNil)))) (mCons (mK (.bl true)) (mNil))))) (mNil)))) (mCons (mOp fSub (mK (.int
    0)) (mK (.int 1))) (mNil)))))) (mNext)) (mSeq (mSet 6 (mCallF 2 f__law_any (mCons (mVar 0) (mCons (mVar 5) (mNil))))) (mSeq (mIfS (mTst (mOp (fEq false) (mVar 4) (mK (.int 1)))) (mSeq (mSet 12
    (mCallF 2 f__law_of (mCons (mVar 0) (mCons (mLst (mCons (mCallF 2 f__law_bad (mCons (mVar 0) (mCons (mOp fIx (mVar 1) (mVar 6)) (mNil)))) (mCons (mIf (mTst (mOp fGt (mVar 6) (mK (.int 0)))) (mOp
    fIx (mVar 1) (mOp fSub (mVar 6) (mK (.int 1)))) (mK .non)) (mNil)))) (mNil))))) (mRet (mTup (mCons (mTup (mCons (mOp fAdd (mOp fAdd (mSl (mVar 1) (mNone) (mSome (mVar 6))) (mTup (mCons (mVar 12)
    (mNil)))) (mSl (mVar 1) (mSome (mOp fAdd (mVar 6) (mK (.int 1)))) (mNone))) (mCons (mCallF 2 f__law_of (mCons (mVar 0) (mCons (mLst (mCons (mVar 2) (mCons (mTup (mCons (mK .non) (mNil))) (mNil))))
    (mNil)))) (mNil)))) (mCons (mVar 6) (mNil)))))) (mNext)) (mSeq (mIfS (mAnd (mTst (mOp (fEq false) (mVar 4) (mK (.int 2)))) (mTst (mOp fGt (mVar 6) (mK (.int 0))))) (mRet (mTup (mCons (mTup (mCons
    (mOp fAdd (mOp fAdd (mSl (mVar 1) (mNone) (mSome (mOp fSub (mVar 6) (mK (.int 1))))) (mTup (mCons (mOp fIx (mVar 1) (mVar 6)) (mCons (mOp fIx (mVar 1) (mOp fSub (mVar 6) (mK (.int 1)))) (mNil)))))
    (mSl (mVar 1) (mSome (mOp fAdd (mVar 6) (mK (.int 1)))) (mNone))) (mCons (mVar 2) (mNil)))) (mCons (mVar 6) (mNil))))) (mNext)) (mSeq (mSet 7 (mLc false (mR1 (mCons (mCall fLen (mCons (mVar 2)
    (mNil))) (mNil))) (.nm 8) (mTst (mOp (fInD false) (mOp fIx (mVar 1) (mVar 6)) (mTup (mCons (mOp fIx (mOp fIx (mOp fIx (mVar 2) (mVar 8)) (mK (.int 0))) (mK (.int 0))) (mCons (mOp fIx (mOp fIx (mOp
    fIx (mVar 2) (mVar 8)) (mK (.int 0))) (mK (.int 2))) (mNil)))))) (mVar 8) [8])) (mSeq (mIfS (mAnd (mTst (mOp (fEq false) (mVar 4) (mK (.int 3)))) (mTst (mOp (fEq true) (mVar 7) (mLst (mNil)))))
    (mRet (mTup (mCons (mTup (mCons (mOp fAdd (mSl (mVar 1) (mNone) (mSome (mVar 6))) (mSl (mVar 1) (mSome (mOp fAdd (mVar 6) (mK (.int 1)))) (mNone))) (mCons (mVar 2) (mNil)))) (mCons (mOp fAdd (mOp
    fSub (mVar 5) (mK (.int 1))) (mOp fIx (mVar 7) (mK (.int 0)))) (mNil))))) (mNext)) (mSeq (mIfS (mTst (mOp (fEq false) (mVar 2) (mTup (mNil)))) (mRet (mTup (mCons (mTup (mCons (mVar 1) (mCons (mTup
    (mCons (mCallF 2 f__law_of (mCons (mVar 0) (mCons (mLst (mCons (mK .non) (mCons (mTup (mNil)) (mCons (mK (.int 5)) (mCons (mK (.str "a")) (mNil)))))) (mNil)))) (mNil))) (mNil)))) (mCons (mVar 5)
    (mNil))))) (mNext)) (mSeq (mSet 8 (mCallF 2 f__law_any (mCons (mVar 0) (mCons (mCall fLen (mCons (mVar 2) (mNil))) (mNil))))) (mSeq (mAsg (.tp [.nm 9, .nm 10]) (mOp fIx (mVar 2) (mVar 8))) (mSeq
    (mSet 11 (mNew (mCons (mK .non) (mCons (mLst (mCons (mVar 9) (mCons (mVar 10) (mNil)))) (mCons (mTup (mCons (mVar 9) (mNil))) (mCons (mTup (mCons (mVar 9) (mCons (mVar 10) (mCons (mK (.int 0))
    (mNil))))) (mCons (mTup (mCons (mVar 9) (mCons (mOp fSub (mK (.int 0)) (mK (.int 1))) (mNil)))) (mCons (mTup (mCons (mVar 9) (mCons (mOp fAdd (mOp fPow (mK (.int 10)) (mK (.int 6))) (mK (.int 1)))
    (mNil)))) (mCons (mTup (mCons (mVar 9) (mCons (mK (.bl true)) (mNil)))) (mCons (mTup (mCons (mVar 9) (mCons (mK .non) (mNil)))) (mNil))))))))))) (mSeq (mSet 11 (mOp fAddN (mVar 11) (mLst (mCons
    (mTup (mCons (mVar 9) (mCons (mK (.str "1")) (mNil)))) (mCons (mTup (mCons (mOp fIx (mCallF 2 f__law_bad_line (mCons (mVar 0) (mCons (mVar 9) (mNil)))) (mK (.int 0))) (mCons (mVar 10) (mNil))))
    (mCons (mTup (mCons (mTup (mCons (mOp fIx (mVar 9) (mK (.int 0))) (mCons (mOp fIx (mVar 9) (mK (.int 1))) (mCons (mVar 3) (mNil))))) (mCons (mVar 10) (mNil)))) (mNil))))))) (mSeq (mDrop (mMet fApp
    (mVar 11) (mCons (mTup (mCons (mTup (mCons (mVar 3) (mCons (mOp fIx (mVar 9) (mK (.int 1))) (mCons (mOp fIx (mVar 9) (mK (.int 2))) (mNil))))) (mCons (mVar 10) (mNil)))) (mNil)))) (mSeq (mDrop
    (mMet fApp (mVar 11) (mCons (mIf (mTst (mOp fGt (mVar 8) (mK (.int 0)))) (mOp fIx (mVar 2) (mCallF 2 f__law_any (mCons (mVar 0) (mCons (mVar 8) (mNil))))) (mTup (mNil))) (mNil)))) (mSeq (mSet 12
    (mCallF 2 f__law_of (mCons (mVar 0) (mCons (mVar 11) (mNil))))) (mRet (mTup (mCons (mTup (mCons (mVar 1) (mCons (mOp fAdd (mOp fAdd (mSl (mVar 2) (mNone) (mSome (mVar 8))) (mTup (mCons (mVar 12)
    (mNil)))) (mCallF 2 f__law_of (mCons (mVar 0) (mCons (mLst (mCons (mSl (mVar 2) (mSome (mOp fAdd (mVar 8) (mK (.int 1)))) (mNone)) (mCons (mTup (mCons (mK .non) (mNil))) (mCons (mTup (mNil))
    (mNil))))) (mNil))))) (mNil)))) (mCons (mOp fAdd (mVar 5) (mVar 8)) (mNil))))))))))))))))))))
noncomputable def f__law_bad_deed : List D → AH → Res D := mFun 3 (mSeq (mIfS (mTst (mOp (fEq false) (mCallF 2 f__law_any (mCons (mVar 0) (mCons (mK (.int 3)) (mNil)))) (mK (.int 0)))) (mSeq (mSet 2
    (mLst (mCons (mK .non) (mCons (mCall fList (mCons (mVar 1) (mNil))) (mCons (mSl (mVar 1) (mNone) (mSome (mK (.int 1)))) (mCons (mOp fAdd (mVar 1) (mTup (mCons (mK (.int 1)) (mNil)))) (mCons (mOp
    fAdd (mTup (mCons (mK (.str "go")) (mNil))) (mSl (mVar 1) (mSome (mK (.int 1))) (mNone))) (mCons (mOp fAdd (mTup (mCons (mK .non) (mNil))) (mSl (mVar 1) (mSome (mK (.int 1))) (mNone))) (mCons (mTup
    (mNil)) (mCons (mOp fIx (mVar 1) (mK (.int 0))) (mCons (mK (.int 1)) (mCons (mTup (mCons (mLst (mNil)) (mCons (mOp fIx (mVar 1) (mK (.int 1))) (mNil)))) (mNil))))))))))))) (mRet (mTup (mCons
    (mCallF 2 f__law_of (mCons (mVar 0) (mCons (mOp fAdd (mVar 2) (mLst (mCons (mOp fAdd (mTup (mCons (mK (.bl true)) (mNil))) (mSl (mVar 1) (mSome (mK (.int 1))) (mNone))) (mNil)))) (mNil)))) (mCons
    (mOp fSub (mK (.int 0)) (mK (.int 1))) (mNil)))))) (mNext)) (mSeq (mIfS (mTst (mOp (fInD false) (mOp fIx (mVar 1) (mK (.int 0))) (mTup (mCons (mK (.str "node")) (mCons (mK (.str "drop"))
    (mNil)))))) (mRet (mTup (mCons (mTup (mCons (mOp fIx (mVar 1) (mK (.int 0))) (mCons (mCallF 2 f__law_bad (mCons (mVar 0) (mCons (mOp fIx (mVar 1) (mK (.int 1))) (mNil)))) (mNil)))) (mCons (mK (.int
    1)) (mNil))))) (mNext)) (mSeq (mIfS (mAnd (mTst (mOp (fEq false) (mOp fIx (mVar 1) (mK (.int 0))) (mK (.str "line")))) (mTst (mOp (fEq false) (mCallF 2 f__law_any (mCons (mVar 0) (mCons (mK (.int
    2)) (mNil)))) (mK (.int 0))))) (mRet (mTup (mCons (mOp fAdd (mSl (mVar 1) (mNone) (mSome (mK (.int 2)))) (mTup (mCons (mCallF 2 f__law_of (mCons (mVar 0) (mCons (mLst (mCons (mOp fSub (mK (.int 0))
    (mK (.int 1))) (mCons (mOp fAdd (mOp fPow (mK (.int 10)) (mK (.int 6))) (mK (.int 1))) (mCons (mK (.bl true)) (mCons (mK .non) (mCons (mK (.str "1")) (mCons (mTup (mCons (mK (.int 1)) (mNil)))
    (mNil)))))))) (mNil)))) (mNil)))) (mCons (mK (.int 2)) (mNil))))) (mNext)) (mRet (mTup (mCons (mOp fAdd (mTup (mCons (mOp fIx (mVar 1) (mK (.int 0))) (mCons (mOp fIx (mCallF 2 f__law_bad_line
    (mCons (mVar 0) (mCons (mOp fIx (mVar 1) (mK (.int 1))) (mNil)))) (mK (.int 0))) (mNil)))) (mSl (mVar 1) (mSome (mK (.int 2))) (mNone))) (mCons (mK (.int 1)) (mNil))))))))
end GR
end
section
set_option maxHeartbeats 1000000
namespace DM
open PySem PySem.Spec PyProof.Rows L2
/-! ### the other way to draw -/
noncomputable def dealG : List D → AH → Res D := mFun 5 (mSeq (mSet 2 (mLc false (mSq (mSl (mVar 0) (mNone) (mSome (mK (.int 63))))) (.nm 4) (mYes) (mCall fAbs (mCons (mCall fInt (mCons (mVar 4)
    (mNil))) (mNil))) [4])) (mSeq (mSet 3 (mOp fAdd (mK (.int 1013)) (mOp fMulA (mK (.int 7919)) (mVar 1)))) (mSeq (mFor (mSq (mVar 2)) (.nm 4) (mSet 3 (mOp fMod (mCall fInt (mCons (mOp fAdd (mOp fAdd
    (mOp fMulA (mVar 3) (mK (.int 48271))) (mOp fMod (mVar 4) (mK (.int 2147483549)))) (mK (.int 29))) (mNil))) (mK (.int 2147483647))))) (mRet (mNew (mCons (mRev true (mLc false (mSq (mVar 2)) (.nm 4)
    (mTst (mOp fGe (mVar 4) (mOp fPow (mK (.int 10)) (mK (.int 18))))) (mVar 4) [4])) (mCons (mVar 3) (mNil))))))))
noncomputable def anyG : List D → AH → Res D := mFun 3 (mSeq (mWhile (mAnd (mTst (mOp (fEq true) (mOp fIx (mVar 0) (mK (.int 0))) (mLst (mNil)))) (mTst (mOp (fEq false) (mOp fIx (mOp fIx (mVar 0)
    (mK (.int 0))) (mNeg (mK (.int 1)))) (mK (.int 0))))) (mDrop (mPop (mOp fIx (mVar 0) (mK (.int 0)))))) (mSeq (mIfS (mTst (mOp (fEq true) (mOp fIx (mVar 0) (mK (.int 0))) (mLst (mNil)))) (mSeq (mSet
    2 (mCall fInt (mCons (mPop (mOp fIx (mVar 0) (mK (.int 0)))) (mNil)))) (mSeq (mDrop (mMet fApp (mOp fIx (mVar 0) (mK (.int 0))) (mCons (mOp fDiv (mVar 2) (mVar 1)) (mNil)))) (mRet (mOp fMod (mVar
    2) (mVar 1))))) (mNext)) (mSeq (mSto (mOp fMod (mCall fInt (mCons (mOp fAdd (mOp fMulA (mOp fIx (mVar 0) (mK (.int 1))) (mK (.int 48271))) (mK (.int 29))) (mNil))) (mK (.int 2147483647))) (mVar 0)
    (mK (.int 1))) (mRet (mOp fMod (mCall fInt (mCons (mOp fDiv (mOp fIx (mVar 0) (mK (.int 1))) (mK (.int 64))) (mNil))) (mVar 1))))))
theorem anyG_ok {h q : Nat} {A : AH} {k : Int} (hs : HS h q A) (h0 : 0 < k) (h1 : k < 1073741824) : ∃ v A', anyG [.ref h, .int k] A = .ok (.int v) A' ∧ 0 ≤ v ∧ v < k ∧ Drawn h q A A' := by
  obtain ⟨hq, L, s, e1, e2, hl, s0, s1⟩ := hs
  have cw : ∀ i : Int, CDivW i k := fun i => cdw_big h0 (by omega)
  have c64 : ∀ i : Int, CDivW i 64 := fun i => cdw_big (by decide) (by decide)
  obtain ⟨L', A1, l1, P, w⟩ := zeros_go (k := k) hq L.length L A rfl e1 e2
  have w' : mWhile tstM popM [some (.ref h), some (.int k), none] A = .nx [some (.ref h), some (.int k), none] A1 := mWhile_eq w (by intro z; cases z)
  have f1 : A1[h]? = some (.lst [.ref q, .int s]) := (P.2.2 h hq).trans e1
  have f2 := P.2.1
  have hm : anyG [.ref h, .int k] A = mFun 3 (mSeq (mWhile tstM popM) (mSeq (mIfS (mTst (mOp (fEq true) (mOp fIx (mVar 0) (mK (.int 0))) (mLst (mNil)))) (mSeq (mSet 2 (mCall fInt (mCons (mPop (mOp fIx (mVar 0) (mK (.int 0)))) (mNil)))) (mSeq (mDrop (mMet fApp (mOp fIx (mVar 0) (mK (.int 0))) (mCons (mOp fDiv (mVar 2) (mVar 1)) (mNil)))) (mRet (mOp fMod (mVar 2) (mVar 1))))) (mNext)) (mSeq (mSto (mOp fMod (mCall fInt (mCons (mOp fAdd (mOp fMulA (mOp fIx (mVar 0) (mK (.int 1))) (mK (.int 48271))) (mK (.int 29))) (mNil))) (mK (.int 2147483647))) (mVar 0) (mK (.int 1))) (mRet (mOp fMod (mCall fInt (mCons (mOp fDiv (mOp fIx (mVar 0) (mK (.int 1))) (mK (.int 64))) (mNil))) (mVar 1)))))) [.ref h, .int k] A := rfl
  rw [hm]
  cases hL : L' with
  | nil =>
    subst hL
    have cm : CMul s 48271 := .inl ⟨by omega, by omega⟩
    have A2 := Put.set (o := .lst [.ref q, .int ((s * 48271 + 29) % 2147483647)]) f1
    refine ⟨((s * 48271 + 29) % 2147483647) / 64 % k, A1.set h (.lst [.ref q, .int ((s * 48271 + 29) % 2147483647)]), ?_, Int.emod_nonneg _ (by omega), Int.emod_lt_of_pos _ h0, ?_, ⟨hq, [], (s * 48271 + 29) % 2147483647, A2.2.1, (A2.2.2 q (Ne.symm hq)).trans f2, by simp, Int.emod_nonneg _ (by omega), Int.emod_lt_of_pos _ (by omega)⟩, fun n a b => (A2.2.2 n a).trans (P.2.2 n b)⟩
    · have g1 := A2.2.1
      have ixn : ixN 2 1 = some 1 := rfl
      simp [mFun, mSeq, w', mIfS, mTst, mOp, mVar, mK, mLst, mNil, mCons, mCall, mRet, mSto, mNext, ix_ref f1 at_ref0, ix_ref f1 at_ref1, eq_refnil f2, fAdd, fMulA, fMod, fDiv, fI, fInt, cm, f1, ixn, ix_ref g1 at_ref1, cw, c64, h0, h1]
    · exact A2.1.trans P.1
  | cons x0 R =>
    obtain ⟨M, x, e⟩ : ∃ M x, L' = M ++ [x] := ⟨L'.dropLast, L'.getLast (by rw [hL]; simp), (List.dropLast_concat_getLast (by rw [hL]; simp)).symm⟩
    have hne : L'.isEmpty = false := by rw [hL]; rfl
    have hg : (L'.map D.int)[L'.length - 1]? = some (D.int x) := by
      rw [e]; simp
    have hd : (L'.map D.int).dropLast = M.map D.int := by
      rw [e]; simp
    have B := Put.set (o := .lst (M.map D.int)) f2
    have b1 : (A1.set q (.lst (M.map D.int)))[h]? = some (.lst [.ref q, .int s]) := (B.2.2 h hq).trans f1
    have b2 := B.2.1
    have C := Put.set (o := .lst (M.map D.int ++ [D.int (x / k)])) b2
    have ml : M.length ≤ 62 := by
      have : L'.length = M.length + 1 := by rw [e]; simp
      omega
    refine ⟨x % k, _, ?_, Int.emod_nonneg _ (by omega), Int.emod_lt_of_pos _ h0, ?_, ⟨hq, M ++ [x / k], s, (C.2.2 h hq).trans b1, ?_, by simp; omega, s0, s1⟩, fun n a b => (C.2.2 n b).trans ((B.2.2 n b).trans (P.2.2 n b))⟩
    · have hlen : (M.map D.int).length < 16777216 := by rw [List.length_map]; omega
      rw [List.length_map] at hlen
      simp only [hg, hd, mFun, mSeq, w', mIfS, mTst, mOp, mVar, mK, mLst, mNil, mCons, mCall, mRet, mSet, mDrop, mPop, mMet, ix_ref f1 at_ref0, eq_refnil f2, hne, f2, b2, ix_ref b1 at_ref0, fApp, fMod, fDiv, fI, fInt, cw, c64, h0, h1, hlen,
        List.map_cons, List.map_nil, List.cons_append, List.nil_append, List.length_cons, List.length_nil, List.getElem?_cons_zero, List.getElem?_cons_succ, List.set_cons_succ, List.set_cons_zero, bind_ok, lift_ok, List.replicate, Nat.reduceAdd, Nat.reduceSub, Nat.reduceLeDiff, if_true, and_self, Bool.not_false, List.length_map]
    · exact C.1.trans (B.1.trans P.1)
    · rw [C.2.1]; simp
theorem ofG_ok {h q : Nat} {A : AH} {xs : List D} (hs : HS h q A) (h0 : 0 < xs.length) (h1 : xs.length < 1073741824) : ∃ (i : Nat) (hi : i < xs.length) (A' : AH), pickM anyG [.ref h, .lst xs] A = .ok xs[i] A' ∧ Drawn h q A A' := by
  obtain ⟨v, A', e, v0, v1, dr⟩ := anyG_ok (k := (xs.length : Int)) hs (by omega) (by omega)
  obtain ⟨i, rfl⟩ : ∃ i : Nat, v = i := ⟨v.toNat, by omega⟩
  have hi : i < xs.length := by omega
  refine ⟨i, hi, A', ?_, dr⟩
  have ha : atI xs (i : Int) = some xs[i] := atI_nat (List.getElem?_eq_getElem hi)
  simp [pickM, mFun, mRet, mOp, mVar, mCallF, mCons, mNil, mCall, fLen, seqOf, e, ix_lst ha]
/-- a comprehension whose parts change nothing -/
theorem gstir_go {d0 d1 d2 d4 : Option D} {all : List D} {A : AH} : ∀ (L : List Int) (s : Int), 0 ≤ s → s < 2147483647 → ∃ s' d, 0 ≤ s' ∧ s' < 2147483647 ∧
    forGo (.sq (.lst all)) all (.nm 4) (mSet 3 (mOp fMod (mCall fInt (mCons (mOp fAdd (mOp fAdd (mOp fMulA (mVar 3) (mK (.int 48271))) (mOp fMod (mVar 4) (mK (.int 2147483549)))) (mK (.int 29))) (mNil))) (mK (.int 2147483647)))) (L.map D.int) [d0, d1, d2, some (.int s), d4] A
      = .nx [d0, d1, d2, some (.int s'), d] A
  | [], s, h0, h1 => ⟨s, d4, h0, h1, by simp [forGo, itemsOf, seqOf]⟩
  | x :: L, s, h0, h1 => by
    obtain ⟨s', d, a, b, e⟩ := gstir_go (d0 := d0) (d1 := d1) (d2 := d2) (d4 := some (.int x)) (all := all) (A := A) L ((s * 48271 + x % 2147483549 + 29) % 2147483647) (Int.emod_nonneg _ (by omega)) (Int.emod_lt_of_pos _ (by omega))
    refine ⟨s', d, a, b, ?_⟩
    have cm : CMul s 48271 := .inl ⟨by omega, by omega⟩
    rw [List.map_cons]
    unfold forGo
    simp only [itemsOf, seqOf, if_true, bindT, List.set_cons_succ, List.set_cons_zero, mSet, mOp, mCall, mCons, mNil, mVar, mK, List.getElem?_cons_zero, List.getElem?_cons_succ, bind_ok, fMulA, fI, cm, fMod, fAdd, fInt, lift_ok, show (0 : Int) < 2147483549 by decide, show (0 : Int) < 2147483647 by decide]
    exact e
theorem dealG_ok {A : AH} {ns : List Int} {b : Int} (b0 : 0 ≤ b) (b1 : b < 1000) : ∃ h q A', dealG [.lst (ns.map D.int), .int b] A = .ok (.ref h) A' ∧ HS h q A' ∧ A'.length = A.length + 2 ∧ h = A.length + 1 ∧ q = A.length ∧ ∀ n, n < A.length → A'[n]? = A[n]? := by
  have cz : ∀ L : List Int, (L.map D.int).map (fun d => match d with | .int i => D.int (if i < 0 then -i else i) | d => d) = (L.map fun i => if i < 0 then -i else i).map D.int := fun L => by
    rw [List.map_map, List.map_map]; rfl
  obtain ⟨M, hMl, e63⟩ : ∃ M : List Int, M.length ≤ 63 ∧ DM.cutD (ns.map D.int) none (some 63) = M.map D.int := by
    unfold DM.cutD
    rw [HT.sIx_none, show (63 : Int) = ((63 : Nat) : Int) from rfl, HT.sIx_nat]
    exact ⟨(ns.drop 0).take (min 63 (ns.map D.int).length - 0), by rw [List.length_take]; omega, by rw [List.map_take, List.map_drop]⟩
  have cm : CMul 7919 b := .inl ⟨by decide, by decide⟩
  generalize hC : (M.map fun i => if i < 0 then -i else i) = C at *
  have hCl : C.length ≤ 63 := by rw [← hC, List.length_map]; exact hMl
  have c1 : ∀ d1 d3, compGo (.sq (.lst (M.map D.int))) (M.map D.int) (.nm 4) mYes (mCall fAbs (mCons (mCall fInt (mCons (mVar 4) mNil)) mNil)) [some (.lst (ns.map D.int)), d1, none, d3, none] (M.map D.int) [] A = .ok (C.map D.int) A := fun d1 d3 => by
    rw [comp_pure (p := fun _ => true) (f := fun d => match d with | .int i => D.int (if i < 0 then -i else i) | d => d) rfl _ _ fun x hx => ?_]
    · rw [filter_true, cz, hC]; rfl
    · obtain ⟨i, _, rfl⟩ := List.mem_map.mp hx
      exact ⟨_, rfl, rfl, fun _ => rfl⟩
  obtain ⟨s', d, s0, s1, st⟩ := gstir_go (d0 := some (.lst (ns.map D.int))) (d1 := some (.int b)) (d2 := some (.lst (C.map D.int))) (d4 := none) (all := C.map D.int) (A := A) C (1013 + 7919 * b) (by omega) (by omega)
  have pw : CPow 10 18 := ⟨by decide, by decide, by decide⟩
  have c2 : ∀ d3, compGo (.sq (.lst (C.map D.int))) (C.map D.int) (.nm 4) (mTst (mOp fGe (mVar 4) (mOp fPow (mK (.int 10)) (mK (.int 18))))) (mVar 4) [some (.lst (ns.map D.int)), some (.int b), some (.lst (C.map D.int)), d3, none] (C.map D.int) [] A = .ok ((C.filter fun i => decide ((10 : Int) ^ 18 ≤ i)).map D.int) A := fun d3 => by
    rw [comp_pure (p := fun d => match d with | .int i => decide ((10 : Int) ^ 18 ≤ i) | _ => true) (f := fun d => d) rfl _ _ fun x hx => ?_]
    · rw [List.map_id', List.filter_map]; rfl
    · obtain ⟨i, _, rfl⟩ := List.mem_map.mp hx
      refine ⟨_, rfl, ?_, fun _ => rfl⟩
      simp only [mTst, mOp, mVar, mK, bindT, List.set_cons_succ, List.set_cons_zero, List.getElem?_cons_zero, List.getElem?_cons_succ, bind_ok, fPow, fI, pw, if_true, fGe, fI0]
      rfl
  generalize hF : (C.filter fun i => decide ((10 : Int) ^ 18 ≤ i)) = F at *
  have hFl : F.length ≤ 63 := by rw [← hF]; exact Nat.le_trans (List.length_filter_le _ _) hCl
  have z1 : (M.map D.int).length ≤ 16777216 := by rw [List.length_map]; omega
  have z2 : (C.map D.int).length ≤ 16777216 := by rw [List.length_map]; omega
  refine ⟨A.length + 1, A.length, A ++ [.lst (F.map D.int).reverse] ++ [.lst [.ref A.length, .int s']], ?_, ⟨by omega, F.reverse, s', ?_, ?_, by rw [List.length_reverse]; exact hFl, s0, s1⟩, by simp, rfl, rfl, fun n hn => ?_⟩
  · unfold dealG
    refine fun_rt ?_
    refine (seq_nx (ρ1 := [some (.lst (ns.map D.int)), some (.int b), some (.lst (C.map D.int)), none, none]) (A1 := A) ?_).trans ?_
    · simp only [ev_var, ev_K, ev_op, ev_neg, ev_tst, ev_and, ev_or, ev_not, ev_andV, ev_orV, ev_notV, ev_if, ev_chn, ev_nil, ev_cons, ev_tup, ev_lst, ev_new, ev_call, ev_callF, ev_callK, ev_met, ev_sl, ev_some, ev_none, ev_rev, ev_yes, ev_sq, ev_r1, ev_next, ev_drop, ev_ret, ev_ifs, ev_set, ev_par2, ev_par3, ev_asg, ev_nm, List.getElem?_cons_zero, List.getElem?_cons_succ, List.set_cons_zero, List.set_cons_succ, bind_ok, lift_ok, List.length_cons, List.length_nil, Nat.reduceAdd, Nat.reduceLeDiff, ↓reduceIte, if_true, if_false, Bool.false_eq_true, ev_lc, fSl, fAdd, fInt, seqOf, e63, itemsOf, z1, wipeD, List.map_cons, List.map_nil, List.replicate, List.cons_append, List.nil_append, List.foldl_cons, List.foldl_nil, Nat.reduceSub, c1]
    refine (seq_nx (ρ1 := [some (.lst (ns.map D.int)), some (.int b), some (.lst (C.map D.int)), some (.int (1013 + 7919 * b)), none]) (A1 := A) ?_).trans ?_
    · simp only [ev_var, ev_K, ev_op, ev_neg, ev_tst, ev_and, ev_or, ev_not, ev_andV, ev_orV, ev_notV, ev_if, ev_chn, ev_nil, ev_cons, ev_tup, ev_lst, ev_new, ev_call, ev_callF, ev_callK, ev_met, ev_sl, ev_some, ev_none, ev_rev, ev_yes, ev_sq, ev_r1, ev_next, ev_drop, ev_ret, ev_ifs, ev_set, ev_par2, ev_par3, ev_asg, ev_nm, List.getElem?_cons_zero, List.getElem?_cons_succ, List.set_cons_zero, List.set_cons_succ, bind_ok, lift_ok, List.length_cons, List.length_nil, Nat.reduceAdd, Nat.reduceLeDiff, ↓reduceIte, if_true, if_false, Bool.false_eq_true, fMulA, fI, cm, fAdd]
    refine (seq_nx (ρ1 := [some (.lst (ns.map D.int)), some (.int b), some (.lst (C.map D.int)), some (.int s'), d]) (A1 := A) ?_).trans ?_
    · simp only [ev_var, ev_K, ev_op, ev_neg, ev_tst, ev_and, ev_or, ev_not, ev_andV, ev_orV, ev_notV, ev_if, ev_chn, ev_nil, ev_cons, ev_tup, ev_lst, ev_new, ev_call, ev_callF, ev_callK, ev_met, ev_sl, ev_some, ev_none, ev_rev, ev_yes, ev_sq, ev_r1, ev_next, ev_drop, ev_ret, ev_ifs, ev_set, ev_par2, ev_par3, ev_asg, ev_nm, List.getElem?_cons_zero, List.getElem?_cons_succ, List.set_cons_zero, List.set_cons_succ, bind_ok, lift_ok, List.length_cons, List.length_nil, Nat.reduceAdd, Nat.reduceLeDiff, ↓reduceIte, if_true, if_false, Bool.false_eq_true, ev_for, itemsOf, seqOf]
      exact st
    simp only [ev_var, ev_K, ev_op, ev_neg, ev_tst, ev_and, ev_or, ev_not, ev_andV, ev_orV, ev_notV, ev_if, ev_chn, ev_nil, ev_cons, ev_tup, ev_lst, ev_new, ev_call, ev_callF, ev_callK, ev_met, ev_sl, ev_some, ev_none, ev_rev, ev_yes, ev_sq, ev_r1, ev_next, ev_drop, ev_ret, ev_ifs, ev_set, ev_par2, ev_par3, ev_asg, ev_nm, List.getElem?_cons_zero, List.getElem?_cons_succ, List.set_cons_zero, List.set_cons_succ, bind_ok, lift_ok, List.length_cons, List.length_nil, Nat.reduceAdd, Nat.reduceLeDiff, ↓reduceIte, if_true, if_false, Bool.false_eq_true, ev_lc, seqOf, itemsOf, z2, wipeD, List.foldl_cons, List.foldl_nil, c2, isTup]
    simp
  · rw [List.getElem?_append_right (by simp)]; simp
  · rw [List.getElem?_append_left (by simp), List.getElem?_append_right (by simp)]; simp
  · rw [List.getElem?_append_left (by simp; omega), List.getElem?_append_left hn]
end DM
end
section
set_option maxHeartbeats 1000000
namespace SR
open PySem PySem.Spec PyProof.Rows L2 DM
variable {A : AH} {ρ : DM.Env}
theorem callF_at {n : Nat} {g : List D → AH → Res D} {ms : MA} {ρ : DM.Env} {A A1 : AH} {ds : List D} {r : Res D} (hm : ms ρ A = .ok ds A1) (hl : ds.length = n) (hg : g ds A1 = r) : mCallF n g ms ρ A = r := by
  rw [ev_callF, hm, bind_ok, if_pos hl, hg]
theorem eq_ss {x y : Str} {neg : Bool} : fEq neg (.str x) (.str y) A = .ok (.bl (if neg then !decide (x = y) else decide (x = y))) A := by cases neg <;> rfl
theorem atI_nat {α : Type} {xs : List α} {j : Nat} {x : α} (h : xs[j]? = some x) : atI xs (j : Int) = some x := by
  have hj := (List.getElem?_eq_some_iff.mp h).1
  unfold atI ixN
  rw [if_pos (by omega), if_pos (by omega)]
  simpa using h
theorem var_at {i : Nat} {d : D} (h : ρ[i]? = some (some d)) : mVar i ρ A = .ok d A := by
  unfold mVar
  rw [h]
theorem drop_at {me : ME} {A1 : AH} {d : D} (h1 : me ρ A = .ok d A1) : mDrop me ρ A = .nx ρ A1 := by
  rw [ev_drop, h1]
  rfl
theorem tst_at {me : ME} {A1 : AH} {k : Bool} (h1 : me ρ A = .ok (.bl k) A1) : mTst me ρ A = .ok k A1 := by
  rw [ev_tst, h1]
  rfl
theorem ret_at {me : ME} {A1 : AH} {d : D} (h1 : me ρ A = .ok d A1) : mRet me ρ A = .rt d A1 := by
  rw [ev_ret, h1]
  rfl
theorem ifs_at {mt : MT} {sa sb : MS} {A1 : AH} {k : Bool} {r : SRes} (h1 : mt ρ A = .ok k A1) (h2 : (if k = true then sa ρ A1 else sb ρ A1) = r) : mIfS mt sa sb ρ A = r := by
  rw [ev_ifs, h1]
  exact h2
theorem callK_at {n l a : Nat} {pm : List Nat} {g : List D → AH → Res D} {ms mk : MA} {A1 A2 : AH} {ds es zs : List D} {r : Res D} (h1 : ms ρ A = .ok ds A1) (h2 : mk ρ A1 = .ok es A2) (c1 : ds.length = n) (c2 : es.length = l) (hp : DM.pick pm (ds ++ es) = zs) (c3 : zs.length = a) (hg : g zs A2 = r) : mCallK n l a pm g ms mk ρ A = r := by
  rw [ev_callK, h1, bind_ok, h2, bind_ok, hp, if_pos ⟨c1, c2, c3⟩]
  exact hg
theorem op_at {f : D → D → AH → Res D} {ma mb : ME} {ρ : DM.Env} {A A1 A2 : AH} {x y : D} {r : Res D} (h1 : ma ρ A = .ok x A1) (h2 : mb ρ A1 = .ok y A2) (h3 : f x y A2 = r) : mOp f ma mb ρ A = r := by
  subst h3
  rw [ev_op, h1, bind_ok, h2]
  rfl
theorem set_at {me : ME} {ρ : DM.Env} {A A1 : AH} {d : D} {i : Nat} (h1 : me ρ A = .ok d A1) : mSet i me ρ A = .nx (ρ.set i (some d)) A1 := by
  rw [ev_set, h1]
  rfl
def Shd (k w : Nat) (d : D) (q : PyData) : Prop := toPy d = some q ∧ FewB 20 k w q
theorem shd_int {i : Int} (h : i.natAbs < 10 ^ 19) : Shd 0 64 (.int i) (.int i) := ⟨rfl, fewB_int (by decide) h⟩
theorem shd_str {x : Str} (h1 : ∀ c ∈ x.cps.toList, c < 0x110000) (h2 : x.cps.toList.length ≤ 64) : Shd 0 64 (.str x) (.str x) := by
  refine ⟨rfl, fewB_str ?_ ?_ (by simpa using h2)⟩
  · simp only [PyData.canLay0]
    unfold PyData.strOk
    rw [← Array.all_toList, List.all_eq_true]
    intro c hc
    exact decide_eq_true (Nat.lt_of_lt_of_le (h1 c hc) (by decide))
  · rw [List.all_eq_true]
    intro c hc
    exact decide_eq_true (Nat.lt_trans (h1 c hc) (by decide))
theorem Shd.up {k w k' w' : Nat} {d : D} {p : PyData} (h : Shd k w d p) (hk : k ≤ k') (hw : w ≤ w') : Shd k' w' d p := ⟨h.1, h.2.mono hk hw⟩
/-! ### small rules -/
theorem cons_at {me : ME} {ms : MA} {A1 A2 : AH} {d : D} {ds : List D} (h1 : me ρ A = .ok d A1) (h2 : ms ρ A1 = .ok ds A2) : mCons me ms ρ A = .ok (d :: ds) A2 := by
  rw [ev_cons, h1, bind_ok, h2, bind_ok]
theorem call_at {g : List D → AH → Res D} {ms : MA} {A1 : AH} {ds : List D} {r : Res D} (h1 : ms ρ A = .ok ds A1) (h2 : g ds A1 = r) : mCall g ms ρ A = r := by
  rw [ev_call, h1, bind_ok, h2]
theorem nil_at : mNil ρ A = .ok [] A := rfl
theorem and_at {mt mu : MT} {A1 A2 : AH} {a b : Bool} (h1 : mt ρ A = .ok a A1) (h2 : a = true → mu ρ A1 = .ok b A2) (h3 : a = false → A2 = A1) : mAnd mt mu ρ A = .ok (a && b) A2 := by
  rw [ev_and, h1, bind_ok]
  cases a with
  | true => rw [if_pos rfl, h2 rfl]; rfl
  | false => rw [h3 rfl]; rfl
theorem or_at {mt mu : MT} {A1 : AH} {a b : Bool} (h1 : mt ρ A = .ok a A1) (h2 : a = false → mu ρ A1 = .ok b A1) : mOr mt mu ρ A = .ok (a || b) A1 := by
  rw [ev_or, h1, bind_ok]
  cases a with
  | true => rfl
  | false =>
    rw [if_neg (by decide), h2 rfl]
    rfl
theorem or_nn {mt mu : MT} {A1 A2 : AH} (h1 : mt ρ A = .ok false A1) (h2 : mu ρ A1 = .ok false A2) : mOr mt mu ρ A = .ok false A2 := by
  rw [ev_or, h1, bind_ok, if_neg (by decide), h2]
theorem not_at {mt : MT} {A1 : AH} {k : Bool} (h : mt ρ A = .ok k A1) : mNot mt ρ A = .ok (!k) A1 := by
  rw [ev_not, h]; rfl
theorem notV_at {me : ME} {A1 : AH} {k : Bool} (h : me ρ A = .ok (.bl k) A1) : mNotV me ρ A = .ok (.bl (!k)) A1 := by
  rw [ev_notV, h]; rfl
theorem andV_at {ma mb : ME} {a b : Bool} (h1 : ma ρ A = .ok (.bl a) A) (h2 : a = true → mb ρ A = .ok (.bl b) A) : mAndV ma mb ρ A = .ok (.bl (a && b)) A := by
  rw [ev_andV, h1, bind_ok]
  cases a with
  | true => exact h2 rfl
  | false => rfl
theorem if_at {mt : MT} {ma mb : ME} {A1 : AH} {k : Bool} {r : Res D} (h1 : mt ρ A = .ok k A1) (h2 : (if k = true then ma ρ A1 else mb ρ A1) = r) : mIf mt ma mb ρ A = r := by
  rw [ev_if, h1, bind_ok, h2]
theorem neg_at {me : ME} {A1 : AH} {i : Int} (h : me ρ A = .ok (.int i) A1) : mNeg me ρ A = .ok (.int (-i)) A1 := by
  rw [ev_neg, h]; rfl
theorem tup_at {ms : MA} {A1 : AH} {ds : List D} (h : ms ρ A = .ok ds A1) (hl : ds.length ≤ 1000) : mTup ms ρ A = .ok (.tup ds) A1 := by
  rw [ev_tup, h, bind_ok, if_pos hl]
theorem lst_at {ms : MA} {A1 : AH} {ds : List D} (h1 : ms ρ A = .ok ds A1) (h2 : ds.length ≤ 1000) : mLst ms ρ A = .ok (.lst ds) A1 := by
  rw [ev_lst, h1, bind_ok, if_pos h2]
theorem for_at {iv : ItV} {all : List D} {mi : MI} {tg : Tg} {sb : MS} {A1 : AH} {r : SRes} (h1 : mi ρ A = .ok iv A1) (h2 : itemsOf A1 iv = some all) (h3 : forGo iv all tg sb all ρ A1 = r) : mFor mi tg sb ρ A = r := by
  rw [ev_for, h1, lift_ok, h2]
  exact h3
theorem sq_at {me : ME} {A1 : AH} {d : D} {xs : List D} (h : me ρ A = .ok d A1) (hs : seqOf A1 d = some xs) : mSq me ρ A = .ok (.sq d) A1 := by
  rw [ev_sq, h, bind_ok, hs]
theorem enT_at {ms : MA} {A1 : AH} {xs : List D} (h : ms ρ A = .ok [.tup xs] A1) : mEnT ms ρ A = .ok (.en (.tup xs)) A1 := by
  unfold mEnT
  rw [h, bind_ok]
theorem lc_at {chg : Bool} {iv : ItV} {all acc : List D} {mi : MI} {tg : Tg} {tt : MT} {me : ME} {vs : List Nat} {A1 A2 : AH} {ρ1 : DM.Env} (h1 : mi ρ A = .ok iv A1) (h2 : itemsOf A1 iv = some all) (hl : all.length ≤ 16777216) (h3 : wipeD ρ vs = ρ1)
    (h4 : compGo iv all tg tt me ρ1 all [] A1 = .ok acc A2) (hc : chg = false := by rfl) : mLc chg mi tg tt me vs ρ A = .ok (.lst acc) A2 := by
  subst hc
  unfold mLc
  rw [h1, bind_ok]
  simp only [h2, hl, if_true, h3, h4, bind_ok, Bool.false_eq_true, if_false]
theorem no_if {mt : MT} {A1 : AH} (h1 : mt ρ A = .ok false A1) : mIfS mt (mRet (mK (.bl false))) (mNext) ρ A = .nx ρ A1 := ifs_at h1 rfl
theorem lst_len {xs : List D} : fLen [.lst xs] A = .ok (.int (xs.length : Int)) A := by
  simp only [fLen, seqOf]
theorem tup_len {xs : List D} : fLen [.tup xs] A = .ok (.int (xs.length : Int)) A := by
  simp only [fLen, seqOf]
def upL : Nat → Int → List D
  | 0, _ => []
  | k + 1, i => .int i :: upL k (i + 1)
theorem rng_up : ∀ (k : Nat) (i : Int), ((List.range k).map fun j : Nat => D.int (i + (j : Int))) = upL k i
  | 0, _ => rfl
  | k + 1, i => by
    rw [List.range_succ_eq_map, List.map_cons, List.map_map, upL, ← rng_up k (i + 1)]
    congr 1
    · simp
    · refine List.map_congr_left fun j _ => ?_
      show D.int (i + ((j + 1 : Nat) : Int)) = _
      congr 1
      omega
theorem up_items {lo hi : Int} {k : Nat} (h : hi - lo = (k : Int)) (B : AH) : itemsOf B (.rng lo hi) = some (upL k lo) := by
  show some ((List.range (hi - lo).toNat).map fun i : Nat => D.int (lo + (i : Int))) = _
  rw [h, Int.toNat_natCast, rng_up]
theorem upl : ∀ (k : Nat) (i : Int), (upL k i).length = k
  | 0, _ => rfl
  | k + 1, i => by unfold upL; rw [List.length_cons, upl k]
theorem eq_lst0 {A : AH} {xs : List D} {qs : List PyData} {k : Nat} (h2 : toPys xs = some qs) (h3 : PyData.canLayAll0 qs = true) (h4 : PyData.depthAll qs ≤ k) (hk : k ≤ 63) {neg : Bool} :
    fEq neg (.lst xs) (.lst []) A = .ok (.bl (if neg then !xs.isEmpty else xs.isEmpty)) A := by
  have hz : SeqAt.shaped (.list []) = true := by decide +kernel
  have hs : SeqAt.shaped (.list qs) = true := by
    unfold SeqAt.shaped
    simp only [PyData.canLay0, PyData.depth, h3, Bool.true_and]
    exact decide_eq_true (by omega)
  have e0 : toPyA A (.lst xs) = some (.list qs) := toPyA_of (by simp only [toPy, h2, Option.map_some])
  rw [eq_pyS e0 (toPyA_of (q := .list []) rfl) rfl hs hz]
  have e1 : PyData.eqv (.list qs) (.list []) = xs.isEmpty := by
    simp only [PyData.eqv]
    rw [eqvAll_nil]
    cases xs with
    | nil => cases h2; rfl
    | cons x xs =>
      unfold toPys at h2
      split at h2
      · cases h2; rfl
      · cases h2
  rw [e1]
/-! ### images -/
theorem eqD_ints {L : List Int} {neg : Bool} : fEq neg (.lst (L.map D.int)) (.lst []) A = .ok (.bl (if neg then !L.isEmpty else L.isEmpty)) A := by
  have h : PyData.canLayAll0 (L.map PyData.int) = true ∧ PyData.depthAll (L.map PyData.int) ≤ 0 := by
    induction L with
    | nil => exact ⟨rfl, Nat.le_refl _⟩
    | cons x L ih =>
      simp only [List.map_cons, PyData.canLayAll0, PyData.canLay0, PyData.depthAll, PyData.depth, ih.1, Bool.true_and, true_and]
      omega
  have e := eq_lst0 (A := A) (neg := neg) (toPys_ints L) h.1 h.2 (by decide)
  rw [e]
  cases L <;> rfl
theorem repr_same {d : D} {k w : Nat} {p : PyData} {me me2 : ME} {A1 A2 : AH} (neg : Bool) (h1 : me ρ A = .ok d A1) (h2 : me2 ρ A1 = .ok d A2) (s : Shd k w d p) (hk : k ≤ 32) (hw : 22 * w + 20 ≤ 16777216) : mOp (fEq neg) (mCall fRepr (mCons me (mNil))) (mCall fRepr (mCons me2 (mNil))) ρ A = .ok (.bl (!neg)) A2 := by
  have c1 : mCall fRepr (mCons me (mNil)) ρ A = .ok (.str p.shown) A1 := call_at (cons_at h1 nil_at) (repr_fewB (toPyA_of s.1) s.2 hk (by decide) hw)
  have c2 : mCall fRepr (mCons me2 (mNil)) ρ A1 = .ok (.str p.shown) A2 := call_at (cons_at h2 nil_at) (repr_fewB (toPyA_of s.1) s.2 hk (by decide) hw)
  refine op_at c1 c2 ?_
  rw [eq_ss, decide_eq_true rfl]
  cases neg <;> rfl
theorem rep_no {d : D} {k w : Nat} {p : PyData} {me me2 : ME} {A1 A2 : AH} (h1 : me ρ A = .ok d A1) (h2 : me2 ρ A1 = .ok d A2) (s : Shd k w d p) (hk : k ≤ 32) (hw : 22 * w + 20 ≤ 16777216) : mTst (mOp (fEq true) (mCall fRepr (mCons me (mNil))) (mCall fRepr (mCons me2 (mNil)))) ρ A = .ok false A2 :=
  tst_at (repr_same true h1 h2 s hk hw)
theorem hs_lt {h q : Nat} {A : AH} (hs : HS h q A) : h < A.length ∧ q < A.length := by
  obtain ⟨_, L, s, e1, e2, _⟩ := hs
  exact ⟨(List.getElem?_eq_some_iff.mp e1).1, (List.getElem?_eq_some_iff.mp e2).1⟩
theorem hs_keep {h q : Nat} {A A' : AH} (hs : HS h q A) (k1 : A'[h]? = A[h]?) (k2 : A'[q]? = A[q]?) : HS h q A' := by
  obtain ⟨hq, L, s, e1, e2, r⟩ := hs
  exact ⟨hq, L, s, k1.trans e1, k2.trans e2, r⟩
theorem hs_push {h q : Nat} {A : AH} (hs : HS h q A) (B : AH) : HS h q (A ++ B) := hs_keep hs (List.getElem?_append_left (hs_lt hs).1) (List.getElem?_append_left (hs_lt hs).2)
theorem hs_set {h q n : Nat} {A : AH} {o : AO} (hs : HS h q A) (h1 : n ≠ h) (h2 : n ≠ q) : HS h q (A.set n o) := hs_keep hs (List.getElem?_set_ne h1) (List.getElem?_set_ne h2)
end SR
end
section
set_option maxHeartbeats 1000000
namespace SR
open PySem PySem.Spec PyProof.Rows L2 DM
variable {A : AH} {ρ : DM.Env}
mutual
def dep : D → Nat
  | .tup xs => deps xs + 1
  | .lst xs => deps xs + 1
  | _ => 0
def deps : List D → Nat
  | [] => 0
  | x :: xs => max (dep x) (deps xs)
end
mutual
def wgt : D → Nat
  | .tup xs => wgts xs
  | .lst xs => wgts xs
  | _ => 64
def wgts : List D → Nat
  | [] => 0
  | x :: xs => wgt x + 1 + wgts xs
end
mutual
inductive Pl : D → Prop
  | non : Pl .non
  | bl (b) : Pl (.bl b)
  | int {i : Int} : i.natAbs < 10 ^ 19 → Pl (.int i)
  | str {x : Str} : (∀ c ∈ x.cps.toList, c < 0x110000) → x.cps.toList.length ≤ 64 → Pl (.str x)
  | tup {xs : List D} : Pls xs → Pl (.tup xs)
  | lst {xs : List D} : Pls xs → Pl (.lst xs)
inductive Pls : List D → Prop
  | nil : Pls []
  | cons {x : D} {xs : List D} : Pl x → Pls xs → Pls (x :: xs)
end
theorem Pls.mem : ∀ {xs : List D}, Pls xs → ∀ x ∈ xs, Pl x
  | _, .nil, x, h => nomatch h
  | _, .cons a b, x, h => by
    rcases List.mem_cons.mp h with rfl | h
    · exact a
    · exact b.mem x h
theorem Pls.of : ∀ {xs : List D}, (∀ x ∈ xs, Pl x) → Pls xs
  | [], _ => .nil
  | x :: xs, h => .cons (h x List.mem_cons_self) (Pls.of fun y hy => h y (List.mem_cons_of_mem _ hy))
theorem dep_mem : ∀ {xs : List D} {x : D}, x ∈ xs → dep x ≤ deps xs
  | y :: ys, x, h => by
    unfold deps
    rcases List.mem_cons.mp h with rfl | h
    · exact Nat.le_max_left _ _
    · exact Nat.le_trans (dep_mem h) (Nat.le_max_right _ _)
theorem deps_le : ∀ {xs : List D} {k : Nat}, (∀ x ∈ xs, dep x ≤ k) → deps xs ≤ k
  | [], _, _ => Nat.zero_le _
  | x :: xs, k, h => by
    unfold deps
    exact Nat.max_le.mpr ⟨h x List.mem_cons_self, deps_le fun y hy => h y (List.mem_cons_of_mem _ hy)⟩
theorem wgts_le {k : Nat} : ∀ {xs : List D}, (∀ x ∈ xs, wgt x ≤ k) → wgts xs ≤ xs.length * (k + 1)
  | [], _ => Nat.zero_le _
  | x :: xs, h => by
    rw [wgts, List.length_cons, Nat.add_mul, Nat.one_mul]
    have h1 := h x List.mem_cons_self
    have h2 := wgts_le fun y hy => h y (List.mem_cons_of_mem _ hy)
    omega
mutual
theorem Pl.shd : ∀ {d : D}, Pl d → ∃ p, toPy d = some p ∧ p.canLay0 = true ∧ p.leavesShort 20 = true ∧ p.showable = true ∧ p.depth ≤ dep d ∧ p.weight ≤ wgt d
  | _, .non => ⟨_, rfl, rfl, rfl, rfl, Nat.le_refl _, Nat.zero_le _⟩
  | _, .bl b => ⟨_, rfl, rfl, rfl, rfl, Nat.le_refl _, Nat.zero_le _⟩
  | _, .int h => by
    have f := (shd_int h).2
    exact ⟨_, rfl, f.lay, f.short, f.sh, f.dep, f.wt⟩
  | _, .str h1 h2 => by
    have f := (shd_str h1 h2).2
    exact ⟨_, rfl, f.lay, f.short, f.sh, f.dep, f.wt⟩
  | _, .tup (xs := xs) h => by
    obtain ⟨ps, e, a, b, c, d, w⟩ := h.shd
    refine ⟨.tuple ps, by simp only [toPy, e, Option.map_some], by simpa only [PyData.canLay0] using a, by simpa only [PyData.leavesShort] using b, by simpa only [PyData.showable] using c, ?_, ?_⟩
    · simp only [PyData.depth, dep]; omega
    · simp only [PyData.weight, wgt]; exact w
  | _, .lst (xs := xs) h => by
    obtain ⟨ps, e, a, b, c, d, w⟩ := h.shd
    refine ⟨.list ps, by simp only [toPy, e, Option.map_some], by simpa only [PyData.canLay0] using a, by simpa only [PyData.leavesShort] using b, by simpa only [PyData.showable] using c, ?_, ?_⟩
    · simp only [PyData.depth, dep]; omega
    · simp only [PyData.weight, wgt]; exact w
theorem Pls.shd : ∀ {xs : List D}, Pls xs → ∃ ps, toPys xs = some ps ∧ PyData.canLayAll0 ps = true ∧ PyData.leavesShortAll 20 ps = true ∧ PyData.showableAll ps = true ∧ PyData.depthAll ps ≤ deps xs ∧ PyData.weightAll ps ≤ wgts xs
  | _, .nil => ⟨[], rfl, rfl, rfl, rfl, Nat.zero_le _, Nat.zero_le _⟩
  | _, .cons (x := x) (xs := xs) h r => by
    obtain ⟨p, e1, a1, b1, c1, d1, w1⟩ := h.shd
    obtain ⟨ps, e2, a2, b2, c2, d2, w2⟩ := r.shd
    refine ⟨p :: ps, by rw [toPys, e1, e2], ?_, ?_, ?_, ?_, ?_⟩
    · simp only [PyData.canLayAll0, a1, a2, Bool.and_self]
    · simp only [PyData.leavesShortAll, b1, b2, Bool.and_self]
    · simp only [PyData.showableAll, c1, c2, Bool.and_self]
    · simp only [PyData.depthAll, deps]; omega
    · simp only [PyData.weightAll, wgts]; omega
end
theorem Pl.sh {d : D} (h : Pl d) : ∃ p, Shd (dep d) (wgt d) d p := by
  obtain ⟨p, e, a, b, c, d1, w⟩ := h.shd
  exact ⟨p, e, a, b, c, d1, w⟩
/-! ### kinds -/
def isS : D → Bool
  | .str _ => true
  | _ => false
def isTp : D → Bool
  | .tup _ => true
  | _ => false
theorem isi_str {d : D} (o : Pl d) : fIsi [d, .ty "str"] A = .ok (.bl (isS d)) A := by cases o <;> rfl
theorem isi_tup {d : D} (o : Pl d) : fIsi [d, .ty "tuple"] A = .ok (.bl (isTp d)) A := by cases o <;> rfl
theorem cps_len (key : Str) : key.cps.toList.length = key.length := by simp [Str.length]
theorem str_len {key : Str} (hl : key.length ≤ 16777216) : fLen [.str key] A = .ok (.int (key.length : Int)) A := by
  show (if key.length ≤ 16777216 then Res.ok (D.int key.length) A else .no) = _
  rw [if_pos hl]
end SR
end
section
set_option maxHeartbeats 1000000
namespace SR
open PySem PySem.Spec PyProof.Rows L2 DM PySem.W
/-! ### rows of texts, in order -/
abbrev pyT (ns : List Str) : PyData := .tuple (ns.map .str)
theorem eqv_str {x y : Str} : PyData.eqv (.str x) (.str y) = decide (x = y) := by
  simp only [PyData.eqv]
  by_cases e : x = y
  · rw [decide_eq_true e]; exact beq_iff_eq.mpr e
  · rw [decide_eq_false e]; exact beq_eq_false_iff_ne.mpr e
theorem lexLeS_cons {x y : Str} {xs ys : List Str} : lexLeS (x :: xs) (y :: ys) = if x = y then lexLeS xs ys else sLe x y := rfl
theorem lt_rows : ∀ {xs ys : List Str}, xs.length = ys.length → PyProof.Rows.lexLt itemOrd (keyToksAll (xs.map PyData.str)) (keyToksAll (ys.map PyData.str)) = !lexLeS ys xs
  | [], [], _ => by
    show PyProof.Rows.lexLt itemOrd (keyToksAll []) (keyToksAll []) = false
    exact lex_irrefl _
  | x :: xs, y :: ys, h => by
    rw [List.map_cons, List.map_cons, dataLt_cons (x := .str x) (y := .str y) rfl, eqv_str, lt_rows (by simpa using h), lexLeS_cons]
    by_cases e : x = y
    · rw [if_pos (decide_eq_true e), if_pos e.symm]
    · rw [if_neg (by simp [e]), if_neg fun z => e z.symm, dataLt_str]
      show _ = !(!decide (sLt x y))
      rw [Bool.not_not]
theorem lt_tups {xs ys : List Str} (h : xs.length = ys.length) : dataLt (pyT xs) (pyT ys) = !lexLeS ys xs := by rw [dataLt_tuple, lt_rows h]
theorem leP_tot {α : Type} : TotalLe (leP (α := α)) := show TotalLe (sortLe (listOrd itemOrd) false fun b : α × PyData => keyToks b.2) from sortLe_total _ _ _
theorem zip_self {α β : Type} {f : α → β} : ∀ xs : List α, xs.zip (xs.map f) = xs.map fun x => (x, f x)
  | [] => rfl
  | x :: xs => by rw [List.map_cons, List.map_cons, List.zip_cons_cons, zip_self xs]
/-- keys that are rows of texts, sorted: rising -/
theorem srtP_keys {α : Type} {key : α → List Str} {n : Nat} {xs : List α} (hn : ∀ x ∈ xs, (key x).length = n) : (srtP xs (xs.map fun x => pyT (key x))).Perm xs ∧ (srtP xs (xs.map fun x => pyT (key x))).Pairwise fun a b => lexLeS (key a) (key b) = true := by
  refine ⟨srtP_perm (by rw [List.length_map]), ?_⟩
  unfold srtP
  rw [zip_self]
  obtain ⟨L, hL⟩ : ∃ L, L = (xs.map fun x => (x, pyT (key x))).mergeSort leP := ⟨_, rfl⟩
  have pm : L.Perm (xs.map fun x => (x, pyT (key x))) := by rw [hL]; exact List.mergeSort_perm ..
  have pw : L.Pairwise fun a b => leP a b = true := by rw [hL]; exact sort_pairwise leP_tot _
  have mem : ∀ z ∈ L, z.1 ∈ xs ∧ z.2 = pyT (key z.1) := fun z hz => by
    obtain ⟨x, hx, rfl⟩ := List.mem_map.mp (pm.mem_iff.mp hz)
    exact ⟨hx, rfl⟩
  rw [← hL, List.pairwise_map]
  refine List.Pairwise.imp_of_mem (fun {a b} ha hb h => ?_) pw
  obtain ⟨a1, a2⟩ := mem a ha
  obtain ⟨b1, b2⟩ := mem b hb
  have h2 : (!dataLt b.2 a.2) = true := h
  rw [a2, b2, lt_tups (by rw [hn _ a1, hn _ b1]), Bool.not_not] at h2
  exact h2
/-- the order is one -/
theorem lexLeS_anti : ∀ {xs ys : List Str}, xs.length = ys.length → lexLeS xs ys = true → lexLeS ys xs = true → xs = ys
  | [], [], _, _, _ => rfl
  | x :: xs, y :: ys, h, h1, h2 => by
    rw [lexLeS_cons] at h1 h2
    by_cases e : x = y
    · rw [if_pos e] at h1
      rw [if_pos e.symm] at h2
      rw [e, lexLeS_anti (by simpa using h) h1 h2]
    · rw [if_neg e] at h1
      rw [if_neg fun z => e z.symm] at h2
      exact absurd (sLe_anti h1 h2) e
theorem lexLeS_tot : ∀ {xs ys : List Str}, xs.length = ys.length → lexLeS xs ys = true ∨ lexLeS ys xs = true
  | [], [], _ => .inl rfl
  | x :: xs, y :: ys, h => by
    rw [lexLeS_cons, lexLeS_cons]
    by_cases e : x = y
    · rw [if_pos e, if_pos e.symm]
      exact lexLeS_tot (by simpa using h)
    · rw [if_neg e, if_neg fun z => e z.symm]
      have := sLe_total x y
      rw [Bool.or_eq_true] at this
      exact this
end SR
end
section
set_option maxHeartbeats 2000000
namespace GR
open PySem PySem.Spec PyProof.Rows L2 DM SR
variable [HasPW] {A : AH} {ρ : DM.Env} {h q c : Nat}
/-! ### small rules more -/
theorem chn_le {ma mb mc : ME} {i j k : Int} (h1 : ma ρ A = .ok (.int i) A) (h2 : mb ρ A = .ok (.int j) A) (h3 : mc ρ A = .ok (.int k) A) : mChn fLe fLe ma mb mc ρ A = .ok (.bl (decide (i ≤ j) && decide (j ≤ k))) A := by
  have l1 : fLe (.int i) (.int j) A = .ok (.bl (decide (i ≤ j))) A := le_ii
  have l2 : fLe (.int j) (.int k) A = .ok (.bl (decide (j ≤ k))) A := le_ii
  rw [ev_chn, h1, bind_ok, h2, bind_ok, l1, bind_ok]
  cases decide (i ≤ j) with
  | true =>
    show (mc ρ A).bind _ = _
    rw [h3, bind_ok, l2]
    rfl
  | false => rfl
theorem for_rt {iv : ItV} {all xs : List D} {x d : D} {t : Tg} {sb : MS} {ρ ρ1 : DM.Env} {A A2 : AH} (h : itemsOf A iv = some all) (hb : bindT t x ρ = some ρ1) (hs : sb ρ1 A = .rt d A2) : forGo iv all t sb (x :: xs) ρ A = .rt d A2 := by
  unfold forGo
  rw [if_pos h, hb]
  simp only [hs]
theorem for_ex {iv : ItV} {all xs : List D} {x : D} {t : Tg} {sb : MS} {ρ ρ1 ρ2 : DM.Env} {A A2 : AH} {C : Str} {fs : List (Str × D)} (h : itemsOf A iv = some all) (hb : bindT t x ρ = some ρ1) (hs : sb ρ1 A = .exc C fs ρ2 A2) : forGo iv all t sb (x :: xs) ρ A = .exc C fs ρ2 A2 := by
  unfold forGo
  rw [if_pos h, hb]
  simp only [hs]
theorem raise_at {C f : Str} {me : ME} {d : D} (h1 : me ρ A = .ok d A) : mRaise C f me ρ A = .exc C [(f, d)] ρ A := by
  rw [ev_raise, h1, lift_ok]
theorem isi_int {d : D} (o : Pl d) : fIsi [d, .ty "int"] A = .ok (.bl (match d with | .int _ => true | .bl _ => true | _ => false)) A := by cases o <;> rfl
theorem isi_bool {d : D} (o : Pl d) : fIsi [d, .ty "bool"] A = .ok (.bl (match d with | .bl _ => true | _ => false)) A := by cases o <;> rfl
/-! ### nodes, prices, lines -/
def SN : Str := "0123456789abcdefghijklmnopqrstuvwxyz"
def nodeB : D → Bool
  | .str x => decide (1 ≤ x.cps.toList.length) && decide (x.cps.toList.length ≤ 4) && x.cps.toList.all fun c => decide (c ∈ SN.cps.toList)
  | _ => false
theorem blsOf_map (bs : List Bool) : blsOf (bs.map D.bl) = some bs := by
  induction bs with
  | nil => rfl
  | cons b bs ih => rw [List.map_cons, blsOf, ih]; rfl
theorem is_node_at {d : D} (o : Pl d) : f_is_node [d] A = .ok (.bl (nodeB d)) A := by
  unfold f_is_node
  refine fun_rt (ret_at ?_)
  have t : mCall fIsi (mCons (mVar 0) (mCons (mK (.ty "str")) (mNil))) [some d, none] A = .ok (.bl (isS d)) A := call_at (cons_at (var_at rfl) (cons_at rfl nil_at)) (isi_str o)
  cases o with
  | @str x h1 h2 =>
    have hl : x.length ≤ 16777216 := by rw [← cps_len]; omega
    have ln : mCall fLen (mCons (mVar 0) (mNil)) [some (.str x), none] A = .ok (.int (x.length : Int)) A := call_at (cons_at (var_at rfl) nil_at) (str_len hl)
    have ch := chn_le (ma := mK (.int 1)) (mc := mK (.int 4)) (i := 1) (k := 4) rfl ln rfl
    have cp := comp_pure (A := A) (iv := .sq (.lst (charsD x))) (all := charsD x) (t := .nm 1) (tt := mYes) (me := mOp (fInC false) (mVar 1) (mK (.str SN))) (ρ := [some (.str x), none])
      (p := fun _ => true) (f := fun d => match d with | .str ⟨⟨[c]⟩⟩ => .bl (decide (c ∈ SN.cps.toList)) | _ => .non) rfl (charsD x) [] (fun y hy => by
        obtain ⟨c, hc, rfl⟩ := List.mem_map.mp hy
        exact ⟨[some (.str x), some (.str ⟨#[c]⟩)], rfl, rfl, fun _ => op_at (var_at rfl) rfl rfl⟩)
    have e : mLc false (mStrI (mVar 0)) (.nm 1) (mYes) (mOp (fInC false) (mVar 1) (mK (.str SN))) [1] [some (.str x), none] A = .ok (.lst _) A := lc_at (ρ1 := [some (.str x), none]) rfl rfl (by unfold charsD; rw [List.length_map]; omega) rfl cp
    have es : ((charsD x).filter fun _ => true).map (fun d => match d with | .str ⟨⟨[c]⟩⟩ => D.bl (decide (c ∈ SN.cps.toList)) | _ => .non) = (x.cps.toList.map fun c => decide (c ∈ SN.cps.toList)).map D.bl := by
      rw [filter_true]
      unfold charsD
      rw [List.map_map, List.map_map]
      rfl
    have al : mCall fAll (mCons (mLc false (mStrI (mVar 0)) (.nm 1) (mYes) (mOp (fInC false) (mVar 1) (mK (.str SN))) [1]) (mNil)) [some (.str x), none] A = .ok (.bl ((x.cps.toList.map fun c => decide (c ∈ SN.cps.toList)).all id)) A := by
      refine call_at (cons_at e nil_at) ?_
      rw [List.nil_append, es]
      show (match blsOf ((x.cps.toList.map fun c => decide (c ∈ SN.cps.toList)).map D.bl) with | some bs => Res.ok (D.bl (bs.all id)) A | none => .no) = _
      rw [blsOf_map]
    have z := andV_at t fun _ => andV_at ch fun _ => al
    refine z.trans ?_
    congr 2
    show (true && (decide ((1 : Int) ≤ (x.length : Int)) && decide ((x.length : Int) ≤ 4) && _)) = _
    rw [Bool.true_and, List.all_map, ← cps_len]
    unfold nodeB
    congr 2
    · congr 1
      exact propext (by omega)
    · congr 1
      exact propext (by omega)
  | _ => exact andV_at (b := false) t fun z => nomatch z
theorem nodeB_str {d : D} (h : nodeB d = true) : ∃ x, d = .str x := by
  cases d with
  | str x => exact ⟨x, rfl⟩
  | _ => cases h
def priceB : D → Bool
  | .int i => decide (0 ≤ i) && decide (i ≤ 1000000)
  | _ => false
theorem is_price_at {d : D} (o : Pl d) : f_is_price [d] A = .ok (.bl (priceB d)) A := by
  unfold f_is_price
  refine fun_rt (ret_at ?_)
  have t : mCallF 1 f_is_integer (mCons (mVar 0) (mNil)) [some d] A = .ok (.bl (match d with | .int _ => true | _ => false)) A := by
    refine callF_at (cons_at (var_at rfl) nil_at) rfl ?_
    unfold f_is_integer
    refine fun_rt (ret_at ?_)
    have z := andV_at (call_at (ρ := [some d]) (cons_at (me := mVar 0) (var_at rfl) (cons_at (me := mK (.ty "int")) rfl nil_at)) (isi_int (A := A) o)) fun _ => notV_at (call_at (cons_at (me := mVar 0) (var_at rfl) (cons_at (me := mK (.ty "bool")) rfl nil_at)) (isi_bool (A := A) o))
    refine z.trans ?_
    cases o <;> rfl
  cases o with
  | @int i hi =>
    have z := andV_at t fun _ => chn_le (ma := mK (.int 0)) (mb := mVar 0) (mc := mK (.int 1000000)) (i := 0) (j := i) (k := 1000000) rfl (var_at rfl) rfl
    refine z.trans ?_
    rfl
  | _ => exact andV_at (b := false) t fun z => nomatch z
def oI : Option Int → D
  | none => .non
  | some i => .int i
def tupN (n : Nat) : D → Bool
  | .tup xs => decide (xs.length = n)
  | _ => false
theorem tuple_of_at {d : D} {n : Nat} (o : Pl d) : f_is_tuple_of [d, .int (n : Int)] A = .ok (.bl (tupN n d)) A := by
  unfold f_is_tuple_of
  refine fun_rt (ret_at ?_)
  have t : mCall fIsi (mCons (mVar 0) (mCons (mK (.ty "tuple")) (mNil))) [some d, some (.int (n : Int))] A = .ok (.bl (isTp d)) A := call_at (cons_at (var_at rfl) (cons_at rfl nil_at)) (isi_tup o)
  cases o with
  | @tup xs p =>
    have z := andV_at t fun _ => op_at (ma := mCall fLen (mCons (mVar 0) (mNil))) (mb := mVar 1) (call_at (cons_at (var_at rfl) nil_at) tup_len) (var_at rfl) (eq_ints (A := A) (i := (xs.length : Int)) (j := (n : Int)) (neg := false))
    refine z.trans ?_
    congr 2
    show (true && (if false then _ else decide ((xs.length : Int) = (n : Int)))) = _
    rw [Bool.true_and, if_neg (by decide)]
    show _ = decide (xs.length = n)
    congr 1
    exact propext (by omega)
  | _ => exact andV_at (b := false) t fun z => nomatch z
def lineF : D → Option Int
  | .tup [a, k, b] => if nodeB a = true then (if nodeB k = true then (if nodeB b = true then none else some 2) else some 1) else some 0
  | _ => some (-1)
abbrev lineB (d : D) : Bool := (lineF d).isNone
theorem line_fault_at {d : D} (o : Pl d) : f_line_fault [d] A = .ok (oI (lineF d)) A := by
  unfold f_line_fault
  refine fun_rt ?_
  have t : mCallF 2 f_is_tuple_of (mCons (mVar 0) (mCons (mK (.int 3)) (mNil))) [some d, none, none] A = .ok (.bl (tupN 3 d)) A := callF_at (cons_at (var_at rfl) (cons_at rfl nil_at)) rfl (tuple_of_at (n := 3) o)
  cases hz : tupN 3 d with
  | false =>
    rw [hz] at t
    have e : lineF d = some (-1) := by
      unfold lineF
      split
      · cases hz
      · rfl
    rw [e]
    exact seq_rt (ifs_at (not_at (tst_at t)) (ret_at (neg_at rfl)))
  | true =>
    rw [hz] at t
    cases o with
    | @tup xs p =>
      obtain ⟨a, k, b, rfl⟩ : ∃ a k b, xs = [a, k, b] := by
        have : xs.length = 3 := of_decide_eq_true hz
        match xs, this with
        | [a, k, b], _ => exact ⟨a, k, b, rfl⟩
      have oa := p.mem a List.mem_cons_self
      have ok := p.mem k (List.mem_cons_of_mem _ List.mem_cons_self)
      have ob := p.mem b (List.mem_cons_of_mem _ (List.mem_cons_of_mem _ List.mem_cons_self))
      refine (seq_nx (ifs_at (not_at (tst_at t)) rfl)).trans ?_
      have hit : itemsOf A (.en (.tup [a, k, b])) = some (enumD 0 [a, k, b]) := rfl
      have en : mEnX (mCons (mVar 0) (mNil)) [some (.tup [a, k, b]), none, none] A = .ok (.en (.tup [a, k, b])) A := rfl
      have bd : ∀ {i : Int} {x : D} {R : DM.Env} (hx : Pl x) (h1 : R[1]? = some (some (.int i))) (h2 : R[2]? = some (some x)), b_line_fault1 R A = if nodeB x = true then .nx R A else .rt (.int i) A := fun {i x R} hx h1 h2 => by
        unfold b_line_fault1
        have t : mTst (mCallF 1 f_is_node (mCons (mVar 2) (mNil))) R A = .ok (nodeB x) A := tst_at (callF_at (cons_at (var_at h2) nil_at) rfl (is_node_at hx))
        refine ifs_at (not_at t) ?_
        cases nodeB x with
        | true => rfl
        | false => exact ret_at (var_at h1)
      have w1 := bd (i := 0) (x := a) (R := [some (.tup [a, k, b]), some (.int 0), some a]) oa rfl rfl
      have w2 := bd (i := 1) (x := k) (R := [some (.tup [a, k, b]), some (.int 1), some k]) ok rfl rfl
      have w3 := bd (i := 2) (x := b) (R := [some (.tup [a, k, b]), some (.int 2), some b]) ob rfl rfl
      show mSeq (mFor _ _ _) _ _ _ = .rt (oI (if nodeB a = true then (if nodeB k = true then (if nodeB b = true then none else some 2) else some 1) else some 0)) A
      by_cases ha : nodeB a = true
      · rw [if_pos ha] at w1 ⊢
        by_cases hk : nodeB k = true
        · rw [if_pos hk] at w2 ⊢
          by_cases hb : nodeB b = true
          · rw [if_pos hb] at w3 ⊢
            exact (seq_nx (for_at en hit ((for_nx hit rfl w1).trans ((for_nx hit rfl w2).trans ((for_nx hit rfl w3).trans (for_nil hit)))))).trans rfl
          · rw [if_neg hb] at w3 ⊢
            exact seq_rt (for_at en hit ((for_nx hit rfl w1).trans ((for_nx hit rfl w2).trans (for_rt hit rfl w3))))
        · rw [if_neg hk] at w2 ⊢
          exact seq_rt (for_at en hit ((for_nx hit rfl w1).trans (for_rt hit rfl w2)))
      · rw [if_neg ha] at w1 ⊢
        exact seq_rt (for_at en hit (for_rt hit rfl w1))
    | _ => cases hz
theorem isN_oI {o : Option Int} {neg : Bool} : fIsN neg (oI o) .non A = .ok (.bl (if neg then !o.isNone else o.isNone)) A := by
  cases o <;> cases neg <;> rfl
theorem is_line_at {d : D} (o : Pl d) : f_is_line [d] A = .ok (.bl (lineB d)) A := by
  unfold f_is_line
  refine fun_rt (ret_at (op_at (callF_at (cons_at (var_at rfl) nil_at) rfl (line_fault_at o)) rfl ?_))
  rw [isN_oI]
  rfl
theorem lineB_is {d : D} (h : lineB d = true) : ∃ a k b, d = .tup [.str a, .str k, .str b] ∧ nodeB (.str a) = true ∧ nodeB (.str k) = true ∧ nodeB (.str b) = true := by
  unfold lineB lineF at h
  split at h
  · rename_i a k b
    by_cases ha : nodeB a = true
    · by_cases hk : nodeB k = true
      · by_cases hb : nodeB b = true
        · obtain ⟨x, rfl⟩ := nodeB_str ha
          obtain ⟨y, rfl⟩ := nodeB_str hk
          obtain ⟨z, rfl⟩ := nodeB_str hb
          exact ⟨x, y, z, rfl, ha, hk, hb⟩
        · rw [if_pos ha, if_pos hk, if_neg hb] at h; cases h
      · rw [if_pos ha, if_neg hk] at h; cases h
    · rw [if_neg ha] at h; cases h
  · cases h
/-- what is checked: an error with the place, or none -/
theorem need_line_at {d : D} (o : Pl d) : f_need_line [d] A = (match lineF d with | none => .ok .non A | some i => .exc "InvalidLine" [("at", .int i)] A) := by
  unfold f_need_line
  have s := set_at (i := 1) (ρ := [some d, none]) (callF_at (n := 1) (ds := [d]) (cons_at (me := mVar 0) (var_at rfl) nil_at) rfl (line_fault_at (A := A) o))
  have t : mTst (mOp (fIsN true) (mVar 1) (mK .non)) [some d, some (oI (lineF d))] A = .ok (!(lineF d).isNone) A := tst_at (op_at (var_at rfl) rfl isN_oI)
  cases e : lineF d with
  | none =>
    rw [e] at t s
    exact fun_nx ((seq_nx s).trans (ifs_at t rfl))
  | some i =>
    rw [e] at t s
    exact fun_exc ((seq_nx s).trans (ifs_at t (raise_at (var_at rfl))))
end GR
end
section
set_option maxHeartbeats 2000000
namespace GR
open PySem PySem.Spec PyProof.Rows L2 DM SR
variable [HasPW] {A : AH} {ρ : DM.Env} {h q c : Nat}
/-! ### any value as a graph -/
def ovr (p : Option Str) (x : Str) : Bool := match p with
  | some y => sLe x y
  | none => false
def ovl (p : Option (List Str)) (x : List Str) : Bool := match p with
  | some y => lexLeS x y
  | none => false
def nodesF : Option Str → Nat → List D → Option Nat
  | _, _, [] => none
  | p, i, d :: ds => match d with
    | .str x => if nodeB (.str x) = true ∧ ovr p x = false then nodesF (some x) (i + 1) ds else some i
    | _ => some i
theorem nodesF_cons {p : Option Str} {i : Nat} {x : Str} {ds : List D} : nodesF p i (.str x :: ds) = if nodeB (.str x) = true ∧ ovr p x = false then nodesF (some x) (i + 1) ds else some i := by
  conv => lhs; unfold nodesF
def lineOf : D → Option (List Str)
  | .tup [.str a, .str k, .str b] => some [a, k, b]
  | _ => none
def keyOfE : D → Option (List Str)
  | .tup [l, _] => lineOf l
  | _ => none
def endsOk (ns : List Str) (p : Option (List Str)) : Option (List Str) → Bool
  | some [a, k, b] => decide (a ∈ ns) && decide (b ∈ ns) && !ovl p [a, k, b]
  | _ => false
def lineOk (ns : List Str) (p : Option (List Str)) : D → Bool
  | .tup [l, pr] => lineB l && priceB pr && endsOk ns p (lineOf l)
  | _ => false
def linesF (ns : List Str) : Option (List Str) → Nat → List D → Option Nat
  | _, _, [] => none
  | p, i, d :: ds => if lineOk ns p d = true then linesF ns (keyOfE d) (i + 1) ds else some i
def strsD (ds : List D) : List Str := ds.filterMap fun d => match d with | .str x => some x | _ => none
def graphF : D → Option Int
  | .tup [.tup ns, .tup ls] => (match nodesF none 0 ns with
    | some i => some (i : Int)
    | none => (linesF (strsD ns) none 0 ls).map fun i => ((ns.length + i : Nat) : Int))
  | _ => some (-1)
theorem nodes_strs : ∀ {ds : List D} {p : Option Str} {i : Nat}, nodesF p i ds = none → ds = (strsD ds).map D.str
  | [], _, _, _ => rfl
  | d :: ds, p, i, h => by
    cases d with
    | str x =>
      rw [nodesF_cons] at h
      by_cases z : nodeB (.str x) = true ∧ ovr p x = false
      · rw [if_pos z] at h
        have e : strsD (D.str x :: ds) = x :: strsD ds := rfl
        rw [e, List.map_cons, ← nodes_strs h]
      · rw [if_neg z] at h
        cases h
    | _ => cases h
theorem toPys_strs : ∀ ns : List Str, toPys (ns.map D.str) = some (ns.map PyData.str)
  | [] => rfl
  | n :: ns => by
    rw [List.map_cons, List.map_cons]
    unfold toPys
    rw [toPys_strs ns]
    rfl
theorem ok_str {x : Str} (h : Pl (.str x)) : PyData.canLay0 (.str x) = true := by
  obtain ⟨p, e, c, _⟩ := h.shd
  cases e
  exact c
theorem lay_strs : ∀ ns : List Str, (∀ x ∈ ns, Pl (.str x)) → PyData.canLayAll0 (ns.map PyData.str) = true ∧ PyData.depthAll (ns.map PyData.str) ≤ 0
  | [], _ => ⟨rfl, Nat.le_refl _⟩
  | n :: ns, h => by
    obtain ⟨h1, h2⟩ := lay_strs ns fun x hx => h x (List.mem_cons_of_mem _ hx)
    refine ⟨by simp only [List.map_cons, PyData.canLayAll0, ok_str (h n List.mem_cons_self), h1, Bool.true_and], ?_⟩
    rw [List.map_cons]
    unfold PyData.depthAll
    exact Nat.max_le.mpr ⟨by unfold PyData.depth; exact Nat.le_refl _, h2⟩
theorem in_strs {a : Str} {ns : List Str} {neg : Bool} (ha : Pl (.str a)) (hns : ∀ x ∈ ns, Pl (.str x)) : fInD neg (.str a) (.tup (ns.map D.str)) A = .ok (.bl (if neg then !decide (a ∈ ns) else decide (a ∈ ns))) A := by
  have h1 : toPyA A (.str a) = some (.str a) := rfl
  have h2 : toPyA A (.tup (ns.map D.str)) = some (.tuple (ns.map PyData.str)) := toPyA_of (by simp only [toPy, toPys_strs, Option.map_some])
  have s1 : SeqAt.shaped (.str a) = true := by
    unfold SeqAt.shaped
    rw [ok_str ha]
    simp only [PyData.depth, Bool.true_and]
    exact decide_eq_true (Nat.zero_le _)
  have s2 : SeqAt.shaped (.tuple (ns.map PyData.str)) = true := by
    unfold SeqAt.shaped
    have := lay_strs ns hns
    simp only [PyData.canLay0, PyData.depth, this.1, Bool.true_and]
    exact decide_eq_true (by omega)
  have an : ((ns.map PyData.str).any fun z => PyData.eqv z (.str a)) = decide (a ∈ ns) := by
    rw [List.any_map, Bool.eq_iff_iff, List.any_eq_true, decide_eq_true_iff]
    constructor
    · rintro ⟨x, hx, e⟩
      have e : PyData.eqv (.str x) (.str a) = true := e
      rw [eqv_str] at e
      rw [← of_decide_eq_true e]
      exact hx
    · intro hx
      exact ⟨a, hx, by show PyData.eqv (.str a) (.str a) = true; rw [eqv_str]; exact decide_eq_true rfl⟩
  unfold fInD
  rw [h1, h2]
  simp only [s1, s2, and_self, if_true, an]
theorem nodes_go {NS : List D} {x0 x2 x5 : Option D} : ∀ (ds : List D) (i : Nat) (p : Option Str) (x3 x4 : Option D), (∀ x ∈ ds, Pl x) → NS.drop i = ds → (i = 0 → p = none) → (∀ j, i = j + 1 → ∃ y, NS[j]? = some (.str y) ∧ p = some y) →
    ∃ y3 y4, forGo (.en (.tup NS)) (enumD 0 NS) (.tp [.nm 3, .nm 4]) b_graph_fault2 (enumD i ds) [x0, some (.tup NS), x2, x3, x4, x5] A = (match nodesF p i ds with | none => .nx [x0, some (.tup NS), x2, y3, y4, x5] A | some j => .rt (.int (j : Int)) A)
  | [], i, p, x3, x4, _, _, _, _ => ⟨x3, x4, for_nil rfl⟩
  | d :: ds, i, p, x3, x4, hp, hd, h0, h1 => by
    have od := hp d List.mem_cons_self
    have hat : NS[i]? = some d := by
      have : (NS.drop i)[0]? = NS[i]? := by rw [List.getElem?_drop]; rfl
      rw [hd] at this
      exact this.symm
    have hdr : NS.drop (i + 1) = ds := by rw [← List.drop_drop, hd]; rfl
    obtain ⟨R, hR⟩ : ∃ R : DM.Env, R = [x0, some (.tup NS), x2, some (.int (i : Int)), some d, x5] := ⟨_, rfl⟩
    have t1 : mTst (mCallF 1 f_is_node (mCons (mVar 4) (mNil))) R A = .ok (nodeB d) A := tst_at (callF_at (cons_at (var_at (by rw [hR]; rfl)) nil_at) rfl (is_node_at od))
    have r3 : R[3]? = some (some (.int (i : Int))) := by rw [hR]; rfl
    have r1 : R[1]? = some (some (.tup NS)) := by rw [hR]; rfl
    have r4 : R[4]? = some (some d) := by rw [hR]; rfl
    have hb : bindT (.tp [.nm 3, .nm 4]) (.qtup [.int (i : Int), d]) [x0, some (.tup NS), x2, x3, x4, x5] = some R := by rw [hR]; rfl
    have bad : ∀ (t : mOr (mNot (mTst (mCallF 1 f_is_node (mCons (mVar 4) (mNil))))) (mAnd (mTst (mOp fGt (mVar 3) (mK (.int 0)))) (mTst (mOp fLeX (mVar 4) (mOp fIx (mVar 1) (mOp fSub (mVar 3) (mK (.int 1))))))) R A = .ok true A), forGo (.en (.tup NS)) (enumD 0 NS) (.tp [.nm 3, .nm 4]) b_graph_fault2 (enumD i (d :: ds)) [x0, some (.tup NS), x2, x3, x4, x5] A = .rt (.int (i : Int)) A := fun t =>
      for_rt rfl hb (ifs_at t (ret_at (var_at r3)))
    cases hn : nodeB d with
    | false =>
      rw [hn] at t1
      have e : nodesF p i (d :: ds) = some i := by
        cases d with
        | str x =>
          rw [nodesF_cons, if_neg (by rw [hn]; simp)]
        | _ => rfl
      rw [e]
      exact ⟨x3, x4, bad (or_at (b := false) (not_at t1) fun z => nomatch z)⟩
    | true =>
      rw [hn] at t1
      obtain ⟨x, rfl⟩ := nodeB_str hn
      obtain ⟨b, hbb⟩ : ∃ b, b = ovr p x := ⟨_, rfl⟩
      have t2 : mAnd (mTst (mOp fGt (mVar 3) (mK (.int 0)))) (mTst (mOp fLeX (mVar 4) (mOp fIx (mVar 1) (mOp fSub (mVar 3) (mK (.int 1)))))) R A = .ok b A := by
        have g : mTst (mOp fGt (mVar 3) (mK (.int 0))) R A = .ok (decide ((0 : Int) < (i : Int))) A := tst_at (op_at (var_at r3) rfl gt_ii)
        cases i with
        | zero =>
          rw [h0 rfl] at hbb
          rw [hbb]
          have z := and_at (mu := mTst (mOp fLeX (mVar 4) (mOp fIx (mVar 1) (mOp fSub (mVar 3) (mK (.int 1)))))) (b := false) g (fun z => absurd (of_decide_eq_true z) (by decide)) (fun _ => rfl)
          exact z
        | succ j =>
          obtain ⟨y, hy, hp⟩ := h1 j rfl
          rw [hp] at hbb
          have ix : mOp fIx (mVar 1) (mOp fSub (mVar 3) (mK (.int 1))) R A = .ok (.str y) A := by
            refine op_at (var_at r1) (op_at (var_at r3) rfl sub_ii) ?_
            rw [show ((j + 1 : Nat) : Int) - 1 = (j : Int) by omega]
            exact DM.ix_tup (SR.atI_nat hy)
          have l : mTst (mOp fLeX (mVar 4) (mOp fIx (mVar 1) (mOp fSub (mVar 3) (mK (.int 1))))) R A = .ok (sLe x y) A := tst_at (op_at (var_at r4) ix rfl)
          have z := and_at g (fun _ => l) (fun _ => rfl)
          rw [decide_eq_true (show (0 : Int) < ((j + 1 : Nat) : Int) by omega), Bool.true_and] at z
          rw [hbb]
          exact z
      have t3 := or_at (not_at t1) fun _ => t2
      cases hb2 : b with
      | true =>
        rw [hb2] at t3 hbb
        have e : nodesF p i (D.str x :: ds) = some i := by
          rw [nodesF_cons, if_neg (by rw [← hbb]; simp)]
        rw [e]
        exact ⟨x3, x4, bad t3⟩
      | false =>
        rw [hb2] at t3 hbb
        have e : nodesF p i (D.str x :: ds) = nodesF (some x) (i + 1) ds := by
          rw [nodesF_cons, if_pos ⟨hn, hbb.symm⟩]
        rw [e]
        obtain ⟨y3, y4, go⟩ := nodes_go (NS := NS) (x0 := x0) (x2 := x2) (x5 := x5) ds (i + 1) (some x) (some (.int (i : Int))) (some (.str x)) (fun z hz => hp z (List.mem_cons_of_mem _ hz)) hdr (fun z => absurd z (Nat.succ_ne_zero _)) (fun j hj => ⟨x, by rw [show j = i by omega]; exact hat, rfl⟩)
        refine ⟨y3, y4, ?_⟩
        refine (for_nx (ρ2 := R) rfl hb (ifs_at t3 rfl)).trans ?_
        rw [hR]
        exact go
theorem lines_go {NS : List Str} {LS : List D} {x0 x4 : Option D} (hN : ∀ x ∈ NS, Pl (.str x)) : ∀ (ds : List D) (i : Nat) (p : Option (List Str)) (x3 x5 : Option D), (∀ x ∈ ds, Pl x) → LS.drop i = ds → (i = 0 → p = none) → (∀ j, i = j + 1 → ∃ a k b pr, LS[j]? = some (.tup [.tup [.str a, .str k, .str b], pr]) ∧ p = some [a, k, b]) →
    ∃ y3 y5, forGo (.en (.tup LS)) (enumD 0 LS) (.tp [.nm 3, .nm 5]) b_graph_fault1 (enumD i ds) [x0, some (.tup (NS.map D.str)), some (.tup LS), x3, x4, x5] A = (match linesF NS p i ds with | none => .nx [x0, some (.tup (NS.map D.str)), some (.tup LS), y3, x4, y5] A | some j => .rt (.int ((NS.length + j : Nat) : Int)) A)
  | [], i, p, x3, x5, _, _, _, _ => ⟨x3, x5, for_nil rfl⟩
  | d :: ds, i, p, x3, x5, hp, hd, h0, h1 => by
    have od := hp d List.mem_cons_self
    have hat : LS[i]? = some d := by
      have : (LS.drop i)[0]? = LS[i]? := by rw [List.getElem?_drop]; rfl
      rw [hd] at this
      exact this.symm
    have hdr : LS.drop (i + 1) = ds := by rw [← List.drop_drop, hd]; rfl
    obtain ⟨R, hR⟩ : ∃ R : DM.Env, R = [x0, some (.tup (NS.map D.str)), some (.tup LS), some (.int (i : Int)), x4, some d] := ⟨_, rfl⟩
    have r1 : R[1]? = some (some (.tup (NS.map D.str))) := by rw [hR]; rfl
    have r2 : R[2]? = some (some (.tup LS)) := by rw [hR]; rfl
    have r3 : R[3]? = some (some (.int (i : Int))) := by rw [hR]; rfl
    have r5 : R[5]? = some (some d) := by rw [hR]; rfl
    have hb : bindT (.tp [.nm 3, .nm 5]) (.qtup [.int (i : Int), d]) [x0, some (.tup (NS.map D.str)), some (.tup LS), x3, x4, x5] = some R := by rw [hR]; rfl
    have rr : mRet (mOp fAdd (mCall fLen (mCons (mVar 1) (mNil))) (mVar 3)) R A = .rt (.int ((NS.length + i : Nat) : Int)) A := by
      refine ret_at (op_at (call_at (cons_at (var_at r1) nil_at) tup_len) (var_at r3) ?_)
      rw [List.length_map, add_ii]
      congr 2
    have tp : mTst (mCallF 2 f_is_tuple_of (mCons (mVar 5) (mCons (mK (.int 2)) (mNil)))) R A = .ok (tupN 2 d) A := tst_at (callF_at (cons_at (var_at r5) (cons_at rfl nil_at)) rfl (tuple_of_at (n := 2) od))
    have no : lineOk NS p d = false → linesF NS p i (d :: ds) = some i := fun z => by
      unfold linesF
      rw [if_neg (by rw [z]; decide)]
    cases h2 : tupN 2 d with
    | false =>
      rw [h2] at tp
      have e : lineOk NS p d = false := by
        unfold lineOk
        split
        · cases h2
        · rfl
      rw [no e]
      exact ⟨x3, x5, for_rt rfl hb (seq_rt (ifs_at (or_at (b := false) (not_at tp) fun z => nomatch z) rr))⟩
    | true =>
      rw [h2] at tp
      obtain ⟨l, pr, rfl⟩ : ∃ l pr, d = .tup [l, pr] := by
        cases d with
        | tup xs =>
          have : xs.length = 2 := of_decide_eq_true h2
          match xs, this with
          | [l, pr], _ => exact ⟨l, pr, rfl⟩
        | _ => cases h2
      have ol : Pl l ∧ Pl pr := by
        cases od with
        | tup p => exact ⟨p.mem l List.mem_cons_self, p.mem pr (List.mem_cons_of_mem _ List.mem_cons_self)⟩
      have i0 : ∀ {R2 : DM.Env} (z : R2[5]? = some (some (.tup [l, pr]))), mOp fIx (mVar 5) (mK (.int 0)) R2 A = .ok l A := fun z => op_at (var_at z) rfl rfl
      have tl : mTst (mCallF 1 f_is_line (mCons (mOp fIx (mVar 5) (mK (.int 0))) (mNil))) R A = .ok (lineB l) A := tst_at (callF_at (cons_at (i0 r5) nil_at) rfl (is_line_at ol.1))
      have tpr : mTst (mCallF 1 f_is_price (mCons (mOp fIx (mVar 5) (mK (.int 1))) (mNil))) R A = .ok (priceB pr) A := tst_at (callF_at (cons_at (op_at (var_at r5) rfl rfl) nil_at) rfl (is_price_at ol.2))
      have t1 := or_at (not_at tp) fun _ => or_at (not_at tl) fun _ => not_at tpr
      cases hl : lineB l with
      | false =>
        rw [hl] at t1
        have e : lineOk NS p (.tup [l, pr]) = false := by
          show (lineB l && _ && _) = false
          rw [hl]; rfl
        rw [no e]
        exact ⟨x3, x5, for_rt rfl hb (seq_rt (ifs_at t1 rr))⟩
      | true =>
        cases hpr : priceB pr with
        | false =>
          rw [hl, hpr] at t1
          have e : lineOk NS p (.tup [l, pr]) = false := by
            show (lineB l && priceB pr && _) = false
            rw [hl, hpr]; rfl
          rw [no e]
          exact ⟨x3, x5, for_rt rfl hb (seq_rt (ifs_at t1 rr))⟩
        | true =>
          rw [hl, hpr] at t1
          obtain ⟨a, k, b, rfl, _, _, _⟩ := lineB_is hl
          have ia : mOp fIx (mOp fIx (mVar 5) (mK (.int 0))) (mK (.int 0)) R A = .ok (.str a) A := op_at (i0 r5) rfl rfl
          have ib : mOp fIx (mOp fIx (mVar 5) (mK (.int 0))) (mK (.int 2)) R A = .ok (.str b) A := op_at (i0 r5) rfl rfl
          have pab : Pl (.str a) ∧ Pl (.str b) := by
            cases ol.1 with
            | tup p => exact ⟨p.mem _ List.mem_cons_self, p.mem _ (List.mem_cons_of_mem _ (List.mem_cons_of_mem _ List.mem_cons_self))⟩
          have na : mTst (mOp (fInD true) (mOp fIx (mOp fIx (mVar 5) (mK (.int 0))) (mK (.int 0))) (mVar 1)) R A = .ok (!decide (a ∈ NS)) A := tst_at (op_at ia (var_at r1) (in_strs pab.1 hN))
          have nb : mTst (mOp (fInD true) (mOp fIx (mOp fIx (mVar 5) (mK (.int 0))) (mK (.int 2))) (mVar 1)) R A = .ok (!decide (b ∈ NS)) A := tst_at (op_at ib (var_at r1) (in_strs pab.2 hN))
          obtain ⟨bl, hbl⟩ : ∃ bl, bl = ovl p [a, k, b] := ⟨_, rfl⟩
          have t2 : mAnd (mTst (mOp fGt (mVar 3) (mK (.int 0)))) (mTst (mOp fLeTS (mOp fIx (mVar 5) (mK (.int 0))) (mOp fIx (mOp fIx (mVar 2) (mOp fSub (mVar 3) (mK (.int 1)))) (mK (.int 0))))) R A = .ok bl A := by
            have g : mTst (mOp fGt (mVar 3) (mK (.int 0))) R A = .ok (decide ((0 : Int) < (i : Int))) A := tst_at (op_at (var_at r3) rfl gt_ii)
            cases i with
            | zero =>
              rw [h0 rfl] at hbl
              rw [hbl]
              have z := and_at (mu := mTst (mOp fLeTS (mOp fIx (mVar 5) (mK (.int 0))) (mOp fIx (mOp fIx (mVar 2) (mOp fSub (mVar 3) (mK (.int 1)))) (mK (.int 0))))) (b := false) g (fun z => absurd (of_decide_eq_true z) (by decide)) (fun _ => rfl)
              exact z
            | succ j =>
              obtain ⟨a', k', b', pr', hy, hp'⟩ := h1 j rfl
              rw [hp'] at hbl
              have ix : mOp fIx (mOp fIx (mVar 2) (mOp fSub (mVar 3) (mK (.int 1)))) (mK (.int 0)) R A = .ok (.tup [.str a', .str k', .str b']) A := by
                have iy : mOp fIx (mVar 2) (mOp fSub (mVar 3) (mK (.int 1))) R A = .ok (.tup [.tup [.str a', .str k', .str b'], pr']) A := by
                  refine op_at (var_at r2) (op_at (var_at r3) rfl sub_ii) ?_
                  rw [show ((j + 1 : Nat) : Int) - 1 = (j : Int) by omega]
                  exact DM.ix_tup (SR.atI_nat hy)
                exact op_at iy rfl rfl
              have l : mTst (mOp fLeTS (mOp fIx (mVar 5) (mK (.int 0))) (mOp fIx (mOp fIx (mVar 2) (mOp fSub (mVar 3) (mK (.int 1)))) (mK (.int 0)))) R A = .ok (lexLeS [a, k, b] [a', k', b']) A := tst_at (op_at (i0 r5) ix rfl)
              have z := and_at g (fun _ => l) (fun _ => rfl)
              rw [decide_eq_true (show (0 : Int) < ((j + 1 : Nat) : Int) by omega), Bool.true_and] at z
              rw [hbl]
              exact z
          have t3 := or_at na fun _ => or_at nb fun _ => t2
          have ok : lineOk NS p (.tup [.tup [.str a, .str k, .str b], pr]) = !(!decide (a ∈ NS) || (!decide (b ∈ NS) || bl)) := by
            show (lineB (.tup [.str a, .str k, .str b]) && priceB pr && (decide (a ∈ NS) && decide (b ∈ NS) && !ovl p [a, k, b])) = _
            rw [hl, hpr, ← hbl]
            cases decide (a ∈ NS) <;> cases decide (b ∈ NS) <;> cases bl <;> rfl
          cases hz : (!decide (a ∈ NS) || (!decide (b ∈ NS) || bl)) with
          | true =>
            rw [hz] at t3 ok
            rw [no ok]
            exact ⟨x3, x5, for_rt rfl hb ((seq_nx (ifs_at t1 rfl)).trans (ifs_at t3 rr))⟩
          | false =>
            rw [hz] at t3 ok
            have e : linesF NS p i (.tup [.tup [.str a, .str k, .str b], pr] :: ds) = linesF NS (some [a, k, b]) (i + 1) ds := by
              conv => lhs; unfold linesF
              rw [if_pos (show lineOk NS p (.tup [.tup [.str a, .str k, .str b], pr]) = true from ok)]
              rfl
            rw [e]
            obtain ⟨y3, y5, go⟩ := lines_go (NS := NS) (LS := LS) (x0 := x0) (x4 := x4) hN ds (i + 1) (some [a, k, b]) (some (.int (i : Int))) (some (.tup [.tup [.str a, .str k, .str b], pr])) (fun z hz => hp z (List.mem_cons_of_mem _ hz)) hdr (fun z => absurd z (Nat.succ_ne_zero _)) (fun j hj => ⟨a, k, b, pr, by rw [show j = i by omega]; exact hat, rfl⟩)
            refine ⟨y3, y5, ?_⟩
            refine (for_nx (ρ2 := R) rfl hb ((seq_nx (ifs_at t1 rfl)).trans (ifs_at t3 rfl))).trans ?_
            rw [hR]
            exact go
theorem graph_fault_at {d : D} (o : Pl d) (hw : wgt d ≤ 1000000) : f_graph_fault [d] A = .ok (oI (graphF d)) A := by
  unfold f_graph_fault
  refine fun_rt ?_
  have tp : mTst (mCallF 2 f_is_tuple_of (mCons (mVar 0) (mCons (mK (.int 2)) (mNil)))) [some d, none, none, none, none, none] A = .ok (tupN 2 d) A := tst_at (callF_at (cons_at (var_at rfl) (cons_at rfl nil_at)) rfl (tuple_of_at (n := 2) o))
  cases h2 : tupN 2 d with
  | false =>
    rw [h2] at tp
    have e : graphF d = some (-1) := by
      unfold graphF
      split
      · cases h2
      · rfl
    rw [e]
    exact seq_rt (ifs_at (or_at (b := false) (not_at tp) fun z => nomatch z) (ret_at (neg_at rfl)))
  | true =>
    rw [h2] at tp
    obtain ⟨n, l, rfl⟩ : ∃ n l, d = .tup [n, l] := by
      cases d with
      | tup xs =>
        have : xs.length = 2 := of_decide_eq_true h2
        match xs, this with
        | [l, pr], _ => exact ⟨l, pr, rfl⟩
      | _ => cases h2
    have ol : Pl n ∧ Pl l := by
      cases o with
      | tup p => exact ⟨p.mem n List.mem_cons_self, p.mem l (List.mem_cons_of_mem _ List.mem_cons_self)⟩
    have tn : mTst (mCall fIsi (mCons (mOp fIx (mVar 0) (mK (.int 0))) (mCons (mK (.ty "tuple")) (mNil)))) [some (.tup [n, l]), none, none, none, none, none] A = .ok (isTp n) A := tst_at (call_at (cons_at (op_at (var_at rfl) rfl rfl) (cons_at rfl nil_at)) (isi_tup ol.1))
    have tl : mTst (mCall fIsi (mCons (mOp fIx (mVar 0) (mK (.int 1))) (mCons (mK (.ty "tuple")) (mNil)))) [some (.tup [n, l]), none, none, none, none, none] A = .ok (isTp l) A := tst_at (call_at (cons_at (op_at (var_at rfl) rfl rfl) (cons_at rfl nil_at)) (isi_tup ol.2))
    have t1 := or_at (not_at tp) fun _ => or_at (not_at tn) fun _ => not_at tl
    have out : isTp n = false ∨ isTp l = false → graphF (.tup [n, l]) = some (-1) := fun z => by
      unfold graphF
      split
      · rename_i e
        cases e
        rcases z with z | z <;> cases z
      · rfl
    cases hn : isTp n with
    | false =>
      rw [hn] at t1
      rw [out (.inl hn)]
      exact seq_rt (ifs_at t1 (ret_at (neg_at rfl)))
    | true =>
      cases hl : isTp l with
      | false =>
        rw [hn, hl] at t1
        rw [out (.inr hl)]
        exact seq_rt (ifs_at t1 (ret_at (neg_at rfl)))
      | true =>
        rw [hn, hl] at t1
        obtain ⟨ns, rfl⟩ : ∃ ns, n = .tup ns := by cases n <;> first | exact ⟨_, rfl⟩ | cases hn
        obtain ⟨ls, rfl⟩ : ∃ ls, l = .tup ls := by cases l <;> first | exact ⟨_, rfl⟩ | cases hl
        have pn : ∀ x ∈ ns, Pl x := by
          cases ol.1 with
          | tup p => exact p.mem
        have pl : ∀ x ∈ ls, Pl x := by
          cases ol.2 with
          | tup p => exact p.mem
        refine (seq_nx (ifs_at t1 rfl)).trans ?_
        refine (seq_nx (ρ1 := [some (.tup [.tup ns, .tup ls]), some (.tup ns), some (.tup ls), none, none, none]) (A1 := A) (by rw [ev_asg, var_at (d := .tup [.tup ns, .tup ls]) rfl, lift_ok]; rfl)).trans ?_
        have en : mEnT (mCons (mVar 1) (mNil)) [some (.tup [.tup ns, .tup ls]), some (.tup ns), some (.tup ls), none, none, none] A = .ok (.en (.tup ns)) A := enT_at (cons_at (var_at rfl) nil_at)
        obtain ⟨y3, y4, go⟩ := nodes_go (A := A) (NS := ns) (x0 := some (.tup [.tup ns, .tup ls])) (x2 := some (.tup ls)) (x5 := none) ns 0 none none none pn rfl (fun _ => rfl) (fun j hj => absurd hj (Nat.succ_ne_zero _).symm)
        have w1 := for_at (tg := .tp [.nm 3, .nm 4]) (sb := b_graph_fault2) en (rfl : itemsOf A (.en (.tup ns)) = some (enumD 0 ns)) go
        have gF : graphF (.tup [.tup ns, .tup ls]) = (match nodesF none 0 ns with | some i => some (i : Int) | none => (linesF (strsD ns) none 0 ls).map fun i => ((ns.length + i : Nat) : Int)) := rfl
        rw [gF]
        cases hN : nodesF none 0 ns with
        | some i =>
          rw [hN] at w1
          exact seq_rt w1
        | none =>
          rw [hN] at w1
          refine (seq_nx w1).trans ?_
          have es := nodes_strs hN
          obtain ⟨NS, hNS⟩ : ∃ NS, NS = strsD ns := ⟨_, rfl⟩
          rw [← hNS] at es ⊢
          subst es
          have hlen : ∀ x ∈ NS, Pl (.str x) := fun x hx => pn _ (List.mem_map.mpr ⟨x, hx, rfl⟩)
          have en2 : mEnT (mCons (mVar 2) (mNil)) [some (.tup [.tup (NS.map D.str), .tup ls]), some (.tup (NS.map D.str)), some (.tup ls), y3, y4, none] A = .ok (.en (.tup ls)) A := enT_at (cons_at (var_at rfl) nil_at)
          obtain ⟨z3, z5, go2⟩ := lines_go (A := A) (NS := NS) (LS := ls) (x0 := some (.tup [.tup (NS.map D.str), .tup ls])) (x4 := y4) hlen ls 0 none y3 none pl rfl (fun _ => rfl) (fun j hj => absurd hj (Nat.succ_ne_zero _).symm)
          have w2 := for_at (tg := .tp [.nm 3, .nm 5]) (sb := b_graph_fault1) en2 (rfl : itemsOf A (.en (.tup ls)) = some (enumD 0 ls)) go2
          cases hL : linesF NS none 0 ls with
          | some i =>
            rw [hL] at w2
            rw [List.length_map]
            exact seq_rt w2
          | none =>
            rw [hL] at w2
            exact (seq_nx w2).trans rfl
theorem is_graph_at {d : D} (o : Pl d) (hw : wgt d ≤ 1000000) : f_is_graph [d] A = .ok (.bl (graphF d).isNone) A := by
  unfold f_is_graph
  refine fun_rt (ret_at (op_at (callF_at (cons_at (var_at rfl) nil_at) rfl (graph_fault_at o hw)) rfl ?_))
  rw [isN_oI]
  rfl
theorem need_graph_at {d : D} (o : Pl d) (hw : wgt d ≤ 1000000) : f_need_graph [d] A = (match graphF d with | none => .ok .non A | some i => .exc "InvalidGraph" [("at", .int i)] A) := by
  unfold f_need_graph
  have s := set_at (i := 1) (ρ := [some d, none]) (callF_at (n := 1) (ds := [d]) (cons_at (me := mVar 0) (var_at rfl) nil_at) rfl (graph_fault_at (A := A) o hw))
  have t : mTst (mOp (fIsN true) (mVar 1) (mK .non)) [some d, some (oI (graphF d))] A = .ok (!(graphF d).isNone) A := tst_at (op_at (var_at rfl) rfl isN_oI)
  cases e : graphF d with
  | none =>
    rw [e] at t s
    exact fun_nx ((seq_nx s).trans (ifs_at t rfl))
  | some i =>
    rw [e] at t s
    exact fun_exc ((seq_nx s).trans (ifs_at t (raise_at (var_at rfl))))
end GR
end
section
set_option maxHeartbeats 2000000
namespace GR
open PySem PySem.Spec PyProof.Rows L2 DM SR
variable [HasPW] {A : AH} {ρ : DM.Env} {h q c : Nat}
/-! ### words -/
def isW (s : Str) : D → Bool
  | .str x => decide (x = s)
  | _ => false
theorem pl_shaped {d : D} (o : Pl d) (hd : dep d ≤ 60) : ∃ p, toPy d = some p ∧ SeqAt.shaped p = true := by
  obtain ⟨p, e, c, _, _, h2, _⟩ := o.shd
  refine ⟨p, e, ?_⟩
  unfold SeqAt.shaped
  rw [c, Bool.true_and]
  exact decide_eq_true (by omega)
theorem eqv_word {d : D} {p : PyData} {s : Str} (o : Pl d) (e : toPy d = some p) : PyData.eqv p (.str s) = isW s d ∧ PyData.eqv (.str s) p = isW s d := by
  cases o with
  | non => cases e; exact ⟨rfl, rfl⟩
  | bl b => cases e; exact ⟨rfl, rfl⟩
  | int h => cases e; exact ⟨rfl, rfl⟩
  | @str x h1 h2 =>
    cases e
    refine ⟨eqv_str, eqv_str.trans ?_⟩
    show decide (s = x) = decide (x = s)
    congr 1
    exact propext ⟨fun z => z.symm, fun z => z.symm⟩
  | @tup xs h =>
    obtain ⟨ps, h1, rfl⟩ := Option.map_eq_some_iff.mp (show (toPys xs).map PyData.tuple = some p from e)
    exact ⟨rfl, rfl⟩
  | @lst xs h =>
    obtain ⟨ps, h1, rfl⟩ := Option.map_eq_some_iff.mp (show (toPys xs).map PyData.list = some p from e)
    exact ⟨rfl, rfl⟩
abbrev Wd (s : Str) : Prop := PyData.canLay0 (.str s) = true
theorem shaped_word {s : Str} (hs : Wd s) : SeqAt.shaped (.str s) = true := by
  unfold SeqAt.shaped
  rw [hs]
  simp only [PyData.depth, Bool.true_and]
  exact decide_eq_true (Nat.zero_le _)
theorem eq_word {d : D} {s : Str} (o : Pl d) (hd : dep d ≤ 60) (hs : Wd s) : fEq false d (.str s) A = .ok (.bl (isW s d)) A := by
  obtain ⟨p, e, sp⟩ := pl_shaped o hd
  have ev := (eqv_word (s := s) o e).1
  have h1 : toPyA A d = some p := toPyA_of e
  have h2 : toPyA A (.str s) = some (.str s) := rfl
  have ss := shaped_word hs
  have c : cEq A d (.str s) = some (isW s d) := by
    cases o with
    | str _ _ => rfl
    | _ =>
      unfold cEq
      simp only [h1, h2, sp, ss, and_self, if_true, ev]
  unfold fEq
  rw [c]
  rfl
theorem in_words {d : D} {s1 s2 : Str} (o : Pl d) (hd : dep d ≤ 60) (h1 : Wd s1) (h2 : Wd s2) : fInD false d (.tup [.str s1, .str s2]) A = .ok (.bl (isW s1 d || isW s2 d)) A := by
  obtain ⟨p, e, sp⟩ := pl_shaped o hd
  have e1 : toPyA A d = some p := toPyA_of e
  have e2 : toPyA A (.tup [.str s1, .str s2]) = some (.tuple [.str s1, .str s2]) := rfl
  have ss : SeqAt.shaped (.tuple [.str s1, .str s2]) = true := by
    unfold SeqAt.shaped
    have : PyData.canLay0 (.tuple [.str s1, .str s2]) = true := by
      unfold PyData.canLay0
      unfold PyData.canLayAll0
      unfold PyData.canLayAll0
      unfold PyData.canLayAll0
      rw [h1, h2]
      rfl
    rw [this]
    rfl
  unfold fInD
  rw [e1, e2]
  simp only [sp, ss, and_self, if_true, List.any_cons, List.any_nil, (eqv_word (s := s1) o e).2, (eqv_word (s := s2) o e).2, Bool.or_false, Bool.false_eq_true, if_false]
/-! ### any value as a deed -/
def deedL (w x : D) (r : List D) : Option Int :=
  if ((isW "node" w || isW "drop" w) && r.isEmpty) = true then (if nodeB x = true then none else some 1)
  else if (isW "cut" w && r.isEmpty) = true then (if lineB x = true then none else some 1)
  else if isW "line" w = true then (match r with
    | [y] => if lineB x = true then (if priceB y = true then none else some 2) else some 1
    | _ => some (-1))
  else some (-1)
def deedF : D → Option Int
  | .tup (w :: x :: r) => deedL w x r
  | _ => some (-1)
theorem deed_fault_at {d : D} (o : Pl d) (hd : dep d ≤ 60) : f_deed_fault [d] A = .ok (oI (deedF d)) A := by
  unfold f_deed_fault
  refine fun_rt ?_
  have ti : mTst (mCall fIsi (mCons (mVar 0) (mCons (mK (.ty "tuple")) (mNil)))) [some d] A = .ok (isTp d) A := tst_at (call_at (cons_at (var_at rfl) (cons_at rfl nil_at)) (isi_tup o))
  cases hz : isTp d with
  | false =>
    rw [hz] at ti
    have e : deedF d = some (-1) := by
      unfold deedF
      split
      · cases hz
      · rfl
    rw [e]
    exact seq_rt (ifs_at (or_at (b := false) (not_at ti) fun z => nomatch z) (ret_at (neg_at rfl)))
  | true =>
    rw [hz] at ti
    obtain ⟨xs, rfl⟩ : ∃ xs, d = .tup xs := by cases d <;> first | exact ⟨_, rfl⟩ | cases hz
    have px : ∀ x ∈ xs, Pl x ∧ dep x ≤ 60 := fun x hx => by
      cases o with
      | tup p =>
        have h1 := dep_mem hx
        have h2 : deps xs + 1 ≤ 60 := hd
        exact ⟨p.mem x hx, by omega⟩
    have ln : ∀ {R : DM.Env} (hR : R[0]? = some (some (.tup xs))), mCall fLen (mCons (mVar 0) (mNil)) R A = .ok (.int (xs.length : Int)) A := fun hR => call_at (cons_at (var_at hR) nil_at) tup_len
    have tl : mTst (mOp fLt (mCall fLen (mCons (mVar 0) (mNil))) (mK (.int 2))) [some (.tup xs)] A = .ok (decide ((xs.length : Int) < 2)) A := tst_at (op_at (ln rfl) rfl lt_ii)
    have t1 := or_at (not_at ti) fun _ => tl
    rcases xs with _ | ⟨w, _ | ⟨x, r⟩⟩
    · exact seq_rt (ifs_at t1 (ret_at (neg_at rfl)))
    · exact seq_rt (ifs_at t1 (ret_at (neg_at rfl)))
    · have lr : ((w :: x :: r).length : Int) = (r.length : Int) + 2 := by simp only [List.length_cons]; omega
      rw [lr, decide_eq_false (show ¬ ((r.length : Int) + 2 < 2) by omega)] at t1
      refine (seq_nx (ifs_at t1 rfl)).trans ?_
      obtain ⟨ow, dw⟩ := px w List.mem_cons_self
      obtain ⟨ox, dx⟩ := px x (List.mem_cons_of_mem _ List.mem_cons_self)
      have i0 : mOp fIx (mVar 0) (mK (.int 0)) [some (.tup (w :: x :: r))] A = .ok w A := op_at (var_at rfl) rfl (DM.ix_tup (SR.atI_nat (j := 0) rfl))
      have i1 : mOp fIx (mVar 0) (mK (.int 1)) [some (.tup (w :: x :: r))] A = .ok x A := op_at (var_at rfl) rfl (DM.ix_tup (SR.atI_nat (j := 1) rfl))
      have l2 : mTst (mOp (fEq false) (mCall fLen (mCons (mVar 0) (mNil))) (mK (.int 2))) [some (.tup (w :: x :: r))] A = .ok r.isEmpty A := by
        refine tst_at (op_at (ln rfl) rfl ?_)
        rw [lr, eq_ints, if_neg (by decide)]
        congr 2
        cases r with
        | nil => rfl
        | cons y r => exact decide_eq_false (by simp only [List.length_cons]; omega)
      have tn : mTst (mCallF 1 f_is_node (mCons (mOp fIx (mVar 0) (mK (.int 1))) (mNil))) [some (.tup (w :: x :: r))] A = .ok (nodeB x) A := tst_at (callF_at (cons_at i1 nil_at) rfl (is_node_at ox))
      have tL : mTst (mCallF 1 f_is_line (mCons (mOp fIx (mVar 0) (mK (.int 1))) (mNil))) [some (.tup (w :: x :: r))] A = .ok (lineB x) A := tst_at (callF_at (cons_at i1 nil_at) rfl (is_line_at ox))
      have ta : mTst (mOp (fInD false) (mOp fIx (mVar 0) (mK (.int 0))) (mTup (mCons (mK (.str "node")) (mCons (mK (.str "drop")) (mNil))))) [some (.tup (w :: x :: r))] A = .ok (isW "node" w || isW "drop" w) A :=
        tst_at (op_at i0 rfl (in_words ow dw (by decide +kernel) (by decide +kernel)))
      have tc : mTst (mOp (fEq false) (mOp fIx (mVar 0) (mK (.int 0))) (mK (.str "cut"))) [some (.tup (w :: x :: r))] A = .ok (isW "cut" w) A := tst_at (op_at i0 rfl (eq_word ow dw (by decide +kernel)))
      have tli : mTst (mOp (fEq false) (mOp fIx (mVar 0) (mK (.int 0))) (mK (.str "line"))) [some (.tup (w :: x :: r))] A = .ok (isW "line" w) A := tst_at (op_at i0 rfl (eq_word ow dw (by decide +kernel)))
      have a1 := and_at ta (fun _ => l2) (fun _ => rfl)
      have a2 := and_at tc (fun _ => l2) (fun _ => rfl)
      show _ = SRes.rt (oI (deedL w x r)) A
      have dl : deedL w x r = if ((isW "node" w || isW "drop" w) && r.isEmpty) = true then (if nodeB x = true then none else some 1)
          else if (isW "cut" w && r.isEmpty) = true then (if lineB x = true then none else some 1)
          else if isW "line" w = true then (match r with
            | [y] => if lineB x = true then (if priceB y = true then none else some 2) else some 1
            | _ => some (-1))
          else some (-1) := rfl
      rw [dl]
      cases h1 : ((isW "node" w || isW "drop" w) && r.isEmpty) with
      | true =>
        rw [h1] at a1
        rw [if_pos rfl]
        refine seq_rt (ifs_at a1 (ret_at (if_at tn ?_)))
        cases nodeB x <;> rfl
      | false =>
        rw [h1] at a1
        rw [if_neg (by decide)]
        refine (seq_nx (ifs_at a1 rfl)).trans ?_
        cases h2 : (isW "cut" w && r.isEmpty) with
        | true =>
          rw [h2] at a2
          rw [if_pos rfl]
          refine seq_rt (ifs_at a2 (ret_at (if_at tL ?_)))
          cases lineB x <;> rfl
        | false =>
          rw [h2] at a2
          rw [if_neg (by decide)]
          refine (seq_nx (ifs_at a2 rfl)).trans ?_
          have l3 : mTst (mOp (fEq false) (mCall fLen (mCons (mVar 0) (mNil))) (mK (.int 3))) [some (.tup (w :: x :: r))] A = .ok (decide (r.length = 1)) A := by
            refine tst_at (op_at (ln rfl) rfl ?_)
            rw [lr, eq_ints, if_neg (by decide)]
            exact congrArg (fun b => Res.ok (D.bl b) A) (by congr 1; exact propext ⟨fun h => by omega, fun h => by omega⟩)
          have a3 := and_at tli (fun _ => l3) (fun _ => rfl)
          cases h3 : isW "line" w with
          | false =>
            rw [h3, Bool.false_and] at a3
            rw [if_neg (by decide)]
            exact (seq_nx (ifs_at a3 rfl)).trans (ret_at (neg_at rfl))
          | true =>
            rw [h3, Bool.true_and] at a3
            rw [if_pos rfl]
            rcases r with _ | ⟨y, _ | ⟨z, r⟩⟩
            · exact (seq_nx (ifs_at a3 rfl)).trans (ret_at (neg_at rfl))
            rotate_left
            · rw [decide_eq_false (show ¬ ((y :: z :: r).length = 1) by simp)] at a3
              exact (seq_nx (ifs_at a3 rfl)).trans (ret_at (neg_at rfl))
            · have oy := (px y (List.mem_cons_of_mem _ (List.mem_cons_of_mem _ List.mem_cons_self))).1
              have tp : mTst (mCallF 1 f_is_price (mCons (mOp fIx (mVar 0) (mK (.int 2))) (mNil))) [some (.tup [w, x, y])] A = .ok (priceB y) A := tst_at (callF_at (cons_at (op_at (var_at rfl) rfl (DM.ix_tup (SR.atI_nat (j := 2) rfl))) nil_at) rfl (is_price_at oy))
              refine seq_rt (ifs_at a3 ?_)
              show mSeq _ _ _ _ = _
              cases hL : lineB x with
              | false =>
                rw [hL] at tL
                exact seq_rt (ifs_at (not_at tL) rfl)
              | true =>
                rw [hL] at tL
                refine (seq_nx (ifs_at (not_at tL) rfl)).trans (ret_at (if_at tp ?_))
                show _ = Res.ok (oI (if true = true then (if priceB y = true then none else some 2) else some 1)) A
                cases priceB y <;> rfl
theorem is_deed_at {d : D} (o : Pl d) (hd : dep d ≤ 60) : f_is_deed [d] A = .ok (.bl (deedF d).isNone) A := by
  unfold f_is_deed
  refine fun_rt (ret_at (op_at (callF_at (cons_at (var_at rfl) nil_at) rfl (deed_fault_at o hd)) rfl ?_))
  rw [isN_oI]
  rfl
theorem need_deed_at {d : D} (o : Pl d) (hd : dep d ≤ 60) : f_need_deed [d] A = (match deedF d with | none => .ok .non A | some i => .exc "InvalidDeed" [("at", .int i)] A) := by
  unfold f_need_deed
  have s := set_at (i := 1) (ρ := [some d, none]) (callF_at (n := 1) (ds := [d]) (cons_at (me := mVar 0) (var_at rfl) nil_at) rfl (deed_fault_at (A := A) o hd))
  have t : mTst (mOp (fIsN true) (mVar 1) (mK .non)) [some d, some (oI (deedF d))] A = .ok (!(deedF d).isNone) A := tst_at (op_at (var_at rfl) rfl isN_oI)
  cases e : deedF d with
  | none =>
    rw [e] at t s
    exact fun_nx ((seq_nx s).trans (ifs_at t rfl))
  | some i =>
    rw [e] at t s
    exact fun_exc ((seq_nx s).trans (ifs_at t (raise_at (var_at rfl))))
/-! ### any value as a batch -/
def deedsF : Nat → List D → Option Nat
  | _, [] => none
  | i, d :: ds => if (deedF d).isNone = true then deedsF (i + 1) ds else some i
def batchF : D → Option Int
  | .tup xs => (deedsF 0 xs).map fun i => (i : Int)
  | .lst xs => (deedsF 0 xs).map fun i => (i : Int)
  | _ => some (-1)
theorem batch_go {d0 : D} {all : List D} {x0 : Option D} (hit : ∀ B : AH, itemsOf B (.en d0) = some (enumD 0 all)) : ∀ (ds : List D) (i : Nat) (x1 x2 : Option D), (∀ x ∈ ds, Pl x ∧ dep x ≤ 60) →
    ∃ y1 y2, forGo (.en d0) (enumD 0 all) (.tp [.nm 1, .nm 2]) b_need_batch1 (enumD i ds) [x0, x1, x2] A = (match deedsF i ds with | none => .nx [x0, y1, y2] A | some j => .exc "InvalidDeed" [("at", .int (j : Int))] [x0, y1, y2] A)
  | [], i, x1, x2, _ => ⟨x1, x2, for_nil (hit A)⟩
  | d :: ds, i, x1, x2, hp => by
    obtain ⟨od, dd⟩ := hp d List.mem_cons_self
    have t : mTst (mCallF 1 f_is_deed (mCons (mVar 2) (mNil))) [x0, some (.int (i : Int)), some d] A = .ok (deedF d).isNone A := tst_at (callF_at (cons_at (var_at rfl) nil_at) rfl (is_deed_at od dd))
    have e : deedsF i (d :: ds) = if (deedF d).isNone = true then deedsF (i + 1) ds else some i := rfl
    cases hz : (deedF d).isNone with
    | true =>
      rw [hz] at t e
      obtain ⟨y1, y2, go⟩ := batch_go (x0 := x0) hit ds (i + 1) (some (.int (i : Int))) (some d) fun x hx => hp x (List.mem_cons_of_mem _ hx)
      rw [e, if_pos rfl]
      exact ⟨y1, y2, (for_nx (ρ2 := [x0, some (.int (i : Int)), some d]) (hit A) rfl (ifs_at (not_at t) rfl)).trans go⟩
    | false =>
      rw [hz] at t e
      rw [e, if_neg (by decide)]
      exact ⟨some (.int (i : Int)), some d, for_ex (hit A) rfl (ifs_at (not_at t) (raise_at (var_at rfl)))⟩
theorem need_batch_at {d : D} (o : Pl d) (hd : dep d ≤ 60) : f_need_batch [d] A = (match batchF d with | none => .ok .non A | some i => .exc "InvalidDeed" [("at", .int i)] A) := by
  unfold f_need_batch
  have sq : mTst (mCallF 1 f_is_sequence (mCons (mVar 0) (mNil))) [some d, none, none] A = .ok (match d with | .tup _ => true | .lst _ => true | _ => false) A := by
    refine tst_at (callF_at (cons_at (var_at rfl) nil_at) rfl ?_)
    unfold f_is_sequence
    refine fun_rt (ret_at (call_at (cons_at (var_at rfl) (cons_at rfl nil_at)) ?_))
    cases o <;> rfl
  have seqs : ∀ (xs : List D), (d = .tup xs ∨ d = .lst xs) → (∀ x ∈ xs, Pl x ∧ dep x ≤ 60) → mFun 3 (mSeq (mIfS (mNot (mTst (mCallF 1 f_is_sequence (mCons (mVar 0) (mNil))))) (mRaise "InvalidDeed" "at" (mNeg (mK (.int 1)))) (mNext)) (mFor (mEnX (mCons (mVar 0) (mNil))) (.tp [.nm 1, .nm 2]) b_need_batch1)) [d] A = (match batchF d with | none => .ok .non A | some i => .exc "InvalidDeed" [("at", .int i)] A) := fun xs hx px => by
    have hit : ∀ B : AH, itemsOf B (.en d) = some (enumD 0 xs) := fun B => by rcases hx with rfl | rfl <;> rfl
    have en : mEnX (mCons (mVar 0) (mNil)) [some d, none, none] A = .ok (.en d) A := by
      rcases hx with rfl | rfl <;> rfl
    have bF : batchF d = (deedsF 0 xs).map fun i => (i : Int) := by rcases hx with rfl | rfl <;> rfl
    have sq' : mTst (mCallF 1 f_is_sequence (mCons (mVar 0) (mNil))) [some d, none, none] A = .ok true A := by
      rcases hx with rfl | rfl <;> exact sq
    obtain ⟨y1, y2, go⟩ := batch_go (A := A) (x0 := some d) hit xs 0 none none px
    have w := for_at (tg := .tp [.nm 1, .nm 2]) (sb := b_need_batch1) en (hit A) go
    rw [bF]
    cases hD : deedsF 0 xs with
    | none =>
      rw [hD] at w
      exact fun_nx ((seq_nx (ifs_at (not_at sq') rfl)).trans w)
    | some i =>
      rw [hD] at w
      exact fun_exc ((seq_nx (ifs_at (not_at sq') rfl)).trans w)
  cases o with
  | @tup xs p => exact seqs xs (.inl rfl) fun x hx => ⟨p.mem x hx, by have h1 := dep_mem hx; have h2 : deps xs + 1 ≤ 60 := hd; omega⟩
  | @lst xs p => exact seqs xs (.inr rfl) fun x hx => ⟨p.mem x hx, by have h1 := dep_mem hx; have h2 : deps xs + 1 ≤ 60 := hd; omega⟩
  | _ => exact fun_exc (seq_exc (ifs_at (not_at sq) (raise_at (neg_at rfl))))
end GR
end
section
set_option maxHeartbeats 2000000
namespace GR
open PySem PySem.Spec PyProof.Rows L2 DM SR
variable [HasPW] {A B C : AH} {ρ : DM.Env} {h q c : Nat}
/-! ### drawing: what is kept -/
def Gr (h q : Nat) (A A' : AH) : Prop := HS h q A' ∧ A.length ≤ A'.length ∧ ∀ n, n < A.length → n ≠ h → n ≠ q → A'[n]? = A[n]?
theorem Gr.refl (hs : HS h q A) : Gr h q A A := ⟨hs, Nat.le_refl _, fun _ _ _ _ => rfl⟩
theorem Gr.trans (a : Gr h q A B) (b : Gr h q B C) : Gr h q A C := ⟨b.1, Nat.le_trans a.2.1 b.2.1, fun n h0 h1 h2 => (b.2.2 n (Nat.lt_of_lt_of_le h0 a.2.1) h1 h2).trans (a.2.2 n h0 h1 h2)⟩
theorem Gr.of (d : Drawn h q A B) : Gr h q A B := ⟨d.2.1, Nat.le_of_eq d.1.symm, fun n _ h1 h2 => d.2.2 n h1 h2⟩
theorem Gr.push (hs : HS h q A) (X : AH) : Gr h q A (A ++ X) := ⟨hs_push hs X, by simp, fun n hn _ _ => List.getElem?_append_left hn⟩
theorem Gr.keep {n : Nat} {o : AO} (g : Gr h q A B) (h0 : A[n]? = some o) (h1 : n ≠ h) (h2 : n ≠ q) : B[n]? = some o := (g.2.2 n (List.getElem?_eq_some_iff.mp h0).1 h1 h2).trans h0
def Dr (h q : Nat) (me : ME) (ρ : DM.Env) (P : D → Prop) : Prop := ∀ A, HS h q A → ∃ d A', me ρ A = .ok d A' ∧ Gr h q A A' ∧ P d
def Da (h q : Nat) (ms : MA) (ρ : DM.Env) (P : List D → Prop) : Prop := ∀ A, HS h q A → ∃ ds A', ms ρ A = .ok ds A' ∧ Gr h q A A' ∧ P ds
def Dt (h q : Nat) (mt : MT) (ρ : DM.Env) (P : Bool → Prop) : Prop := ∀ A, HS h q A → ∃ b A', mt ρ A = .ok b A' ∧ Gr h q A A' ∧ P b
def Ds (h q : Nat) (s : MS) (ρ : DM.Env) (P : D → Prop) : Prop := ∀ A, HS h q A → ∃ d A', s ρ A = .rt d A' ∧ Gr h q A A' ∧ P d
def Df (h q : Nat) (f : List D → AH → Res D) (ds : List D) (P : D → Prop) : Prop := ∀ A, HS h q A → ∃ d A', f ds A = .ok d A' ∧ Gr h q A A' ∧ P d
variable {me ma mb : ME} {ms : MA} {mt : MT} {s sa sb : MS} {f : List D → AH → Res D} {P Q : D → Prop}
theorem dr_ok {d : D} (e : ∀ A, me ρ A = .ok d A) (p : P d) : Dr h q me ρ P := fun A hs => ⟨d, A, e A, .refl hs, p⟩
theorem Dr.imp (x : Dr h q me ρ P) (i : ∀ d, P d → Q d) : Dr h q me ρ Q := fun A hs => let ⟨d, A', e, g, p⟩ := x A hs; ⟨d, A', e, g, i d p⟩
theorem Df.imp {ds : List D} (x : Df h q f ds P) (i : ∀ d, P d → Q d) : Df h q f ds Q := fun A hs => let ⟨d, A', e, g, p⟩ := x A hs; ⟨d, A', e, g, i d p⟩
theorem Ds.imp (x : Ds h q s ρ P) (i : ∀ d, P d → Q d) : Ds h q s ρ Q := fun A hs => let ⟨d, A', e, g, p⟩ := x A hs; ⟨d, A', e, g, i d p⟩
theorem da_nil {P : List D → Prop} (p : P []) : Da h q mNil ρ P := fun A hs => ⟨[], A, rfl, .refl hs, p⟩
theorem da_cons {R : List D → Prop} (x : Dr h q me ρ P) (y : ∀ d, P d → Da h q ms ρ fun ds => R (d :: ds)) : Da h q (mCons me ms) ρ R := fun A hs =>
  let ⟨d, A1, e1, g1, p⟩ := x A hs
  let ⟨ds, A2, e2, g2, r⟩ := y d p A1 g1.1
  ⟨d :: ds, A2, cons_at e1 e2, g1.trans g2, r⟩
def AllP (P : D → Prop) (n : Nat) (ds : List D) : Prop := ds.length = n ∧ ∀ x ∈ ds, P x
theorem all_nil : Da h q mNil ρ (AllP P 0) := da_nil ⟨rfl, fun _ h => nomatch h⟩
theorem all_cons {n : Nat} (x : Dr h q me ρ P) (y : Da h q ms ρ (AllP P n)) : Da h q (mCons me ms) ρ (AllP P (n + 1)) := da_cons x fun d p A hs =>
  let ⟨ds, A', e, g, r⟩ := y A hs
  ⟨ds, A', e, g, by rw [List.length_cons, r.1], fun z hz => (List.mem_cons.mp hz).elim (fun e => e ▸ p) (r.2 z)⟩
def LstA (P : D → Prop) (d : D) : Prop := ∃ xs, d = .lst xs ∧ 0 < xs.length ∧ xs.length ≤ 1000 ∧ ∀ x ∈ xs, P x
theorem dr_lst {n : Nat} (x : Da h q ms ρ (AllP P (n + 1))) (hn : n < 1000) : Dr h q (mLst ms) ρ (LstA P) := fun A hs =>
  let ⟨ds, A', e, g, r⟩ := x A hs
  ⟨.lst ds, A', lst_at e (by rw [r.1]; omega), g, ds, rfl, by rw [r.1]; omega, by rw [r.1]; omega, r.2⟩
theorem dr_tup {R : List D → Prop} (x : Da h q ms ρ R) (y : ∀ ds, R ds → ds.length ≤ 1000 ∧ P (.tup ds)) : Dr h q (mTup ms) ρ P := fun A hs =>
  let ⟨ds, A', e, g, r⟩ := x A hs
  ⟨.tup ds, A', tup_at e (y ds r).1, g, (y ds r).2⟩
theorem dr_op {fo : D → D → AH → Res D} (x : Dr h q ma ρ P) (y : ∀ d, P d → Dr h q mb ρ fun e => ∃ z, (∀ B, fo d e B = .ok z B) ∧ Q z) : Dr h q (mOp fo ma mb) ρ Q := fun A hs =>
  let ⟨d, A1, e1, g1, p⟩ := x A hs
  let ⟨_, A2, e2, g2, z, ez, r⟩ := y d p A1 g1.1
  ⟨z, A2, op_at e1 e2 (ez A2), g1.trans g2, r⟩
theorem dr_call {n : Nat} (x : Da h q ms ρ fun ds => ds.length = n ∧ Df h q f ds P) : Dr h q (mCallF n f ms) ρ P := fun A hs =>
  let ⟨_, A1, e1, g1, hl, F⟩ := x A hs
  let ⟨d, A2, e2, g2, p⟩ := F A1 g1.1
  ⟨d, A2, callF_at e1 hl e2, g1.trans g2, p⟩
theorem any_nat {k : Nat} (h0 : 0 < k) (h1 : k < 1073741824) : Df h q f__law_any [.ref h, .int (k : Int)] fun d => ∃ v : Nat, d = .int (v : Int) ∧ v < k := fun A hs => by
  obtain ⟨v, A', e, v0, v1, dr⟩ := anyG_ok (k := (k : Int)) hs (by omega) (by omega)
  exact ⟨.int v, A', e, .of dr, v.toNat, by rw [show ((v.toNat : Nat) : Int) = v by omega], by omega⟩
theorem dr_any {i k : Nat} (hi : ρ[i]? = some (some (.ref h))) (h0 : 0 < k) (h1 : k < 1073741824) : Dr h q (mCallF 2 f__law_any (mCons (mVar i) (mCons (mK (.int (k : Int))) (mNil)))) ρ fun d => ∃ v : Nat, d = .int (v : Int) ∧ v < k :=
  dr_call fun A hs => ⟨_, A, cons_at (var_at hi) (cons_at rfl nil_at), .refl hs, rfl, any_nat h0 h1⟩
theorem of_lst {xs : List D} (h0 : 0 < xs.length) (h1 : xs.length ≤ 1000) (p : ∀ x ∈ xs, P x) : Df h q f__law_of [.ref h, .lst xs] P := fun A hs => by
  obtain ⟨i, hi, A', e, dr⟩ := ofG_ok (xs := xs) hs h0 (by omega)
  exact ⟨xs[i], A', e, .of dr, p _ (List.getElem_mem hi)⟩
theorem dr_of {i : Nat} (hi : ρ[i]? = some (some (.ref h))) (x : Dr h q me ρ (LstA P)) : Dr h q (mCallF 2 f__law_of (mCons (mVar i) (mCons me (mNil)))) ρ P :=
  dr_call (da_cons (P := fun d => d = .ref h) (dr_ok (fun A => var_at hi) rfl) fun d hd => da_cons x fun e he => da_nil ⟨rfl, by
    obtain ⟨xs, rfl, h0, h1, p⟩ := he
    rw [hd]
    exact of_lst h0 h1 p⟩)
theorem of_str {x : Str} (h0 : 0 < x.cps.toList.length) (h1 : x.cps.toList.length < 1000) : Df h q f__law_of [.ref h, .str x] fun d => ∃ c ∈ x.cps.toList, d = .str ⟨#[c]⟩ := fun A hs => by
  have hkl : (x.length : Nat) = x.cps.toList.length := by simp [Str.length]
  obtain ⟨_, A', e, g, v, rfl, hv⟩ := any_nat (k := x.cps.toList.length) h0 (by omega) A hs
  refine ⟨.str ⟨#[x.cps.toList[v]]⟩, A', ?_, g, _, List.getElem_mem hv, rfl⟩
  have ha : atI x.cps.toList (v : Int) = some x.cps.toList[v] := SR.atI_nat (List.getElem?_eq_getElem hv)
  have hx : fIx (.str x) (.int (v : Int)) A' = .ok (.str ⟨#[x.cps.toList[v]]⟩) A' := by
    unfold fIx
    simp only [show x.length ≤ 16777216 by omega, if_true, ha]
  unfold f__law_of
  refine fun_rt (ret_at (op_at (var_at rfl) (callF_at (cons_at (var_at rfl) (cons_at (call_at (cons_at (var_at rfl) nil_at) (str_len (by omega))) nil_at)) rfl ?_) hx))
  rw [hkl]
  exact e
/-! statements -/
theorem ds_ret (x : Dr h q me ρ P) : Ds h q (mRet me) ρ P := fun A hs => let ⟨d, A', e, g, p⟩ := x A hs; ⟨d, A', ret_at e, g, p⟩
theorem ds_set {i : Nat} (x : Dr h q me ρ P) (y : ∀ d, P d → Ds h q s (ρ.set i (some d)) Q) : Ds h q (mSeq (mSet i me) s) ρ Q := fun A hs =>
  let ⟨d, A1, e1, g1, p⟩ := x A hs
  let ⟨d2, A2, e2, g2, r⟩ := y d p A1 g1.1
  ⟨d2, A2, (seq_nx (set_at e1)).trans e2, g1.trans g2, r⟩
theorem asg2_at {i j : Nat} {x y : D} {A1 : AH} (h : me ρ A = .ok (.tup [x, y]) A1) : mAsg (.tp [.nm i, .nm j]) me ρ A = .nx ((ρ.set i (some x)).set j (some y)) A1 := by
  rw [ev_asg, h, lift_ok]
  rfl
theorem ds_asg2 {i j : Nat} (x : Dr h q me ρ fun d => ∃ a b, d = .tup [a, b] ∧ P (.tup [a, b])) (y : ∀ a b, P (.tup [a, b]) → Ds h q s ((ρ.set i (some a)).set j (some b)) Q) : Ds h q (mSeq (mAsg (.tp [.nm i, .nm j]) me) s) ρ Q := fun A hs =>
  let ⟨_, A1, e1, g1, a, b, hd, p⟩ := x A hs
  let ⟨d2, A2, e2, g2, r⟩ := y a b p A1 g1.1
  ⟨d2, A2, (seq_nx (asg2_at (by rw [e1, hd]))).trans e2, g1.trans g2, r⟩
theorem ds_par2 {i j : Nat} {R : D → D → Prop} (x : Da h q ms ρ fun ds => ∃ a b, ds = [a, b] ∧ R a b) (y : ∀ a b, R a b → Ds h q s ((ρ.set i (some a)).set j (some b)) Q) : Ds h q (mSeq (mPar2 i j ms) s) ρ Q := fun A hs =>
  let ⟨_, A1, e1, g1, a, b, hd, p⟩ := x A hs
  let ⟨d2, A2, e2, g2, r⟩ := y a b p A1 g1.1
  ⟨d2, A2, (seq_nx (by rw [ev_par2, e1, lift_ok, hd])).trans e2, g1.trans g2, r⟩
theorem ds_if {b : Bool} (x : Dt h q mt ρ fun k => k = b) (y : b = true → Ds h q sa ρ Q) (z : b = false → Ds h q s ρ Q) : Ds h q (mSeq (mIfS mt sa (mNext)) s) ρ Q := fun A hs => by
  obtain ⟨k, A1, e1, g1, rfl⟩ := x A hs
  cases k with
  | true =>
    obtain ⟨d2, A2, e2, g2, r⟩ := y rfl A1 g1.1
    exact ⟨d2, A2, seq_rt (ifs_at e1 e2), g1.trans g2, r⟩
  | false =>
    obtain ⟨d2, A2, e2, g2, r⟩ := z rfl A1 g1.1
    exact ⟨d2, A2, (seq_nx (ifs_at e1 rfl)).trans e2, g1.trans g2, r⟩
theorem ds_ifd (x : Dt h q mt ρ fun _ => True) (y : Ds h q sa ρ Q) (z : Ds h q s ρ Q) : Ds h q (mSeq (mIfS mt sa (mNext)) s) ρ Q := fun A hs => by
  obtain ⟨k, A1, e1, g1, _⟩ := x A hs
  cases k with
  | true =>
    obtain ⟨d2, A2, e2, g2, r⟩ := y A1 g1.1
    exact ⟨d2, A2, seq_rt (ifs_at e1 e2), g1.trans g2, r⟩
  | false =>
    obtain ⟨d2, A2, e2, g2, r⟩ := z A1 g1.1
    exact ⟨d2, A2, (seq_nx (ifs_at e1 rfl)).trans e2, g1.trans g2, r⟩
theorem dt_ok {b : Bool} (e : ∀ A, mt ρ A = .ok b A) : Dt h q mt ρ fun k => k = b := fun A hs => ⟨b, A, e A, .refl hs, rfl⟩
theorem dt_tst (x : Dr h q me ρ fun d => ∃ b, d = .bl b) : Dt h q (mTst me) ρ fun _ => True := fun A hs =>
  let ⟨_, A', e, g, b, hd⟩ := x A hs
  ⟨b, A', tst_at (hd ▸ e), g, trivial⟩
theorem df_of {n : Nat} {ds : List D} (x : Ds h q s (ds.map some ++ List.replicate (n - ds.length) none) P) (hn : ds.length ≤ n) : Df h q (mFun n s) ds P := fun A hs =>
  let ⟨d, A', e, g, p⟩ := x A hs
  ⟨d, A', fun_rt (by simpa using e), g, p⟩
theorem comp_dr {iv : ItV} {all : List D} {j : Nat} {me : ME} {ρ : DM.Env} (hit : ∀ B, itemsOf B iv = some all) : ∀ (xs acc : List D), (∀ x ∈ xs, ∀ y : Option D, Dr h q me (ρ.set j (some x)) P) → (hj : j < ρ.length) →
    ∀ A, HS h q A → ∃ ds A', compGo iv all (.nm j) mYes me ρ xs acc A = .ok (acc ++ ds) A' ∧ Gr h q A A' ∧ AllP P xs.length ds
  | [], acc, _, _, A, hs => ⟨[], A, by rw [List.append_nil]; exact comp_nil (hit A), .refl hs, rfl, fun _ h => nomatch h⟩
  | x :: xs, acc, hm, hj, A, hs => by
    obtain ⟨d, A1, e1, g1, p⟩ := hm x List.mem_cons_self none A hs
    obtain ⟨ds, A2, e2, g2, r⟩ := comp_dr (me := me) hit xs (acc ++ [d]) (fun y hy => hm y (List.mem_cons_of_mem _ hy)) hj A1 g1.1
    refine ⟨d :: ds, A2, ?_, g1.trans g2, by rw [List.length_cons, List.length_cons, r.1], fun z hz => (List.mem_cons.mp hz).elim (fun e => e ▸ p) (r.2 z)⟩
    rw [comp_step (hit A) (rfl : bindT (.nm j) x ρ = some (ρ.set j (some x))) rfl e1, e2, List.append_assoc]
    rfl
theorem rng_items {k : Nat} (B : AH) : itemsOf B (.rng 0 (k : Int)) = some (upL k 0) := up_items (by omega) B
/-- as many as are drawn for -/
theorem dr_many {j : Nat} {me2 : ME} {R : Nat → Prop} (x : Dr h q me ρ fun d => ∃ k : Nat, d = .int (k : Int) ∧ R k) (hb : ∀ k, R k → k ≤ 1000) (hj : j < ρ.length) (y : ∀ z, Dr h q me2 ((ρ.set j none).set j (some z)) P) : Dr h q (mLc false (mR1 (mCons me (mNil))) (.nm j) (mYes) me2 [j]) ρ fun d => ∃ ds, d = .lst ds ∧ R ds.length ∧ ∀ z ∈ ds, P z := fun A hs => by
  obtain ⟨_, A1, e1, g1, k, rfl, hk⟩ := x A hs
  have h1000 := hb k hk
  obtain ⟨ds, A2, e2, g2, r⟩ := comp_dr (P := P) (j := j) (me := me2) (ρ := ρ.set j none) (iv := .rng 0 (k : Int)) (all := upL k 0) rng_items (upL k 0) [] (fun z _ _ => y z) (by rw [List.length_set]; exact hj) A1 g1.1
  rw [upl] at r
  exact ⟨.lst ds, A2, lc_at (r1_at (cons_at e1 nil_at) (by omega)) (rng_items A1) (by rw [upl]; omega) rfl e2, g1.trans g2, ds, rfl, by rw [r.1]; exact hk, r.2⟩
theorem dr_anyx {i k : Nat} (hi : ρ[i]? = some (some (.ref h))) (x : ∀ A, me ρ A = .ok (.int (k : Int)) A) (h0 : 0 < k) (h1 : k < 1073741824) : Dr h q (mCallF 2 f__law_any (mCons (mVar i) (mCons me (mNil)))) ρ fun d => ∃ v : Nat, d = .int (v : Int) ∧ v < k :=
  dr_call fun A hs => ⟨_, A, cons_at (var_at hi) (cons_at (x A) nil_at), .refl hs, rfl, any_nat h0 h1⟩
/-! parts -/
theorem cut_pre (xs : List D) (k : Nat) : DM.cutD xs none (some (k : Int)) = xs.take k := by
  unfold DM.cutD
  rw [HT.sIx_none, HT.sIx_nat, List.drop_zero, Nat.sub_zero, List.take_eq_take_iff]
  omega
theorem cut_suf (xs : List D) (k : Nat) : DM.cutD xs (some (k : Int)) none = xs.drop k := by
  unfold DM.cutD
  rw [HT.sIx_none, HT.sIx_nat]
  by_cases hk : k ≤ xs.length
  · rw [Nat.min_eq_left hk, List.take_of_length_le (by rw [List.length_drop]; exact Nat.le_refl _)]
  · rw [Nat.min_eq_right (by omega), Nat.sub_self, List.take_zero, List.drop_eq_nil_of_le (by omega)]
theorem slt_pre {xs : List D} {k : Nat} {mp : ME} (h1 : me ρ A = .ok (.tup xs) A) (h2 : mp ρ A = .ok (.int (k : Int)) A) : mSl me (mNone) (mSome mp) ρ A = .ok (.tup (xs.take k)) A := by
  rw [ev_sl, h1, bind_ok, ev_none, bind_ok, ev_some, h2, bind_ok, bind_ok, ← cut_pre]
  rfl
theorem slt_suf {xs : List D} {k : Nat} {mp : ME} (h1 : me ρ A = .ok (.tup xs) A) (h2 : mp ρ A = .ok (.int (k : Int)) A) : mSl me (mSome mp) (mNone) ρ A = .ok (.tup (xs.drop k)) A := by
  rw [ev_sl, h1, bind_ok, ev_some, h2, bind_ok, bind_ok, ev_none, bind_ok, ← cut_suf]
  rfl
theorem sll_pre {xs : List D} {k : Nat} {mp : ME} (h1 : me ρ A = .ok (.lst xs) A) (h2 : mp ρ A = .ok (.int (k : Int)) A) : mSl me (mNone) (mSome mp) ρ A = .ok (.lst (xs.take k)) A := by
  rw [ev_sl, h1, bind_ok, ev_none, bind_ok, ev_some, h2, bind_ok, bind_ok, ← cut_pre]
  rfl
theorem sll_suf {xs : List D} {k : Nat} {mp : ME} (h1 : me ρ A = .ok (.lst xs) A) (h2 : mp ρ A = .ok (.int (k : Int)) A) : mSl me (mSome mp) (mNone) ρ A = .ok (.lst (xs.drop k)) A := by
  rw [ev_sl, h1, bind_ok, ev_some, h2, bind_ok, bind_ok, ev_none, bind_ok, ← cut_suf]
  rfl
theorem add_tt {xs ys : List D} (hl : xs.length + ys.length ≤ 100000) : fAdd (.tup xs) (.tup ys) A = .ok (.tup (xs ++ ys)) A := if_pos (by omega)
theorem add_ll {xs ys : List D} (hl : xs.length + ys.length ≤ 100000) : fAdd (.lst xs) (.lst ys) A = .ok (.lst (xs ++ ys)) A := if_pos (by omega)
theorem add_ss {x y : Str} (hl : x.length + y.length ≤ 100000) : fAdd (.str x) (.str y) A = .ok (.str (x ++ y)) A := if_pos (by omega)
end GR
end
section
set_option maxHeartbeats 2000000
namespace GR
open PySem PySem.Spec PyProof.Rows L2 DM SR
variable [HasPW] {A B C : AH} {ρ : DM.Env} {h q c : Nat}
/-! ### unlike nodes -/
def SG : Str := "abcdefghijklmnopqrstuvwxyz0123456789"
theorem sg_sn : ∀ c ∈ SG.cps.toList, c ∈ SN.cps.toList := by decide +kernel
theorem sg_len : SG.cps.toList.length = 36 := by decide +kernel
theorem sg_nd : SG.cps.toList.Nodup := by decide +kernel
theorem sn_lt : ∀ c ∈ SN.cps.toList, c < 128 := by decide +kernel
def sS (c : Nat) : Str := ⟨#[c]⟩
def tx (cs : List Nat) : Str := ⟨cs.toArray⟩
theorem join_foldl : ∀ (cs : List Nat) (a : Array Nat), (cs.map sS).foldl (fun acc p => acc ++ ("" : Str).cps ++ p.cps) a = a ++ cs.toArray
  | [], a => by simp
  | c :: cs, a => by
    rw [List.map_cons, List.foldl_cons, join_foldl cs]
    show (a ++ #[] ++ #[c]) ++ cs.toArray = a ++ (c :: cs).toArray
    simp
theorem join_all (cs : List Nat) : Txt.join "" (cs.map sS) = tx cs := by
  cases cs with
  | nil => rfl
  | cons c cs =>
    show (Str.mk ((cs.map sS).foldl (fun acc p => acc ++ ("" : Str).cps ++ p.cps) #[c])) = _
    rw [join_foldl]
    simp [tx]
theorem nodeB_tx {cs : List Nat} (h0 : 0 < cs.length) (h1 : cs.length ≤ 4) (h2 : ∀ c ∈ cs, c ∈ SN.cps.toList) : nodeB (.str (tx cs)) = true := by
  unfold nodeB
  have e : (tx cs).cps.toList = cs := by simp [tx]
  simp only [e]
  rw [decide_eq_true (show 1 ≤ cs.length by omega), decide_eq_true h1, Bool.true_and, Bool.true_and, List.all_eq_true]
  exact fun c hc => decide_eq_true (h2 c hc)
theorem nodeB_is {x : Str} (h : nodeB (.str x) = true) : 1 ≤ x.cps.toList.length ∧ x.cps.toList.length ≤ 4 ∧ ∀ c ∈ x.cps.toList, c ∈ SN.cps.toList := by
  unfold nodeB at h
  rw [Bool.and_eq_true, Bool.and_eq_true, List.all_eq_true] at h
  exact ⟨of_decide_eq_true h.1.1, of_decide_eq_true h.1.2, fun c hc => of_decide_eq_true (h.2 c hc)⟩
theorem pl_node {x : Str} (h : nodeB (.str x) = true) : Pl (.str x) :=
  let ⟨_, h2, h3⟩ := nodeB_is h
  .str (fun c hc => Nat.lt_trans (sn_lt c (h3 c hc)) (by decide)) (by omega)
def midC (sh i : Nat) : Nat := SG.cps.toList.getD ((sh + 5 * i) % 36) 0
def nmL (cs : List Nat) (p sh i : Nat) : List Nat := cs.take p ++ [midC sh i] ++ cs.drop (p + 1)
theorem mid_at (sh i : Nat) : SG.cps.toList[(sh + 5 * i) % 36]? = some (midC sh i) := by
  have hl : (sh + 5 * i) % 36 < SG.cps.toList.length := by rw [sg_len]; omega
  unfold midC
  rw [List.getD_eq_getElem?_getD, List.getElem?_eq_getElem hl]
  rfl
theorem mid_inj {sh i j : Nat} (hi : i < 36) (hj : j < 36) (e : midC sh i = midC sh j) : i = j := by
  have h1 := mid_at sh i
  have h2 := mid_at sh j
  rw [← e] at h2
  have l1 : (sh + 5 * i) % 36 < SG.cps.toList.length := by rw [sg_len]; omega
  have := (List.getElem?_inj l1 sg_nd).mp (h1.trans h2.symm)
  omega
theorem nmL_inj {cs : List Nat} {p sh i j : Nat} (hi : i < 36) (hj : j < 36) (e : tx (nmL cs p sh i) = tx (nmL cs p sh j)) : i = j := by
  have e1 : nmL cs p sh i = nmL cs p sh j := by
    have := congrArg (fun s : Str => s.cps.toList) e
    simpa [tx] using this
  unfold nmL at e1
  rw [List.append_assoc, List.append_assoc] at e1
  have e2 := List.append_cancel_left e1
  injection e2 with e3 _
  exact mid_inj hi hj e3
theorem nmL_ok {cs : List Nat} {p sh i : Nat} (hp : p < cs.length) (h4 : cs.length ≤ 4) (hc : ∀ c ∈ cs, c ∈ SG.cps.toList) : nodeB (.str (tx (nmL cs p sh i))) = true := by
  refine nodeB_tx ?_ ?_ fun c h => ?_
  · unfold nmL; simp; omega
  · unfold nmL
    rw [List.length_append, List.length_append, List.length_take, List.length_drop]
    simp only [List.length_cons, List.length_nil]
    omega
  · unfold nmL at h
    refine sg_sn c ?_
    rcases List.mem_append.mp h with h | h
    · rcases List.mem_append.mp h with h | h
      · exact hc c (List.mem_of_mem_take h)
      · rw [List.mem_singleton.mp h]
        exact List.mem_of_getElem? (mid_at sh i)
    · exact hc c (List.mem_of_mem_drop h)
def Nm (N : List Str) : Prop := N.Nodup ∧ ∀ x ∈ N, nodeB (.str x) = true
theorem chars_of {ds : List D} {S : List Nat} (p : ∀ d ∈ ds, ∃ c ∈ S, d = .str ⟨#[c]⟩) : ∃ cs : List Nat, ds = cs.map (fun c => D.str (sS c)) ∧ ∀ c ∈ cs, c ∈ S := by
  induction ds with
  | nil => exact ⟨[], rfl, fun _ h => nomatch h⟩
  | cons d ds ih =>
    obtain ⟨c, hc, rfl⟩ := p d List.mem_cons_self
    obtain ⟨cs, e, m⟩ := ih fun x hx => p x (List.mem_cons_of_mem _ hx)
    exact ⟨c :: cs, by rw [e]; rfl, fun z hz => (List.mem_cons.mp hz).elim (fun e => e ▸ hc) (m z)⟩
theorem strsOf_sS (cs : List Nat) : strsOf (cs.map fun c => D.str (sS c)) = some (cs.map sS) := by
  have := strsOf_map (cs.map sS)
  rw [List.map_map] at this
  exact this
theorem sum_ones (cs : List Nat) : ((cs.map sS).map (·.length)).sum = cs.length := by
  induction cs with
  | nil => rfl
  | cons c cs ih => rw [List.map_cons, List.map_cons, List.sum_cons, ih, List.length_cons]; show 1 + _ = _; omega
theorem join_at {me : ME} {A1 : AH} {cs : List Nat} (hx : me ρ A = .ok (.lst (cs.map fun c => D.str (sS c))) A1) (hl : cs.length ≤ 1000) : mJoin (mK (.str "")) me ρ A = .ok (.str (tx cs)) A1 := by
  unfold mJoin
  rw [ev_K, bind_ok]
  show (me ρ A).bind _ = _
  rw [hx, bind_ok]
  have e0 : ("" : Str).length = 0 := rfl
  simp only [seqOf, strsOf_sS, sum_ones, List.length_map, e0, Nat.mul_zero, Nat.add_zero, show cs.length ≤ 16777216 by omega, if_true, join_all]
theorem mulA_ii {i j : Int} (hi : 0 ≤ i ∧ i < 2147483647) (hj : 0 ≤ j ∧ j < 2147483647) : fMulA (.int i) (.int j) A = .ok (.int (i * j)) A := by
  have cm : CMul i j := .inl ⟨by omega, by omega⟩
  simp only [fMulA, cm, if_true]
theorem names_ok {n : Nat} (hn : n ≤ 7) : Df h q f__law_names [.ref h, .int (n : Int)] fun d => ∃ N : List Str, d = .lst (N.map D.str) ∧ N.length = n ∧ Nm N := by
  unfold f__law_names
  refine df_of ?_ (by simp)
  refine ds_set (P := fun d => d = .str SG) (dr_ok (fun _ => rfl) rfl) fun d hd => ?_
  subst hd
  refine ds_set (P := fun d => ∃ ds, d = .lst ds ∧ (0 < ds.length ∧ ds.length ≤ 4) ∧ ∀ z ∈ ds, ∃ c ∈ SG.cps.toList, z = .str ⟨#[c]⟩) (dr_many (R := fun k => 0 < k ∧ k ≤ 4) ?_ (fun k hk => by omega) (by simp) fun z => ?_) ?_
  · refine dr_op (P := fun d => d = .int 1) (dr_ok (fun _ => rfl) rfl) fun d hd => (dr_of (P := fun e => ∃ k : Nat, e = .int (k : Int) ∧ k ≤ 3) rfl (dr_lst (n := 3) (all_cons (dr_ok (fun _ => rfl) ⟨0, rfl, by decide⟩) (all_cons (dr_ok (fun _ => rfl) ⟨0, rfl, by decide⟩) (all_cons (dr_ok (fun _ => rfl) ⟨1, rfl, by decide⟩) (all_cons (dr_ok (fun _ => rfl) ⟨3, rfl, by decide⟩) all_nil)))) (by decide))).imp fun e he => ?_
    obtain ⟨k, rfl, hk⟩ := he
    subst hd
    exact ⟨.int ((1 + k : Nat) : Int), fun B => by rw [add_ii]; congr 2, 1 + k, rfl, by omega, by omega⟩
  · exact dr_call (da_cons (P := fun d => d = .ref h) (dr_ok (fun _ => var_at rfl) rfl) fun d hd => da_cons (P := fun d => d = .str SG) (dr_ok (fun _ => var_at rfl) rfl) fun e he => da_nil ⟨rfl, by
      rw [hd, he]
      exact of_str (by rw [sg_len]; decide) (by rw [sg_len]; decide)⟩)
  · rintro d ⟨ds, rfl, ⟨hl0, hl4⟩, hch⟩
    obtain ⟨cs, rfl, hcs⟩ := chars_of hch
    rw [List.length_map] at hl0 hl4
    refine ds_asg2 (P := fun d => ∃ p sh : Nat, d = .tup [.int (p : Int), .int (sh : Int)] ∧ p < cs.length ∧ sh < 36) ?_ ?_
    · refine dr_tup (R := fun ds => ∃ p sh : Nat, ds = [.int (p : Int), .int (sh : Int)] ∧ p < cs.length ∧ sh < 36) (da_cons (dr_anyx (k := cs.length) rfl (fun A => call_at (cons_at (var_at rfl) nil_at) (by rw [lst_len, List.length_map])) hl0 (by omega)) fun d hd => da_cons (dr_any (k := 36) rfl (by decide) (by decide)) fun e he => da_nil ?_) ?_
      · obtain ⟨p, rfl, hp⟩ := hd
        obtain ⟨sh, rfl, hs⟩ := he
        exact ⟨p, sh, rfl, hp, hs⟩
      · rintro ds ⟨p, sh, rfl, hp, hs⟩
        exact ⟨by simp, _, _, rfl, p, sh, rfl, hp, hs⟩
    · rintro a b ⟨p, sh, e, hp, hsh⟩
      injection e with e
      injection e with e1 e
      injection e with e2 _
      subst e1
      subst e2
      refine ds_ret ?_
      obtain ⟨R, hR⟩ : ∃ R : DM.Env, R = [some (.ref h), some (.int (n : Int)), some (.str SG), some (.lst (cs.map fun c => D.str (sS c))), some (.int (p : Int)), some (.int (sh : Int)), none] := ⟨_, rfl⟩
      have body : ∀ (A : AH) (i : Nat), i < 7 → mJoin (mK (.str "")) (mOp fAdd (mOp fAdd (mSl (mVar 3) (mNone) (mSome (mVar 4))) (mLst (mCons (mOp fIx (mVar 2) (mOp fMod (mCall fInt (mCons (mOp fAdd (mVar 5) (mOp fMulA (mK (.int 5)) (mVar 6))) (mNil))) (mK (.int 36)))) (mNil)))) (mSl (mVar 3) (mSome (mOp fAdd (mVar 4) (mK (.int 1)))) (mNone))) (R.set 6 (some (.int (i : Int)))) A = .ok (.str (tx (nmL cs p sh i))) A := fun A i hi => by
        have v3 : mVar 3 (R.set 6 (some (.int (i : Int)))) A = .ok (.lst (cs.map fun c => D.str (sS c))) A := var_at (by rw [hR]; rfl)
        have v4 : mVar 4 (R.set 6 (some (.int (i : Int)))) A = .ok (.int (p : Int)) A := var_at (by rw [hR]; rfl)
        have v2 : mVar 2 (R.set 6 (some (.int (i : Int)))) A = .ok (.str SG) A := var_at (by rw [hR]; rfl)
        have v5 : mVar 5 (R.set 6 (some (.int (i : Int)))) A = .ok (.int (sh : Int)) A := var_at (by rw [hR]; rfl)
        have v6 : mVar 6 (R.set 6 (some (.int (i : Int)))) A = .ok (.int (i : Int)) A := var_at (by rw [hR]; rfl)
        have m1 : mOp fMod (mCall fInt (mCons (mOp fAdd (mVar 5) (mOp fMulA (mK (.int 5)) (mVar 6))) (mNil))) (mK (.int 36)) (R.set 6 (some (.int (i : Int)))) A = .ok (.int (((sh + 5 * i) % 36 : Nat) : Int)) A := by
          refine op_at (call_at (cons_at (op_at v5 (op_at rfl v6 (mulA_ii (by omega) (by omega))) add_ii) nil_at) rfl) rfl ?_
          rw [mod_ii (by decide)]
          congr 2
        have ix : mOp fIx (mVar 2) (mOp fMod (mCall fInt (mCons (mOp fAdd (mVar 5) (mOp fMulA (mK (.int 5)) (mVar 6))) (mNil))) (mK (.int 36))) (R.set 6 (some (.int (i : Int)))) A = .ok (.str (sS (midC sh i))) A := by
          refine op_at v2 m1 ?_
          have ha : atI SG.cps.toList (((sh + 5 * i) % 36 : Nat) : Int) = some (midC sh i) := SR.atI_nat (mid_at sh i)
          unfold fIx
          simp only [show SG.length ≤ 16777216 by decide +kernel, if_true, ha]
          rfl
        refine join_at ?_ (by unfold nmL; rw [List.length_append, List.length_append, List.length_take, List.length_drop]; simp only [List.length_cons, List.length_nil]; omega)
        have e : (nmL cs p sh i).map (fun c => D.str (sS c)) = (cs.map fun c => D.str (sS c)).take p ++ [D.str (sS (midC sh i))] ++ (cs.map fun c => D.str (sS c)).drop (p + 1) := by
          unfold nmL
          rw [List.map_append, List.map_append, List.map_take, List.map_drop]
          rfl
        rw [e]
        refine op_at (op_at (sll_pre v3 v4) (lst_at (cons_at ix nil_at) (by simp)) (add_ll (by rw [List.length_take, List.length_map]; simp only [List.length_cons, List.length_nil]; omega))) (sll_suf (k := p + 1) v3 (op_at v4 rfl (by rw [add_ii]; congr 2))) (add_ll (by rw [List.length_append, List.length_take, List.length_drop, List.length_map]; simp only [List.length_cons, List.length_nil]; omega))
      intro A hs
      refine ⟨.lst (((List.range n).map fun i => tx (nmL cs p sh i)).map D.str), A, ?_, .refl hs, (List.range n).map fun i => tx (nmL cs p sh i), rfl, by simp, ?_, ?_⟩
      · have hit : itemsOf A (.rng 0 (n : Int)) = some ((List.range n).map fun j : Nat => D.int (j : Int)) := by
          rw [rng_items A]
          have := rng_up n 0
          rw [← this]
          congr 1
          refine List.map_congr_left fun j _ => ?_
          congr 1
          omega
        have cp := comp_pure (A := A) (iv := .rng 0 (n : Int)) (all := (List.range n).map fun j : Nat => D.int (j : Int)) (t := .nm 6) (tt := mYes) (me := mJoin (mK (.str "")) (mOp fAdd (mOp fAdd (mSl (mVar 3) (mNone) (mSome (mVar 4))) (mLst (mCons (mOp fIx (mVar 2) (mOp fMod (mCall fInt (mCons (mOp fAdd (mVar 5) (mOp fMulA (mK (.int 5)) (mVar 6))) (mNil))) (mK (.int 36)))) (mNil)))) (mSl (mVar 3) (mSome (mOp fAdd (mVar 4) (mK (.int 1)))) (mNone)))) (ρ := R)
          (p := fun _ => true) (f := fun d => match d with | .int i => .str (tx (nmL cs p sh i.toNat)) | _ => .non) hit ((List.range n).map fun j : Nat => D.int (j : Int)) [] (fun y hy => by
            obtain ⟨i, hi, rfl⟩ := List.mem_map.mp hy
            have hi := List.mem_range.mp hi
            exact ⟨R.set 6 (some (.int (i : Int))), rfl, rfl, fun _ => body A i (by omega)⟩)
        rw [filter_true, List.nil_append, List.map_map] at cp
        rw [List.map_map]
        refine lc_at (ρ1 := R) (r1_at (j := (n : Int)) (cons_at (var_at rfl) nil_at) (by omega)) hit (by simp; omega) (by rw [hR]; rfl) ?_
        refine cp.trans ?_
        congr 1
      · refine (List.pairwise_map.mpr ?_)
        refine List.Pairwise.imp_of_mem (fun {a b} ha hb hne e => ?_) (List.nodup_range (n := n))
        have ha := List.mem_range.mp ha
        have hb := List.mem_range.mp hb
        exact hne (nmL_inj (by omega) (by omega) e)
      · intro x hx
        obtain ⟨i, _, rfl⟩ := List.mem_map.mp hx
        exact nmL_ok hp hl4 hcs
/-! ### prices, deeds -/
theorem pow_ok : ∀ B : AH, fPow (.int 10) (.int 6) B = .ok (.int 1000000) B := fun B => by
  have pw : CPow 10 6 := ⟨by decide, by decide, by decide⟩
  simp only [fPow, fI, pw, if_true]
  rfl
theorem pow6 (A : AH) : mOp fPow (mK (.int 10)) (mK (.int 6)) ρ A = .ok (.int 1000000) A := op_at rfl rfl (pow_ok A)
def PrD (d : D) : Prop := ∃ k : Nat, d = .int (k : Int) ∧ k ≤ 1000000
theorem price_ok : Df h q f__law_price [.ref h] PrD := by
  unfold f__law_price
  refine df_of (ds_ret (dr_of rfl (dr_lst (n := 5) (all_cons (dr_ok (fun _ => rfl) ⟨0, rfl, by decide⟩) (all_cons (dr_ok (fun _ => rfl) ⟨1, rfl, by decide⟩) (all_cons (dr_ok (fun _ => rfl) ⟨1, rfl, by decide⟩) (all_cons (dr_ok (fun _ => rfl) ⟨2, rfl, by decide⟩) (all_cons (dr_ok pow6 ⟨1000000, rfl, by decide⟩) (all_cons ?_ all_nil)))))) (by decide)))) (by simp)
  refine (dr_anyx (k := 1000001) rfl (fun A => op_at (pow6 A) rfl (by rw [add_ii]; rfl)) (by decide) (by decide)).imp fun d hd => ?_
  obtain ⟨v, rfl, hv⟩ := hd
  exact ⟨v, rfl, by omega⟩
theorem price_B {d : D} (p : PrD d) : priceB d = true := by
  obtain ⟨k, rfl, hk⟩ := p
  show (decide (0 ≤ (k : Int)) && decide ((k : Int) ≤ 1000000)) = true
  rw [decide_eq_true (show (0 : Int) ≤ (k : Int) by omega), decide_eq_true (show (k : Int) ≤ 1000000 by omega)]
  rfl
abbrev L3 := Str × Str × Str
abbrev lnD (l : L3) : D := .tup [.str l.1, .str l.2.1, .str l.2.2]
def LnOf (N K : List Str) (l : L3) : Prop := l.1 ∈ N ∧ l.2.1 ∈ K ∧ l.2.2 ∈ N
inductive Deed (N K : List Str) : D → Prop
  | node {w x : Str} : w = "node" ∨ w = "drop" → x ∈ N → Deed N K (.tup [.str w, .str x])
  | cut {l : L3} : LnOf N K l → Deed N K (.tup [.str "cut", lnD l])
  | line {l : L3} {p : D} : LnOf N K l → PrD p → Deed N K (.tup [.str "line", lnD l, p])
theorem dr_nm {i j : Nat} {N : List Str} (hi : ρ[i]? = some (some (.ref h))) (hj : ρ[j]? = some (some (.lst (N.map D.str)))) (h0 : 0 < N.length) (h1 : N.length ≤ 1000) : Dr h q (mCallF 2 f__law_of (mCons (mVar i) (mCons (mVar j) (mNil)))) ρ fun d => ∃ x ∈ N, d = .str x :=
  dr_of hi (dr_ok (fun A => var_at hj) ⟨_, rfl, by rw [List.length_map]; exact h0, by rw [List.length_map]; exact h1, fun y hy => by
    obtain ⟨x, hx, rfl⟩ := List.mem_map.mp hy
    exact ⟨x, hx, rfl⟩⟩)
theorem deed_ok {N K : List Str} (n0 : 0 < N.length) (n1 : N.length ≤ 1000) (k0 : 0 < K.length) (k1 : K.length ≤ 1000) : Df h q f__law_deed [.ref h, .lst (N.map D.str), .lst (K.map D.str)] (Deed N K) := by
  unfold f__law_deed
  refine df_of (ds_set (dr_any (k := 10) rfl (by decide) (by decide)) ?_) (by simp)
  rintro d ⟨v, rfl, hv⟩
  refine ds_if (b := decide ((v : Int) < 2)) (dt_ok fun A => tst_at (op_at (var_at rfl) rfl lt_ii)) (fun _ => ds_ret ?_) fun _ => ?_
  · refine dr_tup (R := fun ds => ∃ w x : Str, ds = [.str w, .str x] ∧ (w = "node" ∨ w = "drop") ∧ x ∈ N) (da_cons (dr_of (P := fun e => ∃ w : Str, e = .str w ∧ (w = "node" ∨ w = "drop")) rfl (dr_lst (n := 1) (all_cons (dr_ok (fun _ => rfl) ⟨_, rfl, .inl rfl⟩) (all_cons (dr_ok (fun _ => rfl) ⟨_, rfl, .inr rfl⟩) all_nil)) (by decide))) fun d hd => da_cons (dr_nm rfl rfl n0 n1) fun e he => da_nil ?_) ?_
    · obtain ⟨w, rfl, hw⟩ := hd
      obtain ⟨x, hx, rfl⟩ := he
      exact ⟨w, x, rfl, hw, hx⟩
    · rintro ds ⟨w, x, rfl, hw, hx⟩
      exact ⟨by simp, .node hw hx⟩
  · refine ds_set (P := fun d => ∃ l : L3, d = lnD l ∧ LnOf N K l) (dr_tup (R := fun ds => ∃ l : L3, ds = [.str l.1, .str l.2.1, .str l.2.2] ∧ LnOf N K l) (da_cons (dr_nm rfl rfl n0 n1) fun d hd => da_cons (dr_nm rfl rfl k0 k1) fun e he => da_cons (dr_nm rfl rfl n0 n1) fun f hf => da_nil ?_) ?_) ?_
    · obtain ⟨x, hx, rfl⟩ := hd
      obtain ⟨y, hy, rfl⟩ := he
      obtain ⟨z, hz, rfl⟩ := hf
      exact ⟨(x, y, z), rfl, hx, hy, hz⟩
    · rintro ds ⟨l, rfl, hl⟩
      exact ⟨by simp, l, rfl, hl⟩
    · rintro d ⟨l, rfl, hl⟩
      refine ds_ret ?_
      intro A hs
      have t : mTst (mOp (fEq false) (mVar 3) (mK (.int 2))) [some (.ref h), some (.lst (N.map D.str)), some (.lst (K.map D.str)), some (.int (v : Int)), some (lnD l)] A = .ok (decide ((v : Int) = 2)) A := tst_at (op_at (var_at rfl) rfl rfl)
      cases hz : decide ((v : Int) = 2) with
      | true =>
        rw [hz] at t
        exact ⟨.tup [.str "cut", lnD l], A, if_at t (tup_at (cons_at rfl (cons_at (var_at rfl) nil_at)) (by simp)), .refl hs, .cut hl⟩
      | false =>
        rw [hz] at t
        obtain ⟨p, A', e, g, hp⟩ := price_ok (h := h) (q := q) A hs
        exact ⟨.tup [.str "line", lnD l, p], A', if_at t (tup_at (cons_at rfl (cons_at (var_at rfl) (cons_at (callF_at (cons_at (var_at rfl) nil_at) rfl e) nil_at))) (by simp)), g, .line hl hp⟩
theorem line_nm {N K : List Str} (hN : ∀ x ∈ N, nodeB (.str x) = true) (hK : ∀ x ∈ K, nodeB (.str x) = true) {l : L3} (h : LnOf N K l) : lineF (lnD l) = none := by
  show (if nodeB (.str l.1) = true then (if nodeB (.str l.2.1) = true then (if nodeB (.str l.2.2) = true then none else some 2) else some 1) else some 0) = none
  rw [if_pos (hN _ h.1), if_pos (hK _ h.2.1), if_pos (hN _ h.2.2)]
theorem deed_F {N K : List Str} (hN : ∀ x ∈ N, nodeB (.str x) = true) (hK : ∀ x ∈ K, nodeB (.str x) = true) {d : D} (h : Deed N K d) : deedF d = none := by
  cases h with
  | @node w x hw hx =>
    show deedL _ _ [] = none
    unfold deedL
    have e : ((isW "node" (.str w) || isW "drop" (.str w)) && ([] : List D).isEmpty) = true := by
      rcases hw with rfl | rfl <;> decide +kernel
    rw [if_pos e, if_pos (hN _ hx)]
  | @cut l hl =>
    show deedL _ _ [] = none
    unfold deedL
    rw [if_neg (show ¬ ((isW "node" (.str "cut") || isW "drop" (.str "cut")) && ([] : List D).isEmpty) = true by decide +kernel), if_pos (show (isW "cut" (.str "cut") && ([] : List D).isEmpty) = true by decide +kernel)]
    rw [if_pos (by rw [lineB, line_nm hN hK hl]; rfl)]
  | @line l p hl hp =>
    show deedL _ _ [p] = none
    unfold deedL
    rw [if_neg (show ¬ ((isW "node" (.str "line") || isW "drop" (.str "line")) && [p].isEmpty) = true by simp), if_neg (show ¬ (isW "cut" (.str "line") && [p].isEmpty) = true by simp), if_pos (show isW "line" (.str "line") = true by decide +kernel)]
    simp only
    rw [if_pos (by rw [lineB, line_nm hN hK hl]; rfl), if_pos (price_B hp)]
end GR
end
section
set_option maxHeartbeats 2000000
namespace GR
open PySem PySem.Spec PyProof.Rows L2 DM SR
variable [HasPW] {A B C : AH} {ρ : DM.Env} {h q c : Nat}
/-! ### rows of prices -/
abbrev PL := List (L3 × Nat)
def nkL (l : L3) : NestedKey := .tup [.text l.1, .text l.2.1, .text l.2.2]
theorem nk_ln (l : L3) : nkOf (lnD l) = some (nkL l) := rfl
theorem nk_inj {l m : L3} (e : nkL l = nkL m) : l = m := by
  obtain ⟨a, k, b⟩ := l
  obtain ⟨a', k', b'⟩ := m
  unfold nkL at e
  injection e with e
  injection e with e1 e
  injection e with e2 e
  injection e with e3 e
  injection e1 with e1
  injection e2 with e2
  injection e3 with e3
  subst e1 e2 e3
  rfl
theorem ky_ln (l : L3) : kyOf (lnD l) = some (nkL l) := by
  show (match nkOf (lnD l) with | some k => if k.depth ≤ 8 then some k else none | none => none) = _
  rw [nk_ln]
  simp only
  rw [if_pos]
  unfold nkL NestedKey.depth NestedKey.depthAll NestedKey.depthAll NestedKey.depthAll NestedKey.depthAll NestedKey.depth
  decide
abbrev enP (e : L3 × Nat) : D × D := (lnD e.1, .int (e.2 : Int))
theorem nk_eq {l m : L3} : nkOf (lnD l) = some (nkL m) ↔ l = m := ⟨fun e => nk_inj (Option.some.inj ((nk_ln l).symm.trans e)), fun e => by rw [e]; rfl⟩
def at3 (ps : PL) (l : L3) : Option Nat := (ps.find? fun e => decide (e.1 = l)).map (·.2)
theorem valT_at (l : L3) : ∀ ps : PL, valT (ps.map enP) (nkL l) = (at3 ps l).map fun n : Nat => D.int (n : Int)
  | [] => rfl
  | e :: ps => by
    have ih := valT_at l ps
    unfold valT at3 at ih ⊢
    rw [List.map_cons, List.find?_cons, List.find?_cons]
    by_cases z : e.1 = l
    · rw [decide_eq_true (nk_eq.mpr z), decide_eq_true z]
      rfl
    · rw [decide_eq_false fun y => z (nk_eq.mp y), decide_eq_false z]
      exact ih
theorem at3_mem {l : L3} : ∀ {ps : PL}, l ∈ ps.map (·.1) → ∃ n, at3 ps l = some n ∧ (l, n) ∈ ps
  | [], h => nomatch h
  | e :: ps, h => by
    by_cases z : e.1 = l
    · refine ⟨e.2, ?_, ?_⟩
      · unfold at3
        rw [List.find?_cons, decide_eq_true z]
        rfl
      · rw [← z]
        exact List.mem_cons_self
    · rw [List.map_cons] at h
      rcases List.mem_cons.mp h with h | h
      · exact absurd h.symm z
      · obtain ⟨n, h1, h2⟩ := at3_mem h
        refine ⟨n, ?_, List.mem_cons_of_mem _ h2⟩
        unfold at3 at h1 ⊢
        rw [List.find?_cons, decide_eq_false z]
        exact h1
theorem at3_none {l : L3} {ps : PL} (h : l ∉ ps.map (·.1)) : at3 ps l = none := by
  unfold at3
  rw [List.find?_eq_none.mpr fun e he z => h (List.mem_map.mpr ⟨e, he, of_decide_eq_true z⟩)]
  rfl
theorem dropT_at (l : L3) (ps : PL) : dropT (ps.map enP) (nkL l) = (ps.filter fun e => decide (e.1 ≠ l)).map enP := by
  unfold dropT
  rw [List.filter_map]
  congr 1
  refine List.filter_congr fun e _ => ?_
  show decide (nkOf (lnD e.1) ≠ some (nkL l)) = decide (e.1 ≠ l)
  congr 1
  exact propext (not_congr nk_eq)
def putP (ps : PL) (l : L3) (p : Nat) : PL := if l ∈ ps.map (·.1) then ps.map (fun e => if e.1 = l then (e.1, p) else e) else ps ++ [(l, p)]
theorem putT_at (l : L3) (p : Nat) (ps : PL) : putT (ps.map enP) (nkL l) (lnD l) (.int (p : Int)) = (putP ps l p).map enP := by
  unfold putT putP
  rw [valT_at]
  by_cases h : l ∈ ps.map (·.1)
  · obtain ⟨n, e, _⟩ := at3_mem h
    rw [e, if_pos h, if_pos (show (Option.map (fun n : Nat => D.int (n : Int)) (some n)).isSome = true from rfl), List.map_map, List.map_map]
    refine List.map_congr_left fun e _ => ?_
    show (if nkOf (lnD e.1) = some (nkL l) then (lnD e.1, D.int (p : Int)) else enP e) = enP (if e.1 = l then (e.1, p) else e)
    by_cases z : e.1 = l
    · rw [if_pos (nk_eq.mpr z), if_pos z]
    · rw [if_neg fun y => z (nk_eq.mp y), if_neg z]
  · rw [at3_none h, if_neg h, if_neg (by decide), List.map_append]
    rfl
theorem putP_keys {ps : PL} {l : L3} {p : Nat} (hn : (ps.map (·.1)).Nodup) : ((putP ps l p).map (·.1)).Nodup ∧ (putP ps l p).length ≤ ps.length + 1 ∧ ∀ e ∈ putP ps l p, e = (l, p) ∨ e ∈ ps := by
  unfold putP
  by_cases h : l ∈ ps.map (·.1)
  · rw [if_pos h]
    refine ⟨?_, by rw [List.length_map]; omega, fun e he => ?_⟩
    · rw [List.map_map]
      have : (ps.map ((fun x : L3 × Nat => x.1) ∘ fun e => if e.1 = l then (e.1, p) else e)) = ps.map (·.1) := List.map_congr_left fun e _ => by
        show (if e.1 = l then (e.1, p) else e).1 = e.1
        split <;> rfl
      rw [this]
      exact hn
    · obtain ⟨f, hf, rfl⟩ := List.mem_map.mp he
      by_cases z : f.1 = l
      · rw [if_pos z, z]; exact .inl rfl
      · rw [if_neg z]; exact .inr hf
  · rw [if_neg h]
    refine ⟨?_, by rw [List.length_append]; exact Nat.le_refl _, fun e he => ?_⟩
    · rw [List.map_append, List.nodup_append]
      refine ⟨hn, by simp, fun a ha b hb e => ?_⟩
      rw [List.map_cons, List.map_nil, List.mem_singleton] at hb
      subst hb
      subst e
      exact h ha
    · rcases List.mem_append.mp he with he | he
      · exact .inr he
      · exact .inl (List.mem_singleton.mp he)
/-! ### a graph that is drawn -/
structure St (N K : List Str) (ns : List Str) (ps : PL) : Prop where
  nd : ns.Nodup
  sub : ∀ x ∈ ns, x ∈ N
  kd : (ps.map (·.1)).Nodup
  ends : ∀ e ∈ ps, e.1.1 ∈ ns ∧ e.1.2.2 ∈ ns ∧ e.1.2.1 ∈ K ∧ e.2 ≤ 1000000
def H2 (n1 n2 : Nat) (A : AH) (ns : List Str) (ps : PL) : Prop := A[n1]? = some (.lst (ns.map D.str)) ∧ A[n2]? = some (.dt pw (ps.map enP))
def Two (n1 n2 : Nat) (A B : AH) : Prop := B.length = A.length ∧ ∀ n, n ≠ n1 → n ≠ n2 → B[n]? = A[n]?
theorem Two.refl {n1 n2 : Nat} (A : AH) : Two n1 n2 A A := ⟨rfl, fun _ _ _ => rfl⟩
theorem Two.trans {n1 n2 : Nat} (a : Two n1 n2 A B) (b : Two n1 n2 B C) : Two n1 n2 A C := ⟨b.1.trans a.1, fun n h1 h2 => (b.2 n h1 h2).trans (a.2 n h1 h2)⟩
theorem Two.set1 {n1 n2 : Nat} {A : AH} {o : AO} : Two n1 n2 A (A.set n1 o) := ⟨List.length_set .., fun n h1 _ => List.getElem?_set_ne (Ne.symm h1)⟩
theorem Two.set2 {n1 n2 : Nat} {A : AH} {o : AO} : Two n1 n2 A (A.set n2 o) := ⟨List.length_set .., fun n _ h2 => List.getElem?_set_ne (Ne.symm h2)⟩
theorem ref_strs {n : Nat} {ns : List Str} (h : A[n]? = some (.lst (ns.map D.str))) : toPyA A (.ref n) = some (.list (ns.map PyData.str)) := by
  have e : ∀ g, toPysG g (ns.map D.str) = some (ns.map PyData.str) := fun g => by
    clear h
    induction ns with
    | nil => rfl
    | cons x ns ih =>
      rw [List.map_cons, List.map_cons]
      unfold toPysG
      rw [ih]
      rfl
  unfold toPyA
  simp only [toPy, toPyG, refPy, h, e, Option.map_some]
theorem in_ref {a : Str} {n : Nat} {ns : List Str} {neg : Bool} (h0 : A[n]? = some (.lst (ns.map D.str))) (ha : Pl (.str a)) (hns : ∀ x ∈ ns, Pl (.str x)) : fInD neg (.str a) (.ref n) A = .ok (.bl (if neg then !decide (a ∈ ns) else decide (a ∈ ns))) A := by
  have h1 : toPyA A (.str a) = some (.str a) := rfl
  have h2 := ref_strs h0
  have s1 : SeqAt.shaped (.str a) = true := shaped_word (ok_str ha)
  have s2 : SeqAt.shaped (.list (ns.map PyData.str)) = true := by
    unfold SeqAt.shaped
    have := lay_strs ns hns
    simp only [PyData.canLay0, PyData.depth, this.1, Bool.true_and]
    exact decide_eq_true (by omega)
  have an : ((ns.map PyData.str).any fun z => PyData.eqv z (.str a)) = decide (a ∈ ns) := by
    rw [List.any_map, Bool.eq_iff_iff, List.any_eq_true, decide_eq_true_iff]
    constructor
    · rintro ⟨x, hx, e⟩
      have e : PyData.eqv (.str x) (.str a) = true := e
      rw [eqv_str] at e
      rw [← of_decide_eq_true e]
      exact hx
    · intro hx
      exact ⟨a, hx, by show PyData.eqv (.str a) (.str a) = true; rw [eqv_str]; exact decide_eq_true rfl⟩
  unfold fInD
  rw [h1, h2]
  simp only [s1, s2, and_self, if_true, an]
theorem pop1_at {mo me : ME} {n2 : Nat} {l : L3} {ps : PL} (h1 : mo ρ A = .ok (.ref n2) A) (h2 : me ρ A = .ok (lnD l) A) (hd : A[n2]? = some (.dt pw (ps.map enP))) (hm : l ∈ ps.map (·.1)) : ∃ d, mPop1T mo me ρ A = .ok d (A.set n2 (.dt pw ((ps.filter fun e => decide (e.1 ≠ l)).map enP))) := by
  obtain ⟨n, e, _⟩ := at3_mem hm
  refine ⟨.int (n : Int), ?_⟩
  unfold mPop1T
  rw [h1, bind_ok]
  simp only [dtOf_at hd]
  rw [h2, bind_ok]
  simp only [dtOf_at hd, ky_ln, valT_at, e, Option.map_some, dropT_at]
theorem h2_set2 {n1 n2 : Nat} {ns : List Str} {ps : PL} (hn : n1 ≠ n2) (H : H2 n1 n2 A ns ps) (ps2 : PL) : H2 n1 n2 (A.set n2 (.dt pw (ps2.map enP))) ns ps2 :=
  ⟨(List.getElem?_set_ne (Ne.symm hn)).trans H.1, List.getElem?_set_self (List.getElem?_eq_some_iff.mp H.2).1⟩
theorem h2_set1 {n1 n2 : Nat} {ns : List Str} {ps : PL} (hn : n1 ≠ n2) (H : H2 n1 n2 A ns ps) (ns2 : List Str) : H2 n1 n2 (A.set n1 (.lst (ns2.map D.str))) ns2 ps :=
  ⟨List.getElem?_set_self (List.getElem?_eq_some_iff.mp H.1).1, (List.getElem?_set_ne hn).trans H.2⟩
theorem drop_go {n1 n2 : Nat} {iv : ItV} {all : List D} {ns : List Str} {x0 x2 x3 x6 : Option D} {x : Str} (hn : n1 ≠ n2) (hit : ∀ B, itemsOf B iv = some all) : ∀ (rest : List L3) (ps : PL) (A : AH) (x5 : Option D), H2 n1 n2 A ns ps → rest.Nodup → (∀ l ∈ rest, l ∈ ps.map (·.1)) →
    ∃ ps' A' y5, forGo iv all (.nm 5) b__law_do2 (rest.map lnD) [x0, some (.ref n2), x2, x3, some (.str x), x5, x6] A = .nx [x0, some (.ref n2), x2, x3, some (.str x), y5, x6] A' ∧ Two n1 n2 A A' ∧ H2 n1 n2 A' ns ps' ∧ ps'.Sublist ps ∧ ∀ e ∈ ps', e.1 ∈ rest → e.1.1 ≠ x ∧ e.1.2.2 ≠ x
  | [], ps, A, x5, H, _, _ => ⟨ps, A, x5, for_nil (hit A), .refl A, H, List.Sublist.refl _, fun _ _ h => nomatch h⟩
  | l :: rest, ps, A, x5, H, nd, hk => by
    obtain ⟨nl, nd⟩ := List.nodup_cons.mp nd
    obtain ⟨R, hR⟩ : ∃ R : DM.Env, R = [x0, some (.ref n2), x2, x3, some (.str x), some (lnD l), x6] := ⟨_, rfl⟩
    have v5 : mVar 5 R A = .ok (lnD l) A := var_at (by rw [hR]; rfl)
    have v4 : mVar 4 R A = .ok (.str x) A := var_at (by rw [hR]; rfl)
    have v1 : mVar 1 R A = .ok (.ref n2) A := var_at (by rw [hR]; rfl)
    have t : mOr (mTst (mOp (fEq false) (mOp fIx (mVar 5) (mK (.int 0))) (mVar 4))) (mTst (mOp (fEq false) (mOp fIx (mVar 5) (mK (.int 2))) (mVar 4))) R A = .ok (decide (l.1 = x) || decide (l.2.2 = x)) A :=
      or_at (tst_at (op_at (op_at v5 rfl rfl) v4 rfl)) fun _ => tst_at (op_at (op_at v5 rfl rfl) v4 rfl)
    have hb : bindT (.nm 5) (lnD l) [x0, some (.ref n2), x2, x3, some (.str x), x5, x6] = some R := by rw [hR]; rfl
    cases hz : (decide (l.1 = x) || decide (l.2.2 = x)) with
    | true =>
      rw [hz] at t
      obtain ⟨d, e⟩ := pop1_at v1 v5 H.2 (hk l List.mem_cons_self)
      have w : b__law_do2 R A = .nx R (A.set n2 (.dt pw ((ps.filter fun e => decide (e.1 ≠ l)).map enP))) := ifs_at t (drop_at e)
      have kp : ∀ m ∈ rest, m ∈ (ps.filter fun e => decide (e.1 ≠ l)).map (·.1) := fun m hm => by
        obtain ⟨e, he, rfl⟩ := List.mem_map.mp (hk m (List.mem_cons_of_mem _ hm))
        exact List.mem_map.mpr ⟨e, List.mem_filter.mpr ⟨he, decide_eq_true fun z => nl (z ▸ hm)⟩, rfl⟩
      obtain ⟨ps', A', y5, e2, g2, H', sb, ok⟩ := drop_go (x0 := x0) (x2 := x2) (x3 := x3) (x6 := x6) (x := x) hn hit rest _ _ (some (lnD l)) (h2_set2 hn H _) nd kp
      refine ⟨ps', A', y5, ?_, Two.set2.trans g2, H', sb.trans List.filter_sublist, fun e he hm => ?_⟩
      · rw [List.map_cons]
        refine (for_nx (ρ2 := R) (hit A) hb w).trans ?_
        rw [hR]
        exact e2
      · rcases List.mem_cons.mp hm with z | z
        · exact absurd z (of_decide_eq_true (List.mem_filter.mp (sb.subset he)).2)
        · exact ok e he z
    | false =>
      rw [hz] at t
      have w : b__law_do2 R A = .nx R A := ifs_at t rfl
      obtain ⟨ps', A', y5, e2, g2, H', sb, ok⟩ := drop_go (x0 := x0) (x2 := x2) (x3 := x3) (x6 := x6) (x := x) hn hit rest ps A (some (lnD l)) H nd fun m hm => hk m (List.mem_cons_of_mem _ hm)
      refine ⟨ps', A', y5, ?_, g2, H', sb, fun e he hm => ?_⟩
      · rw [List.map_cons]
        refine (for_nx (ρ2 := R) (hit A) hb w).trans ?_
        rw [hR]
        exact e2
      · rcases List.mem_cons.mp hm with z | z
        · rw [z]
          rw [Bool.or_eq_false_iff] at hz
          exact ⟨of_decide_eq_false hz.1, of_decide_eq_false hz.2⟩
        · exact ok e he z
theorem app_at {mo me : ME} {n : Nat} {xs : List D} {d : D} (h1 : mo ρ A = .ok (.ref n) A) (h2 : A[n]? = some (.lst xs)) (h3 : me ρ A = .ok d A) (hl : xs.length < 16777216) : mDrop (mMet fApp mo (mCons me (mNil))) ρ A = .nx ρ (A.set n (.lst (xs ++ [d]))) := by
  refine drop_at (d := .non) ?_
  unfold mMet
  rw [h1, bind_ok]
  simp only [h2, cons_at h3 nil_at, bind_ok]
  unfold fApp
  simp only [h2, hl, if_true]
theorem add_go {n1 n2 : Nat} {iv : ItV} {all : List D} {ps : PL} {x1 x2 x3 x4 x5 : Option D} (hn : n1 ≠ n2) (hit : ∀ B, itemsOf B iv = some all) : ∀ (xs ns : List Str) (A : AH) (x6 : Option D), H2 n1 n2 A ns ps → ns.Nodup → (∀ x ∈ ns, Pl (.str x)) → (∀ x ∈ xs, Pl (.str x)) → ns.length + xs.length ≤ 1000 →
    ∃ ns' A' y6, forGo iv all (.nm 6) b__law_do1 (xs.map D.str) [some (.ref n1), x1, x2, x3, x4, x5, x6] A = .nx [some (.ref n1), x1, x2, x3, x4, x5, y6] A' ∧ Two n1 n2 A A' ∧ H2 n1 n2 A' ns' ps ∧ ns'.Nodup ∧ (∀ y ∈ ns, y ∈ ns') ∧ (∀ y ∈ xs, y ∈ ns') ∧ (∀ y ∈ ns', y ∈ ns ∨ y ∈ xs) ∧ ns'.length ≤ ns.length + xs.length
  | [], ns, A, x6, H, nd, _, _, _ => ⟨ns, A, x6, for_nil (hit A), .refl A, H, nd, fun _ h => h, (fun _ h => nomatch h), fun _ h => .inl h, Nat.le_refl _⟩
  | x :: xs, ns, A, x6, H, nd, pn, px, hl => by
    rw [List.length_cons] at hl
    obtain ⟨R, hR⟩ : ∃ R : DM.Env, R = [some (.ref n1), x1, x2, x3, x4, x5, some (.str x)] := ⟨_, rfl⟩
    have v6 : mVar 6 R A = .ok (.str x) A := var_at (by rw [hR]; rfl)
    have v0 : mVar 0 R A = .ok (.ref n1) A := var_at (by rw [hR]; rfl)
    have hb : bindT (.nm 6) (.str x) [some (.ref n1), x1, x2, x3, x4, x5, x6] = some R := by rw [hR]; rfl
    have t : mTst (mOp (fInD true) (mVar 6) (mVar 0)) R A = .ok (!decide (x ∈ ns)) A := tst_at (op_at v6 v0 (in_ref H.1 (px x List.mem_cons_self) pn))
    by_cases hz : x ∈ ns
    · rw [decide_eq_true hz] at t
      obtain ⟨ns', A', y6, e, g, H', a1, a2, a3, a4, a5⟩ := add_go (x1 := x1) (x2 := x2) (x3 := x3) (x4 := x4) (x5 := x5) hn hit xs ns A (some (.str x)) H nd pn (fun y hy => px y (List.mem_cons_of_mem _ hy)) (by omega)
      refine ⟨ns', A', y6, ?_, g, H', a1, a2, fun y hy => ?_, fun y hy => ?_, by rw [List.length_cons]; omega⟩
      · rw [List.map_cons]
        refine (for_nx (ρ2 := R) (hit A) hb (ifs_at t rfl)).trans ?_
        rw [hR]
        exact e
      · rcases List.mem_cons.mp hy with rfl | hy
        · exact a2 _ hz
        · exact a3 y hy
      · exact (a4 y hy).imp id (List.mem_cons_of_mem _)
    · rw [decide_eq_false hz] at t
      have w : b__law_do1 R A = .nx R (A.set n1 (.lst ((ns ++ [x]).map D.str))) := by
        refine ifs_at t ?_
        show mDrop (mMet fApp (mVar 0) (mCons (mVar 6) mNil)) R A = _
        rw [List.map_append]
        exact app_at v0 H.1 v6 (by rw [List.length_map]; omega)
      have nd2 : (ns ++ [x]).Nodup := by
        rw [List.nodup_append]
        refine ⟨nd, by simp, fun a ha b hb e => ?_⟩
        rw [List.mem_singleton.mp hb] at e
        exact hz (e ▸ ha)
      obtain ⟨ns', A', y6, e, g, H', a1, a2, a3, a4, a5⟩ := add_go (x1 := x1) (x2 := x2) (x3 := x3) (x4 := x4) (x5 := x5) hn hit xs (ns ++ [x]) _ (some (.str x)) (h2_set1 hn H _) nd2 (fun y hy => (List.mem_append.mp hy).elim (pn y) fun z => (List.mem_singleton.mp z) ▸ px x List.mem_cons_self) (fun y hy => px y (List.mem_cons_of_mem _ hy)) (by rw [List.length_append, List.length_cons, List.length_nil]; omega)
      refine ⟨ns', A', y6, ?_, Two.set1.trans g, H', a1, fun y hy => a2 y (List.mem_append.mpr (.inl hy)), fun y hy => ?_, fun y hy => ?_, by rw [List.length_append, List.length_cons, List.length_nil] at a5; rw [List.length_cons]; omega⟩
      · rw [List.map_cons]
        refine (for_nx (ρ2 := R) (hit A) hb w).trans ?_
        rw [hR]
        exact e
      · rcases List.mem_cons.mp hy with rfl | hy
        · exact a2 _ (List.mem_append.mpr (.inr (List.mem_singleton.mpr rfl)))
        · exact a3 y hy
      · rcases a4 y hy with z | z
        · rcases List.mem_append.mp z with z | z
          · exact .inl z
          · exact .inr (List.mem_cons.mpr (.inl (List.mem_singleton.mp z)))
        · exact .inr (List.mem_cons_of_mem _ z)
theorem inW_at {n2 : Nat} {l : L3} {ps : PL} (hd : A[n2]? = some (.dt pw (ps.map enP))) : fInW false (lnD l) (.ref n2) A = .ok (.bl (decide (l ∈ ps.map (·.1)))) A := by
  unfold fInW
  simp only [dtOf_at hd, ky_ln, valT_at]
  by_cases h : l ∈ ps.map (·.1)
  · obtain ⟨n, e, _⟩ := at3_mem h
    rw [e, decide_eq_true h]
    rfl
  · rw [at3_none h, decide_eq_false h]
    rfl
theorem do_ok {N K ns : List Str} {ps : PL} {d : D} {n1 n2 : Nat} (hn : n1 ≠ n2) (pN : ∀ x ∈ N, Pl (.str x)) (H : H2 n1 n2 A ns ps) (s : St N K ns ps) (hd : Deed N K d) (l1 : ns.length ≤ 900) (l2 : ps.length ≤ 900) :
    ∃ A' ns' ps', f__law_do [.ref n1, .ref n2, d] A = .ok .non A' ∧ Two n1 n2 A A' ∧ H2 n1 n2 A' ns' ps' ∧ St N K ns' ps' ∧ ns'.length ≤ ns.length + 2 ∧ ps'.length ≤ ps.length + 1 := by
  have par : ∀ {w : Str} {y : D} {r : List D}, mPar2 3 4 (mCons (mOp fIx (mVar 2) (mK (.int 0))) (mCons (mOp fIx (mVar 2) (mK (.int 1))) (mNil))) [some (.ref n1), some (.ref n2), some (.tup (.str w :: y :: r)), none, none, none, none] A = .nx [some (.ref n1), some (.ref n2), some (.tup (.str w :: y :: r)), some (.str w), some y, none, none] A := fun {w y r} => by
    rw [ev_par2, cons_at (op_at (var_at rfl) rfl (DM.ix_tup (SR.atI_nat (j := 0) rfl))) (cons_at (op_at (var_at rfl) rfl (DM.ix_tup (SR.atI_nat (j := 1) rfl))) nil_at), lift_ok]
    rfl
  have wt : ∀ {w x : Str} {B : AH} {a b c e f g : Option D}, mTst (mOp (fEq false) (mVar 3) (mK (.str x))) [a, b, c, some (.str w), e, f, g] B = .ok (decide (w = x)) B := fun {w x B a b c e f g} => tst_at (op_at (var_at rfl) rfl rfl)
  have add : ∀ {me : ME} {xs : List Str} {R : DM.Env} {x1 x2 x3 x4 : Option D}, me [some (.ref n1), x1, x2, x3, x4, none, none] A = .ok (.lst (xs.map D.str)) A → xs.length ≤ 2 → (∀ x ∈ xs, x ∈ N) →
      ∃ ns' A' y6, mFor (mSq me) (.nm 6) b__law_do1 [some (.ref n1), x1, x2, x3, x4, none, none] A = .nx [some (.ref n1), x1, x2, x3, x4, none, y6] A' ∧ Two n1 n2 A A' ∧ H2 n1 n2 A' ns' ps ∧ St N K ns' ps ∧ (∀ y ∈ xs, y ∈ ns') ∧ ns'.length ≤ ns.length + 2 := fun {me xs R x1 x2 x3 x4} e hx hX => by
    obtain ⟨ns', A', y6, e2, g, H', a1, a2, a3, a4, a5⟩ := add_go (x1 := x1) (x2 := x2) (x3 := x3) (x4 := x4) (x5 := none) (iv := .sq (.lst (xs.map D.str))) (all := xs.map D.str) hn (fun B => rfl) xs ns A none H s.nd (fun x hx => pN x (s.sub x hx)) (fun x hx => pN x (hX x hx)) (by omega)
    exact ⟨ns', A', y6, for_at (sq_at e rfl) rfl e2, g, H', ⟨a1, fun x hx => (a4 x hx).elim (s.sub x) (hX x), s.kd, fun e he => let ⟨p1, p2, p3⟩ := s.ends e he; ⟨a2 _ p1, a2 _ p2, p3⟩⟩, a3, by omega⟩
  unfold f__law_do
  cases hd with
  | @node w x hw hx =>
    rcases hw with rfl | rfl
    · obtain ⟨ns', A', y6, e, g, H', s', _, hl⟩ := add (me := mIf (mTst (mOp (fEq false) (mVar 3) (mK (.str "node")))) (mLst (mCons (mVar 4) (mNil))) (mLst (mCons (mOp fIx (mVar 4) (mK (.int 0))) (mCons (mOp fIx (mVar 4) (mK (.int 2))) (mNil))))) (xs := [x]) (R := []) (x1 := some (.ref n2)) (x2 := some (.tup [.str "node", .str x])) (x3 := some (.str "node")) (x4 := some (.str x)) (if_at (k := true) wt (lst_at (cons_at (var_at rfl) nil_at) (by simp))) (by simp) (fun y hy => (List.mem_singleton.mp hy) ▸ hx)
      refine ⟨A', ns', ps, ?_, g, H', s', hl, by omega⟩
      refine fun_nx ((seq_nx par).trans (ifs_at (k := false) wt (ifs_at (k := false) wt ((seq_nx e).trans (ifs_at (k := false) wt rfl)))))
    · have hk : mSq (mCall fListT (mCons (mVar 1) (mNil))) [some (.ref n1), some (.ref n2), some (.tup [.str "drop", .str x]), some (.str "drop"), some (.str x), none, none] A = .ok (.sq (.lst ((ps.map (·.1)).map lnD))) A := by
        refine sq_at (call_at (cons_at (var_at rfl) nil_at) ?_) rfl
        unfold fListT
        simp only [dtOf_at H.2, List.map_map]
        rfl
      obtain ⟨ps', A', y5, e, g, H', sb, ok⟩ := drop_go (x0 := some (.ref n1)) (x2 := some (.tup [.str "drop", .str x])) (x3 := some (.str "drop")) (x6 := none) (x := x) (iv := .sq (.lst ((ps.map (·.1)).map lnD))) (all := (ps.map (·.1)).map lnD) hn (fun B => rfl) (ps.map (·.1)) ps A none H s.kd fun _ h => h
      have w1 := for_at (tg := .nm 5) (sb := b__law_do2) hk rfl e
      have t : mTst (mOp (fInD false) (mVar 4) (mVar 0)) [some (.ref n1), some (.ref n2), some (.tup [.str "drop", .str x]), some (.str "drop"), some (.str x), y5, none] A' = .ok (decide (x ∈ ns)) A' := tst_at (op_at (var_at rfl) (var_at rfl) (in_ref H'.1 (pN x hx) fun y hy => pN y (s.sub y hy)))
      have kd' : (ps'.map (·.1)).Nodup := s.kd.sublist (sb.map _)
      have tou : ∀ e ∈ ps', e.1.1 ≠ x ∧ e.1.2.2 ≠ x := fun e he => ok e he (List.mem_map.mpr ⟨e, sb.subset he, rfl⟩)
      by_cases hz : x ∈ ns
      · rw [decide_eq_true hz] at t
        have rm : mDrop (mMet fRemS (mVar 0) (mCons (mVar 4) (mNil))) [some (.ref n1), some (.ref n2), some (.tup [.str "drop", .str x]), some (.str "drop"), some (.str x), y5, none] A' = .nx [some (.ref n1), some (.ref n2), some (.tup [.str "drop", .str x]), some (.str "drop"), some (.str x), y5, none] (A'.set n1 (.lst ((ns.erase x).map D.str))) := by
          refine drop_at (d := .non) ?_
          unfold mMet
          show (Res.ok (D.ref n1) A').bind _ = _
          rw [bind_ok]
          simp only [H'.1]
          rw [cons_at (d := .str x) (var_at rfl) nil_at, bind_ok]
          unfold fRemS
          simp only [H'.1, strsOf_map, hz, if_true]
        refine ⟨A'.set n1 (.lst ((ns.erase x).map D.str)), ns.erase x, ps', ?_, g.trans Two.set1, h2_set1 hn H' _, ⟨s.nd.erase x, fun y hy => s.sub y (List.mem_of_mem_erase hy), kd', fun e he => ?_⟩, by have := List.length_erase_le (a := x) (l := ns); omega, by have := sb.length_le; omega⟩
        · exact fun_nx ((seq_nx par).trans (ifs_at (k := true) wt ((seq_nx w1).trans (ifs_at t rm))))
        · obtain ⟨p1, p2, p3⟩ := s.ends e (sb.subset he)
          obtain ⟨t1, t2⟩ := tou e he
          exact ⟨(List.mem_erase_of_ne t1).mpr p1, (List.mem_erase_of_ne t2).mpr p2, p3⟩
      · rw [decide_eq_false hz] at t
        refine ⟨A', ns, ps', ?_, g, H', ⟨s.nd, s.sub, kd', fun e he => s.ends e (sb.subset he)⟩, by omega, by have := sb.length_le; omega⟩
        exact fun_nx ((seq_nx par).trans (ifs_at (k := true) wt ((seq_nx w1).trans (ifs_at t rfl))))
  | @cut l hl =>
    have t : mTst (mOp (fInW false) (mVar 4) (mVar 1)) [some (.ref n1), some (.ref n2), some (.tup [.str "cut", lnD l]), some (.str "cut"), some (lnD l), none, none] A = .ok (decide (l ∈ ps.map (·.1))) A := tst_at (op_at (var_at rfl) (var_at rfl) (inW_at H.2))
    by_cases hz : l ∈ ps.map (·.1)
    · rw [decide_eq_true hz] at t
      obtain ⟨x, e⟩ := pop1_at (ρ := [some (.ref n1), some (.ref n2), some (.tup [.str "cut", lnD l]), some (.str "cut"), some (lnD l), none, none]) (A := A) (mo := mVar 1) (me := mVar 4) (var_at rfl) (var_at rfl) H.2 hz
      refine ⟨_, ns, _, fun_nx ((seq_nx par).trans (ifs_at (k := false) wt (ifs_at (k := true) wt (ifs_at t (drop_at e))))), Two.set2, h2_set2 hn H _, ⟨s.nd, s.sub, s.kd.sublist (List.filter_sublist.map _), fun e he => s.ends e (List.mem_filter.mp he).1⟩, by omega, by have := List.length_filter_le (fun e : L3 × Nat => decide (e.1 ≠ l)) ps; omega⟩
    · rw [decide_eq_false hz] at t
      exact ⟨A, ns, ps, fun_nx ((seq_nx par).trans (ifs_at (k := false) wt (ifs_at (k := true) wt (ifs_at t rfl)))), .refl A, H, s, by omega, by omega⟩
  | @line l p hl hp =>
    obtain ⟨k, rfl, hk⟩ := hp
    obtain ⟨ns', A', y6, e, g, H', s', hx, hlen⟩ := add (me := mIf (mTst (mOp (fEq false) (mVar 3) (mK (.str "node")))) (mLst (mCons (mVar 4) (mNil))) (mLst (mCons (mOp fIx (mVar 4) (mK (.int 0))) (mCons (mOp fIx (mVar 4) (mK (.int 2))) (mNil))))) (xs := [l.1, l.2.2]) (R := []) (x1 := some (.ref n2)) (x2 := some (.tup [.str "line", lnD l, .int (k : Int)])) (x3 := some (.str "line")) (x4 := some (lnD l)) (if_at (k := false) wt (lst_at (cons_at (op_at (var_at rfl) rfl rfl) (cons_at (op_at (var_at rfl) rfl rfl) nil_at)) (by simp))) (by simp) (fun y hy => by
        rcases List.mem_cons.mp hy with rfl | hy
        · exact hl.1
        · rw [List.mem_singleton.mp hy]; exact hl.2.2)
    have pt : mPutT (mOp fIx (mVar 2) (mK (.int 2))) (mVar 1) (mVar 4) [some (.ref n1), some (.ref n2), some (.tup [.str "line", lnD l, .int (k : Int)]), some (.str "line"), some (lnD l), none, y6] A' = .nx [some (.ref n1), some (.ref n2), some (.tup [.str "line", lnD l, .int (k : Int)]), some (.str "line"), some (lnD l), none, y6] (A'.set n2 (.dt pw ((putP ps l k).map enP))) := by
      unfold mPutT
      rw [op_at (x := .tup [.str "line", lnD l, .int (k : Int)]) (y := .int 2) (r := .ok (.int (k : Int)) A') (var_at rfl) rfl rfl, lift_ok, var_at (i := 1) (d := .ref n2) rfl, lift_ok, var_at (i := 4) (d := lnD l) rfl, lift_ok]
      simp only [dtOf_at H'.2, ky_ln, List.length_map, show ps.length < 16777216 by omega, if_true, putT_at]
    have wt6 : mTst (mOp (fEq false) (mVar 3) (mK (.str "line"))) [some (.ref n1), some (.ref n2), some (.tup [.str "line", lnD l, .int (k : Int)]), some (.str "line"), some (lnD l), none, y6] A' = .ok true A' := tst_at (op_at (var_at rfl) rfl rfl)
    obtain ⟨q1, q2, q3⟩ := putP_keys (l := l) (p := k) s.kd
    refine ⟨_, ns', _, fun_nx ((seq_nx par).trans (ifs_at (k := false) wt (ifs_at (k := false) wt ((seq_nx e).trans (ifs_at wt6 pt))))), g.trans Two.set2, h2_set2 hn H' _, ⟨s'.nd, s'.sub, q1, fun e he => ?_⟩, hlen, q2⟩
    rcases q3 e he with rfl | he
    · exact ⟨hx _ List.mem_cons_self, hx _ (List.mem_cons_of_mem _ List.mem_cons_self), hl.2.1, hk⟩
    · exact s'.ends e he
end GR
end
section
set_option maxHeartbeats 2000000
namespace GR
open PySem PySem.Spec PyProof.Rows L2 DM SR
variable [HasPW] {A B C : AH} {ρ : DM.Env} {h q c : Nat}
/-! ### a graph -/
theorem gr_two {n1 n2 : Nat} (hs : HS h q A) (t : Two n1 n2 A B) (a : n1 ≠ h) (b : n1 ≠ q) (c : n2 ≠ h) (d : n2 ≠ q) : HS h q B := hs_keep hs (t.2 h (Ne.symm a) (Ne.symm c)) (t.2 q (Ne.symm b) (Ne.symm d))
/-- all but these two, below a number, stays -/
def Bl (h q k : Nat) (A B : AH) : Prop := HS h q B ∧ k ≤ B.length ∧ ∀ n, n < k → n ≠ h → n ≠ q → B[n]? = A[n]?
theorem drawn_go {N K : List Str} {A0 : AH} {n1 n2 : Nat} {iv : ItV} {all : List D} (hit : ∀ B, itemsOf B iv = some all) (n0 : 0 < N.length) (nl : N.length ≤ 1000) (k0 : 0 < K.length) (kl : K.length ≤ 1000) (pN : ∀ x ∈ N, Pl (.str x)) (hn : n1 ≠ n2) (b1 : A0.length ≤ n1) (b2 : A0.length ≤ n2) (d1 : n1 ≠ h) (d2 : n1 ≠ q) (d3 : n2 ≠ h) (d4 : n2 ≠ q) {x3 : Option D} : ∀ (xs : List D) (A : AH) (ns : List Str) (ps : PL) (x6 : Option D),
    Bl h q A0.length A0 A → H2 n1 n2 A ns ps → St N K ns ps → ns.length + 2 * xs.length ≤ 800 → ps.length + xs.length ≤ 800 →
    ∃ A' ns' ps' y6, forGo iv all (.nm 6) b__law_drawn1 xs [some (.ref h), some (.lst (N.map D.str)), some (.lst (K.map D.str)), x3, some (.ref n1), some (.ref n2), x6] A = .nx [some (.ref h), some (.lst (N.map D.str)), some (.lst (K.map D.str)), x3, some (.ref n1), some (.ref n2), y6] A' ∧ Bl h q A0.length A0 A' ∧ H2 n1 n2 A' ns' ps' ∧ St N K ns' ps' ∧ ns'.length ≤ ns.length + 2 * xs.length ∧ ps'.length ≤ ps.length + xs.length
  | [], A, ns, ps, x6, g, H, s, _, _ => ⟨A, ns, ps, x6, for_nil (hit A), g, H, s, by omega, by omega⟩
  | x :: xs, A, ns, ps, x6, g, H, s, l1, l2 => by
    rw [List.length_cons] at l1 l2
    obtain ⟨d, A1, e1, g1, dd⟩ := deed_ok (h := h) (q := q) (N := N) (K := K) n0 nl k0 kl A g.1
    have H1 : H2 n1 n2 A1 ns ps := ⟨g1.keep H.1 d1 d2, g1.keep H.2 d3 d4⟩
    obtain ⟨A2, ns2, ps2, e2, t2, H22, s2, m1, m2⟩ := do_ok hn pN H1 s dd (by omega) (by omega)
    have g2 : Bl h q A0.length A0 A2 := ⟨gr_two g1.1 t2 d1 d2 d3 d4, by rw [t2.1]; exact Nat.le_trans g.2.1 g1.2.1, fun n hn a b => (t2.2 n (by omega) (by omega)).trans ((g1.2.2 n (Nat.lt_of_lt_of_le hn g.2.1) a b).trans (g.2.2 n hn a b))⟩
    obtain ⟨A', ns', ps', y6, e, g', H', s', m3, m4⟩ := drawn_go (x3 := x3) hit n0 nl k0 kl pN hn b1 b2 d1 d2 d3 d4 xs A2 ns2 ps2 (some x) g2 H22 s2 (by omega) (by omega)
    refine ⟨A', ns', ps', y6, ?_, g', H', s', by rw [List.length_cons]; omega, by rw [List.length_cons]; omega⟩
    refine (for_nx (hit A) rfl (drop_at (callF_at (cons_at (var_at rfl) (cons_at (var_at rfl) (cons_at (callF_at (cons_at (var_at rfl) (cons_at (var_at rfl) (cons_at (var_at rfl) nil_at))) rfl e1) nil_at))) rfl e2))).trans e
theorem drawn_ok {N K : List Str} (n0 : 0 < N.length) (nl : N.length ≤ 1000) (k0 : 0 < K.length) (kl : K.length ≤ 1000) (pN : ∀ x ∈ N, Pl (.str x)) {k : Nat} (hk : k ≤ 30) (hs : HS h q A) :
    ∃ n1 n2 A' ns ps, f__law_drawn [.ref h, .lst (N.map D.str), .lst (K.map D.str), .int (k : Int)] A = .ok (.tup [.ref n1, .ref n2]) A' ∧ Gr h q A A' ∧ H2 n1 n2 A' ns ps ∧ n1 ≠ h ∧ n1 ≠ q ∧ n2 ≠ h ∧ n2 ≠ q ∧ St N K ns ps ∧ ns.length ≤ 60 ∧ ps.length ≤ 30 := by
  have hl := hs_lt hs
  have e0 : mPar2 4 5 (mCons (mNew (mNil)) (mCons (mDict0T) (mNil))) [some (.ref h), some (.lst (N.map D.str)), some (.lst (K.map D.str)), some (.int (k : Int)), none, none, none] A = .nx [some (.ref h), some (.lst (N.map D.str)), some (.lst (K.map D.str)), some (.int (k : Int)), some (.ref A.length), some (.ref (A.length + 1)), none] (A ++ [.lst []] ++ [.dt pw []]) := by
    have m1 : mNew (mNil) [some (.ref h), some (.lst (N.map D.str)), some (.lst (K.map D.str)), some (.int (k : Int)), none, none, none] A = .ok (.ref A.length) (A ++ [.lst []]) := rfl
    have m2 : mDict0T [some (.ref h), some (.lst (N.map D.str)), some (.lst (K.map D.str)), some (.int (k : Int)), none, none, none] (A ++ [AO.lst []]) = .ok (.ref (A ++ [AO.lst []]).length) (A ++ [.lst []] ++ [.dt pw []]) := rfl
    rw [ev_par2, cons_at m1 (cons_at m2 nil_at), lift_ok]
    rw [List.length_append]
    rfl
  have g0 : Bl h q A.length A (A ++ [.lst []] ++ [.dt pw []]) := ⟨by rw [List.append_assoc]; exact hs_push hs _, by simp, fun n hn _ _ => by rw [List.append_assoc, List.getElem?_append_left hn]⟩
  have H0 : H2 A.length (A.length + 1) (A ++ [.lst []] ++ [.dt pw []]) [] [] := ⟨by rw [List.append_assoc, List.getElem?_append_right (Nat.le_refl _), Nat.sub_self]; rfl, by rw [List.getElem?_append_right (by simp)]; simp⟩
  have hit : ∀ B, itemsOf B (.rng 0 (k : Int)) = some (upL k 0) := rng_items
  obtain ⟨A', ns, ps, y6, e, g, H, s, m1, m2⟩ := drawn_go (N := N) (K := K) (x3 := some (.int (k : Int))) (A0 := A) hit n0 nl k0 kl pN (by omega : A.length ≠ A.length + 1) (by omega) (by omega) (by omega) (by omega) (by omega) (by omega) (upL k 0) _ [] [] none g0 H0 ⟨List.nodup_nil, (fun _ h => nomatch h), List.nodup_nil, (fun _ h => nomatch h)⟩ (by rw [upl]; simp; omega) (by rw [upl]; simp; omega)
  rw [upl] at m1 m2
  simp only [List.length_nil] at m1 m2
  refine ⟨A.length, A.length + 1, A', ns, ps, ?_, ⟨g.1, g.2.1, g.2.2⟩, H, by omega, by omega, by omega, by omega, s, by omega, by omega⟩
  unfold f__law_drawn
  refine fun_rt ((seq_nx e0).trans ((seq_nx (for_at (r1_at (cons_at (var_at rfl) nil_at) (by omega)) (hit _) e)).trans (ret_at (tup_at (cons_at (var_at rfl) (cons_at (var_at rfl) nil_at)) (by simp)))))
/-! the graph itself -/
abbrev row (l : L3) : List Str := [l.1, l.2.1, l.2.2]
def Lt (a b : L3) : Prop := lexLeS (row b) (row a) = false
def LtN (a b : Str) : Prop := sLe b a = false
structure GOk (N K NS : List Str) (es : PL) : Prop where
  n : ∀ x ∈ NS, x ∈ N
  np : NS.Pairwise LtN
  ep : es.Pairwise fun a b => Lt a.1 b.1
  ends : ∀ e ∈ es, e.1.1 ∈ NS ∧ e.1.2.2 ∈ NS ∧ e.1.2.1 ∈ K ∧ e.2 ≤ 1000000
abbrev enE (e : L3 × Nat) : D := .tup [lnD e.1, .int (e.2 : Int)]
theorem toPys_ln : ∀ ls : List L3, toPys (ls.map lnD) = some (ls.map fun l => pyT (row l))
  | [] => rfl
  | l :: ls => by
    rw [List.map_cons, List.map_cons]
    unfold toPys
    rw [toPys_ln ls]
    rfl
theorem sortK_ln (ls : List L3) : sortK (ls.map fun l => pyT (row l)) = true ∧ PyData.depthAll (ls.map fun l => pyT (row l)) ≤ 32 := by
  constructor
  · unfold sortK
    rw [Bool.and_eq_true, Bool.or_eq_true]
    refine ⟨List.all_eq_true.mpr fun p hp => List.all_eq_true.mpr fun r hr => ?_, .inl (List.all_eq_true.mpr fun p hp => ?_)⟩
    · obtain ⟨l, _, rfl⟩ := List.mem_map.mp hp
      obtain ⟨m, _, rfl⟩ := List.mem_map.mp hr
      rfl
    · obtain ⟨l, _, rfl⟩ := List.mem_map.mp hp
      rfl
  · refine Nat.le_trans (?_ : _ ≤ 1) (by decide)
    induction ls with
    | nil => exact Nat.zero_le _
    | cons l ls ih =>
      rw [List.map_cons]
      unfold PyData.depthAll
      refine Nat.max_le.mpr ⟨?_, ih⟩
      simp [PyData.depth, PyData.depthAll]
theorem graph_ok {N K ns : List Str} {ps : PL} {n1 n2 : Nat} (H : H2 n1 n2 A ns ps) (s : St N K ns ps) (l1 : ns.length ≤ 60) (l2 : ps.length ≤ 30) :
    ∃ NS es, f__law_graph [.ref n1, .ref n2] A = .ok (.tup [.tup (NS.map D.str), .tup (es.map enE)]) A ∧ GOk N K NS es ∧ NS.length ≤ 60 ∧ es.length ≤ 30 := by
  obtain ⟨LS, hLS⟩ : ∃ LS, LS = srtP (ps.map (·.1)) ((ps.map (·.1)).map fun l => pyT (row l)) := ⟨_, rfl⟩
  obtain ⟨pm, pw'⟩ := srtP_keys (key := row) (n := 3) (xs := ps.map (·.1)) fun _ _ => rfl
  rw [← hLS] at pm pw'
  have nd : LS.Nodup := pm.nodup_iff.mpr s.kd
  have mem : ∀ l ∈ LS, l ∈ ps.map (·.1) := fun l hl => pm.mem_iff.mp hl
  have inj : ∀ {a b : L3}, row a = row b → a = b := fun {a b} e => by
    obtain ⟨a1, a2, a3⟩ := a
    obtain ⟨b1, b2, b3⟩ := b
    injection e with e1 e
    injection e with e2 e
    injection e with e3 _
    have e1 : a1 = b1 := e1
    have e2 : a2 = b2 := e2
    have e3 : a3 = b3 := e3
    rw [e1, e2, e3]
  have lt : LS.Pairwise Lt := by
    refine (pw'.and nd).imp fun {a b} hab => ?_
    unfold Lt
    cases z : lexLeS (row b) (row a) with
    | false => rfl
    | true => exact absurd (inj (lexLeS_anti (xs := row a) (ys := row b) rfl hab.1 z)) hab.2
  have np : (srtS ns).Pairwise LtN := by
    refine ((srtS_sorted ns).and ((srtS_perm ns).nodup_iff.mpr s.nd)).imp fun {a b} hab => ?_
    unfold LtN
    cases z : sLe b a with
    | false => rfl
    | true => exact absurd (sLe_anti hab.1 z) hab.2
  have hl : LS.length = ps.length := by rw [pm.length_eq, List.length_map]
  refine ⟨srtS ns, LS.map fun l => (l, (at3 ps l).getD 0), ?_, ⟨fun x hx => s.sub x ((srtS_perm ns).mem_iff.mp hx), np, ?_, fun e he => ?_⟩, by rw [(srtS_perm ns).length_eq]; exact l1, by rw [List.length_map, hl]; exact l2⟩
  · unfold f__law_graph
    have c1 : mCall fSortS (mCons (mVar 0) (mNil)) [some (.ref n1), some (.ref n2), none] A = .ok (.lst ((srtS ns).map D.str)) A := by
      refine call_at (cons_at (var_at rfl) nil_at) ?_
      have so : seqOf A (.ref n1) = some (ns.map D.str) := seqOf_ref H.1
      unfold fSortS
      simp only [so, isTup, strsOf_map, show ns.length < 64 by omega, if_true, Bool.false_eq_true, if_false]
    have c2 : mCall fSortTD (mCons (mVar 1) (mNil)) [some (.ref n1), some (.ref n2), none] A = .ok (.lst (LS.map lnD)) A := by
      refine call_at (cons_at (var_at rfl) nil_at) ?_
      have k1 : (ps.map enP).map (·.1) = (ps.map (·.1)).map lnD := by rw [List.map_map, List.map_map]; rfl
      unfold fSortTD
      simp only [dtOf_at H.2, k1, toPys_ln, sortK_ln, and_self, if_true]
      rw [srtP_map, ← hLS]
    have hit : itemsOf A (.sq (.lst (LS.map lnD))) = some (LS.map lnD) := rfl
    have cp := comp_pure (A := A) (iv := .sq (.lst (LS.map lnD))) (all := LS.map lnD) (t := .nm 2) (tt := mYes) (me := mTup (mCons (mVar 2) (mCons (mOp fGetT (mVar 1) (mVar 2)) (mNil)))) (ρ := [some (.ref n1), some (.ref n2), none])
      (p := fun _ => true) (f := fun d => .tup [d, match kyOf d with | some k => (valT (ps.map enP) k).getD .non | none => .non]) hit (LS.map lnD) [] (fun y hy => by
        obtain ⟨l, hl, rfl⟩ := List.mem_map.mp hy
        refine ⟨[some (.ref n1), some (.ref n2), some (lnD l)], rfl, rfl, fun _ => tup_at (cons_at (var_at rfl) (cons_at (op_at (var_at rfl) (var_at rfl) ?_) nil_at)) (by simp)⟩
        obtain ⟨n, e, _⟩ := at3_mem (mem l hl)
        unfold fGetT
        simp only [dtOf_at H.2, ky_ln, valT_at, e, Option.map_some, Option.getD_some])
    rw [filter_true, List.nil_append, List.map_map] at cp
    have c3 : mLc false (mSq (mCall fSortTD (mCons (mVar 1) (mNil)))) (.nm 2) (mYes) (mTup (mCons (mVar 2) (mCons (mOp fGetT (mVar 1) (mVar 2)) (mNil)))) [2] [some (.ref n1), some (.ref n2), none] A = .ok (.lst _) A := lc_at (ρ1 := [some (.ref n1), some (.ref n2), none]) (sq_at c2 rfl) hit (by rw [List.length_map]; omega) rfl cp
    have es : LS.map ((fun d => D.tup [d, match kyOf d with | some k => (valT (ps.map enP) k).getD .non | none => .non]) ∘ lnD) = (LS.map fun l => (l, (at3 ps l).getD 0)).map enE := by
      rw [List.map_map]
      refine List.map_congr_left fun l hl => ?_
      obtain ⟨n, e, _⟩ := at3_mem (mem l hl)
      show D.tup [lnD l, match kyOf (lnD l) with | some k => (valT (ps.map enP) k).getD .non | none => .non] = D.tup [lnD l, .int (((at3 ps l).getD 0 : Nat) : Int)]
      rw [ky_ln]
      simp only [valT_at, e, Option.map_some, Option.getD_some]
    rw [es] at c3
    exact fun_rt (ret_at (tup_at (cons_at (call_at (cons_at c1 nil_at) rfl) (cons_at (call_at (cons_at c3 nil_at) rfl) nil_at)) (by simp)))
  · rw [List.pairwise_map]
    exact lt
  · obtain ⟨l, hl, rfl⟩ := List.mem_map.mp he
    obtain ⟨n, e, hm⟩ := at3_mem (mem l hl)
    obtain ⟨p1, p2, p3, p4⟩ := s.ends _ hm
    refine ⟨(srtS_perm ns).mem_iff.mpr p1, (srtS_perm ns).mem_iff.mpr p2, p3, ?_⟩
    show (at3 ps l).getD 0 ≤ _
    rw [e]
    exact p4
end GR
end
section
set_option maxHeartbeats 2000000
namespace GR
open PySem PySem.Spec PyProof.Rows L2 DM SR
variable [HasPW] {A B C : AH} {ρ : DM.Env} {h q c : Nat}
/-! ### small values -/
def Vl (k w : Nat) (d : D) : Prop := Pl d ∧ dep d ≤ k ∧ wgt d ≤ w
theorem Vl.mono {k w k' w' : Nat} {d : D} (v : Vl k w d) (hk : k ≤ k') (hw : w ≤ w') : Vl k' w' d := ⟨v.1, Nat.le_trans v.2.1 hk, Nat.le_trans v.2.2 hw⟩
theorem vl_tup {k w n : Nat} {xs : List D} (h : ∀ x ∈ xs, Vl k w x) (hn : xs.length ≤ n) : Vl (k + 1) (n * (w + 1)) (.tup xs) :=
  ⟨.tup (Pls.of fun x hx => (h x hx).1), Nat.succ_le_succ (deps_le fun x hx => (h x hx).2.1), Nat.le_trans (wgts_le fun x hx => (h x hx).2.2) (Nat.mul_le_mul_right _ hn)⟩
theorem vl_lst {k w n : Nat} {xs : List D} (h : ∀ x ∈ xs, Vl k w x) (hn : xs.length ≤ n) : Vl (k + 1) (n * (w + 1)) (.lst xs) :=
  ⟨.lst (Pls.of fun x hx => (h x hx).1), Nat.succ_le_succ (deps_le fun x hx => (h x hx).2.1), Nat.le_trans (wgts_le fun x hx => (h x hx).2.2) (Nat.mul_le_mul_right _ hn)⟩
theorem vl_non : Vl 0 64 .non := ⟨.non, Nat.le_refl _, Nat.le_refl _⟩
theorem vl_bl {b : Bool} : Vl 0 64 (.bl b) := ⟨.bl b, Nat.le_refl _, Nat.le_refl _⟩
theorem vl_int {i : Int} (h : i.natAbs < 10 ^ 19) : Vl 0 64 (.int i) := ⟨.int h, Nat.le_refl _, Nat.le_refl _⟩
theorem vl_str {x : Str} (h : Pl (.str x)) : Vl 0 64 (.str x) := ⟨h, Nat.le_refl _, Nat.le_refl _⟩
theorem pl_lit {x : Str} (h1 : (x.cps.toList.all fun c => decide (c < 128)) = true) (h2 : x.cps.toList.length ≤ 64) : Pl (.str x) := .str (fun c hc => Nat.lt_trans (of_decide_eq_true (List.all_eq_true.mp h1 c hc)) (by decide)) h2
theorem vl_node {x : Str} (h : nodeB (.str x) = true) : Vl 0 64 (.str x) := vl_str (pl_node h)
theorem app_cps (x y : Str) : (x ++ y).cps.toList = x.cps.toList ++ y.cps.toList := by
  show (x.cps ++ y.cps).toList = _
  simp
theorem pl_app {x y : Str} (h1 : ∀ c ∈ x.cps.toList, c < 0x110000) (h2 : ∀ c ∈ y.cps.toList, c < 0x110000) (hl : x.cps.toList.length + y.cps.toList.length ≤ 64) : Pl (.str (x ++ y)) := by
  refine .str (fun c hc => ?_) (by rw [app_cps, List.length_append]; exact hl)
  rw [app_cps] at hc
  exact (List.mem_append.mp hc).elim (h1 c) (h2 c)
theorem nodeB_no {x : Str} {c : Nat} (h : c ∈ x.cps.toList) (hc : c ∉ SN.cps.toList) : nodeB (.str x) = false := by
  cases z : nodeB (.str x) with
  | false => rfl
  | true => exact absurd ((nodeB_is z).2.2 c h) hc
theorem up_lt : (SN.cps.toList.all fun c => (Unicode.upperOf c).all fun u => decide (u < 0x110000)) = true := by decide +kernel
theorem upper_lt {x : Str} (hx : ∀ c ∈ x.cps.toList, c ∈ SN.cps.toList) : ∀ u ∈ (Txt.upper x).cps.toList, u < 0x110000 := fun u hu => by
  have hu : u ∈ (x.cps.mapIdx fun _ c => (Unicode.upperOf c).toArray).flatten := Array.mem_toList_iff.mp hu
  obtain ⟨L, hL, hu⟩ := Array.mem_flatten.mp hu
  obtain ⟨i, hi, rfl⟩ := Array.mem_mapIdx.mp hL
  have h1 := List.all_eq_true.mp up_lt x.cps[i] (hx _ (by simp))
  exact of_decide_eq_true (List.all_eq_true.mp h1 u (by simpa using hu))
def BadN (d : D) : Prop := nodeB d = false ∧ Vl 1 100 d
theorem lt_lit {y : Str} (h : (y.cps.toList.all fun c => decide (c < 128)) = true) : ∀ c ∈ y.cps.toList, c < 0x110000 := fun c hc => Nat.lt_trans (of_decide_eq_true (List.all_eq_true.mp h c hc)) (by decide)
theorem bad_ok {x : Str} (hx : nodeB (.str x) = true) : Df h q f__law_bad [.ref h, .str x] BadN := by
  obtain ⟨l1, l4, hc⟩ := nodeB_is hx
  have xl : ∀ c ∈ x.cps.toList, c < 0x110000 := fun c h => Nat.lt_trans (sn_lt c (hc c h)) (by decide)
  have cl : x.length = x.cps.toList.length := (cps_len x).symm
  have up := len_upper x
  have v1 : ∀ {d : D}, Vl 0 64 d → Vl 1 100 d := fun v => v.mono (by decide) (by decide)
  have ul : (Txt.upper x).cps.toList.length ≤ 12 := by rw [cps_len]; omega
  unfold f__law_bad
  refine df_of (ds_ret (dr_of rfl (dr_lst (n := 10) (all_cons ?_ (all_cons ?_ (all_cons ?_ (all_cons ?_ (all_cons ?_ (all_cons ?_ (all_cons ?_ (all_cons ?_ (all_cons ?_ (all_cons ?_ (all_cons ?_ all_nil))))))))))) (by decide)))) (by simp)
  · exact dr_ok (fun _ => rfl) ⟨by decide +kernel, v1 (vl_str (pl_lit (by decide +kernel) (by decide +kernel)))⟩
  · refine dr_ok (fun _ => op_at (var_at rfl) rfl (add_ss (by rw [cl]; have : ("_" : Str).length = 1 := rfl; omega))) ⟨nodeB_no (c := 95) (by rw [app_cps]; exact List.mem_append.mpr (.inr (by decide +kernel))) (by decide +kernel), v1 (vl_str (pl_app xl (lt_lit (by decide +kernel)) ?_))⟩
    have : ("_" : Str).cps.toList.length = 1 := rfl
    omega
  · have m : ∀ A, mUp (mVar 1) [some (.ref h), some (.str x)] A = .ok (.str (Txt.upper x)) A := fun A => by
      unfold mUp
      rw [var_at (d := .str x) rfl, bind_ok]
      simp only [show x.length ≤ 5592405 by omega, if_true]
    refine dr_ok (fun A => op_at (m A) rfl (add_ss (by have : ("A" : Str).length = 1 := rfl; omega))) ⟨nodeB_no (c := 65) (by rw [app_cps]; exact List.mem_append.mpr (.inr (by decide +kernel))) (by decide +kernel), v1 (vl_str (pl_app (upper_lt hc) (lt_lit (by decide +kernel)) ?_))⟩
    have : ("A" : Str).cps.toList.length = 1 := rfl
    omega
  · have e4 : ("abcd" : Str).cps.toList.length = 4 := by decide +kernel
    have e5 : ("abcd" : Str).length = 4 := by decide +kernel
    refine dr_ok (fun _ => op_at (var_at rfl) rfl (add_ss (by rw [cl]; omega))) ⟨?_, v1 (vl_str (pl_app xl (lt_lit (by decide +kernel)) (by omega)))⟩
    cases z : nodeB (.str (x ++ ("abcd" : Str))) with
    | false => rfl
    | true =>
      have := (nodeB_is z).2.1
      rw [app_cps, List.length_append] at this
      omega
  · refine dr_ok (fun _ => op_at rfl (var_at rfl) (add_ss (by rw [cl]; have : (" " : Str).length = 1 := rfl; omega))) ⟨nodeB_no (c := 32) (by rw [app_cps]; exact List.mem_append.mpr (.inl (by decide +kernel))) (by decide +kernel), v1 (vl_str (pl_app (lt_lit (by decide +kernel)) xl ?_))⟩
    have : (" " : Str).cps.toList.length = 1 := rfl
    omega
  · exact dr_ok (fun _ => rfl) ⟨rfl, v1 vl_non⟩
  · exact dr_ok (fun _ => rfl) ⟨rfl, v1 (vl_int (by decide))⟩
  · exact dr_ok (fun _ => rfl) ⟨rfl, v1 vl_bl⟩
  · exact dr_ok (fun _ => tup_at (cons_at (var_at rfl) nil_at) (by simp)) ⟨rfl, (vl_tup (n := 1) (fun y hy => (List.mem_singleton.mp hy) ▸ vl_node hx) (by simp)).mono (by decide) (by decide)⟩
  · exact dr_ok (fun _ => lst_at (cons_at (var_at rfl) nil_at) (by simp)) ⟨rfl, (vl_lst (n := 1) (fun y hy => (List.mem_singleton.mp hy) ▸ vl_node hx) (by simp)).mono (by decide) (by decide)⟩
  · exact dr_ok (fun _ => rfl) ⟨by decide +kernel, v1 (vl_str (pl_lit (by decide +kernel) (by decide +kernel)))⟩
/-! ### bent lines -/
def Nd (l : L3) : Prop := nodeB (.str l.1) = true ∧ nodeB (.str l.2.1) = true ∧ nodeB (.str l.2.2) = true
theorem vl_ln {l : L3} (n : Nd l) : Vl 1 200 (lnD l) := (vl_tup (k := 0) (w := 64) (n := 3) (fun y hy => by
  rcases List.mem_cons.mp hy with rfl | hy
  · exact vl_node n.1
  · rcases List.mem_cons.mp hy with rfl | hy
    · exact vl_node n.2.1
    · rw [List.mem_singleton.mp hy]
      exact vl_node n.2.2) (by simp)).mono (by decide) (by decide)
def BadL (d : D) : Prop := ∃ v i, d = .tup [v, .int i] ∧ lineF v = some i ∧ -1 ≤ i ∧ i ≤ 2 ∧ Vl 3 1000 v
theorem mem_ln {l : L3} (n : Nd l) : ∀ y ∈ [D.str l.1, .str l.2.1, .str l.2.2], Vl 0 64 y := fun y hy => by
  rcases List.mem_cons.mp hy with rfl | hy
  · exact vl_node n.1
  · rcases List.mem_cons.mp hy with rfl | hy
    · exact vl_node n.2.1
    · rw [List.mem_singleton.mp hy]
      exact vl_node n.2.2
theorem dt_any0 {i k : Nat} (hi : ρ[i]? = some (some (.ref h))) (h0 : 0 < k) (h1 : k < 1073741824) : Dt h q (mTst (mOp (fEq false) (mCallF 2 f__law_any (mCons (mVar i) (mCons (mK (.int (k : Int))) (mNil)))) (mK (.int 0)))) ρ fun _ => True :=
  dt_tst (dr_op (dr_any hi h0 h1) fun d hd => dr_ok (fun _ => rfl) (by obtain ⟨v, rfl, _⟩ := hd; exact ⟨_, fun B => rfl, _, rfl⟩))
theorem bad_line_ok {l : L3} (n : Nd l) : Df h q f__law_bad_line [.ref h, lnD l] BadL := by
  have small : ∀ {xs : List D}, (∀ y ∈ xs, Vl 1 100 y) → xs.length ≤ 4 → Vl 3 1000 (.tup xs) := fun h hl => (vl_tup (n := 4) h hl).mono (by decide) (by decide)
  have m1 : ∀ {xs : List D}, (∀ y ∈ xs, y ∈ [D.str l.1, .str l.2.1, .str l.2.2]) → ∀ y ∈ xs, Vl 1 100 y := fun h y hy => (mem_ln n y (h y hy)).mono (by decide) (by decide)
  unfold f__law_bad_line
  refine df_of (ds_ifd (dt_any0 (k := 3) rfl (by decide) (by decide)) (ds_ret (dr_tup (R := fun ds => ∃ v, ds = [v, .int (-1)] ∧ lineF v = some (-1) ∧ Vl 3 1000 v) (da_cons (P := fun v => lineF v = some (-1) ∧ Vl 3 1000 v) (dr_of rfl (dr_lst (n := 7) (all_cons ?_ (all_cons ?_ (all_cons ?_ (all_cons ?_ (all_cons ?_ (all_cons ?_ (all_cons ?_ (all_cons ?_ all_nil)))))))) (by decide))) fun v hv => da_cons (P := fun e => e = .int (-1)) (dr_ok (fun _ => rfl) rfl) fun e he => da_nil ⟨v, by rw [he], hv⟩) ?_)) ?_) (by simp)
  · exact dr_ok (fun _ => rfl) ⟨rfl, vl_non.mono (by decide) (by decide)⟩
  · exact dr_ok (fun _ => call_at (cons_at (var_at rfl) nil_at) (rfl : fList [lnD l] _ = .ok (.lst [.str l.1, .str l.2.1, .str l.2.2]) _)) ⟨rfl, (vl_lst (n := 3) (mem_ln n) (by simp)).mono (by decide) (by decide)⟩
  · exact dr_ok (fun _ => slt_pre (k := 2) (var_at rfl) rfl) ⟨rfl, small (m1 fun y hy => List.mem_of_mem_take hy) (by simp)⟩
  · refine dr_ok (fun _ => op_at (var_at rfl) (tup_at (cons_at (op_at (var_at rfl) rfl rfl) nil_at) (by simp)) (add_tt (xs := [.str l.1, .str l.2.1, .str l.2.2]) (ys := [.str l.1]) (by simp))) ⟨rfl, small (m1 fun y hy => ?_) (by simp)⟩
    rcases List.mem_append.mp hy with h | h
    · exact h
    · rw [List.mem_singleton.mp h]; exact List.mem_cons_self
  · exact dr_ok (fun _ => tup_at nil_at (by simp)) ⟨rfl, small (fun _ h => nomatch h) (by simp)⟩
  · exact dr_ok (fun _ => rfl) ⟨rfl, (vl_str (pl_lit (by decide +kernel) (by decide +kernel))).mono (by decide) (by decide)⟩
  · exact dr_ok (fun _ => rfl) ⟨rfl, (vl_int (by decide)).mono (by decide) (by decide)⟩
  · exact dr_ok (fun _ => rfl) ⟨rfl, vl_bl.mono (by decide) (by decide)⟩
  · rintro ds ⟨v, rfl, e, hv⟩
    exact ⟨by simp, v, -1, rfl, e, by decide, by decide, hv⟩
  · refine ds_set (dr_any (k := 3) rfl (by decide) (by decide)) ?_
    rintro d ⟨p, rfl, hp⟩
    refine ds_set (P := fun d => ∃ ys, d = .tup ys ∧ ys.length = 2 - p ∧ ∀ y ∈ ys, Vl 1 100 y) (dr_of rfl (dr_lst (n := 1) (all_cons ?_ (all_cons ?_ all_nil)) (by decide))) ?_
    · refine dr_ok (fun _ => slt_suf (k := p + 1) (var_at rfl) (op_at (var_at rfl) rfl (by rw [add_ii]; congr 2))) ⟨_, rfl, ?_, m1 fun y hy => List.mem_of_mem_drop hy⟩
      rw [List.length_drop]
      simp only [List.length_cons, List.length_nil]
      omega
    · have mm : ∀ A, fMulA (.tup [.non]) (.int ((2 : Int) - (p : Int))) A = .ok (.tup (List.replicate (2 - p) [D.non]).flatten) A := fun A => by
        have z : ((2 : Int) - (p : Int)).toNat = 2 - p := by omega
        have c : -(2 ^ 63) ≤ (2 : Int) - (p : Int) ∧ (2 : Int) - (p : Int) < 2 ^ 63 ∧ ([D.non] : List D).length * ((2 : Int) - (p : Int)).toNat ≤ 16777216 := ⟨by omega, by omega, by rw [z]; simp only [List.length_cons, List.length_nil]; omega⟩
        simp only [fMulA]
        rw [if_pos c, z]
      refine dr_ok (fun A => op_at (tup_at (cons_at rfl nil_at) (by simp)) (op_at rfl (var_at rfl) sub_ii) (mm A)) ⟨_, rfl, ?_, fun y hy => ?_⟩
      · rw [List.length_flatten, List.map_replicate]
        simp
      · obtain ⟨L, hL, hy⟩ := List.mem_flatten.mp hy
        rw [(List.mem_replicate.mp hL).2] at hy
        rw [List.mem_singleton.mp hy]
        exact vl_non.mono (by decide) (by decide)
    · rintro d ⟨ys, rfl, hys, py⟩
      refine ds_ret ?_
      intro A hs
      have ix : mOp fIx (mVar 1) (mVar 2) [some (.ref h), some (lnD l), some (.int (p : Int)), some (.tup ys)] A = .ok ([D.str l.1, .str l.2.1, .str l.2.2].getD p .non) A := by
        refine op_at (var_at rfl) (var_at rfl) (DM.ix_tup (SR.atI_nat ?_))
        rw [List.getD_eq_getElem?_getD, List.getElem?_eq_getElem (show p < [D.str l.1, .str l.2.1, .str l.2.2].length by simpa using hp)]
        rfl
      have gd : ∃ x, [D.str l.1, .str l.2.1, .str l.2.2].getD p .non = .str x ∧ nodeB (.str x) = true := by
        match p, hp with
        | 0, _ => exact ⟨_, rfl, n.1⟩
        | 1, _ => exact ⟨_, rfl, n.2.1⟩
        | 2, _ => exact ⟨_, rfl, n.2.2⟩
      obtain ⟨x, ex, hx⟩ := gd
      rw [ex] at ix
      obtain ⟨b, A', e, g, hb⟩ := bad_ok (h := h) (q := q) hx A hs
      have hlen : ([D.str l.1, .str l.2.1, .str l.2.2].take p ++ [b] ++ ys).length ≤ 4 := by
        rw [List.length_append, List.length_append, List.length_take]
        simp only [List.length_cons, List.length_nil]
        omega
      refine ⟨.tup [.tup ([D.str l.1, .str l.2.1, .str l.2.2].take p ++ [b] ++ ys), .int (p : Int)], A', ?_, g, _, (p : Int), rfl, ?_, by omega, by omega, small (fun y hy => ?_) hlen⟩
      · have s1 : mSl (mVar 1) (mNone) (mSome (mVar 2)) [some (.ref h), some (lnD l), some (.int (p : Int)), some (.tup ys)] A = .ok (.tup ([D.str l.1, .str l.2.1, .str l.2.2].take p)) A := slt_pre (var_at rfl) (var_at rfl)
        refine tup_at (cons_at (op_at (op_at s1 (tup_at (cons_at (callF_at (cons_at (var_at rfl) (cons_at ix nil_at)) rfl e) nil_at) (by simp)) (add_tt ?_)) (var_at rfl) (add_tt ?_)) (cons_at (var_at rfl) nil_at)) (by simp)
        · rw [List.length_take]; simp only [List.length_cons, List.length_nil]; omega
        · rw [List.length_append] at hlen; omega
      · match p, hp, ys, hys with
        | 0, _, [y, z], _ =>
          show (if nodeB b = true then _ else some 0) = some (0 : Int)
          rw [if_neg (by rw [hb.1]; decide)]
        | 1, _, [z], _ =>
          show (if nodeB (.str l.1) = true then (if nodeB b = true then _ else some 1) else _) = some (1 : Int)
          rw [if_pos n.1, if_neg (by rw [hb.1]; decide)]
        | 2, _, [], _ =>
          show (if nodeB (.str l.1) = true then (if nodeB (.str l.2.1) = true then (if nodeB b = true then _ else some 2) else _) else _) = some (2 : Int)
          rw [if_pos n.1, if_pos n.2.1, if_neg (by rw [hb.1]; decide)]
      · rcases List.mem_append.mp hy with hy | hy
        · rcases List.mem_append.mp hy with hy | hy
          · exact m1 (fun z hz => hz) y (List.mem_of_mem_take hy)
          · rw [List.mem_singleton.mp hy]; exact hb.2
        · exact py y hy
end GR
end
section
set_option maxHeartbeats 2000000
namespace GR
open PySem PySem.Spec PyProof.Rows L2 DM SR
variable [HasPW] {A B C : AH} {ρ : DM.Env} {h q c : Nat}
/-! ### bent deeds -/
theorem deedL_no {v y : D} {r : List D} (h1 : isW "node" v = false) (h2 : isW "drop" v = false) (h3 : isW "cut" v = false) (h4 : isW "line" v = false) : deedL v y r = some (-1) := by
  unfold deedL
  rw [h1, h2, h3, h4]
  simp
def LstB (P : D → Prop) (n : Nat) (d : D) : Prop := ∃ xs, d = .lst xs ∧ xs.length = n ∧ ∀ x ∈ xs, P x
theorem dr_lstB {ms : MA} {P : D → Prop} {n : Nat} (x : Da h q ms ρ (AllP P n)) (hn : n ≤ 1000) : Dr h q (mLst ms) ρ (LstB P n) := fun A hs =>
  let ⟨ds, A', e, g, r⟩ := x A hs
  ⟨.lst ds, A', lst_at e (by rw [r.1]; exact hn), g, ds, rfl, r.1, r.2⟩
def BadD (d : D) : Prop := ∃ v i, d = .tup [v, .int i] ∧ deedF v = some i ∧ -1 ≤ i ∧ i ≤ 2 ∧ Vl 6 100000 v
theorem isW_s (s w : Str) : isW s (.str w) = decide (w = s) := rfl
theorem deed_form {N K : List Str} (hN : ∀ x ∈ N, nodeB (.str x) = true) (hK : ∀ x ∈ K, nodeB (.str x) = true) {d : D} (h : Deed N K d) : ∃ w y r, d = .tup (.str w :: y :: r) ∧ (∀ z ∈ (.str w :: y :: r), Vl 1 200 z) ∧ deedL (.str w) y (r ++ [.int 1]) = some (-1) ∧ r.length ≤ 1 := by
  have lit : ∀ {w : Str}, (w.cps.toList.all fun c => decide (c < 128)) = true → w.cps.toList.length ≤ 64 → Vl 1 200 (.str w) := fun h1 h2 => (vl_str (pl_lit h1 h2)).mono (by decide) (by decide)
  have nl : ∀ {l : L3}, LnOf N K l → Vl 1 200 (lnD l) := fun hl => vl_ln ⟨hN _ hl.1, hK _ hl.2.1, hN _ hl.2.2⟩
  cases h with
  | @node w x hw hx =>
    refine ⟨w, .str x, [], rfl, fun z hz => ?_, ?_, by simp⟩
    · rcases List.mem_cons.mp hz with rfl | hz
      · rcases hw with rfl | rfl <;> exact lit (by decide +kernel) (by decide +kernel)
      · rw [List.mem_singleton.mp hz]
        exact (vl_node (hN x hx)).mono (by decide) (by decide)
    · unfold deedL
      rcases hw with rfl | rfl
      · rw [isW_s, isW_s, isW_s, isW_s, decide_eq_false (show ¬ ("node" : Str) = "line" by decide +kernel)]
        simp
      · rw [isW_s, isW_s, isW_s, isW_s, decide_eq_false (show ¬ ("drop" : Str) = "line" by decide +kernel)]
        simp
  | @cut l hl =>
    refine ⟨"cut", lnD l, [], rfl, fun z hz => ?_, ?_, by simp⟩
    · rcases List.mem_cons.mp hz with rfl | hz
      · exact lit (by decide +kernel) (by decide +kernel)
      · rw [List.mem_singleton.mp hz]
        exact nl hl
    · unfold deedL
      rw [isW_s, isW_s, isW_s, isW_s, decide_eq_false (show ¬ ("cut" : Str) = "line" by decide +kernel)]
      simp
  | @line l p hl hp =>
    refine ⟨"line", lnD l, [p], rfl, fun z hz => ?_, ?_, by simp⟩
    · rcases List.mem_cons.mp hz with rfl | hz
      · exact lit (by decide +kernel) (by decide +kernel)
      · rcases List.mem_cons.mp hz with rfl | hz
        · exact nl hl
        · rw [List.mem_singleton.mp hz]
          obtain ⟨k, rfl, hk⟩ := hp
          exact (vl_int (by omega)).mono (by decide) (by decide)
    · unfold deedL
      simp
theorem bad_deed_ok {N K : List Str} (hN : ∀ x ∈ N, nodeB (.str x) = true) (hK : ∀ x ∈ K, nodeB (.str x) = true) {d : D} (hd : Deed N K d) : Df h q f__law_bad_deed [.ref h, d] BadD := by
  obtain ⟨w, y, r, ed, vs, hno, hr⟩ := deed_form hN hK hd
  have big : ∀ {xs : List D}, (∀ z ∈ xs, Vl 2 1000 z) → xs.length ≤ 8 → Vl 6 100000 (.tup xs) := fun h hl => (vl_tup (n := 8) h hl).mono (by decide) (by decide)
  have up : ∀ {z : D}, Vl 1 200 z → Vl 2 1000 z := fun v => v.mono (by decide) (by decide)
  have v0 := vs _ List.mem_cons_self
  have vt : ∀ z ∈ y :: r, Vl 1 200 z := fun z hz => vs z (List.mem_cons_of_mem _ hz)
  have tails : ∀ {v : D}, Vl 2 1000 v → Vl 6 100000 (.tup (v :: y :: r)) := fun hv => big (fun z hz => (List.mem_cons.mp hz).elim (fun e => e ▸ hv) fun hz => up (vt z hz)) (by simp only [List.length_cons]; omega)
  have alld : ∀ z ∈ (.str w :: y :: r), Vl 2 1000 z := fun z hz => up (vs z hz)
  have ln2 : ∀ {x : D} {ys : List D}, [x].length + (y :: r).length ≤ 100000 := by intros; simp only [List.length_cons, List.length_nil]; omega
  unfold f__law_bad_deed
  refine df_of (ds_ifd (dt_any0 (k := 3) rfl (by decide) (by decide)) (ds_set (P := LstB (fun v => deedF v = some (-1) ∧ Vl 6 100000 v) 10) (dr_lstB (n := 10) (all_cons ?_ (all_cons ?_ (all_cons ?_ (all_cons ?_ (all_cons ?_ (all_cons ?_ (all_cons ?_ (all_cons ?_ (all_cons ?_ (all_cons ?_ all_nil)))))))))) (by decide)) fun L hL => ds_ret (dr_tup (R := fun ds => ∃ v, ds = [v, .int (-1)] ∧ deedF v = some (-1) ∧ Vl 6 100000 v) (da_cons (P := fun v => deedF v = some (-1) ∧ Vl 6 100000 v) (dr_of rfl (dr_op (P := fun e => e = L) (dr_ok (fun _ => var_at rfl) rfl) fun e he => (dr_lstB (P := fun v => deedF v = some (-1) ∧ Vl 6 100000 v) (n := 1) (all_cons ?_ all_nil) (by decide)).imp fun e2 he2 => ?_)) fun v hv => da_cons (P := fun e => e = .int (-1)) (dr_ok (fun _ => rfl) rfl) fun e he => da_nil ⟨v, by rw [he], hv⟩) ?_)) ?_) (by simp)
  · exact dr_ok (fun _ => rfl) ⟨rfl, vl_non.mono (by decide) (by decide)⟩
  · refine dr_ok (d := .lst (.str w :: y :: r)) (fun _ => ?_) ⟨rfl, (vl_lst (n := 8) alld (by simp only [List.length_cons]; omega)).mono (by decide) (by decide)⟩
    subst ed
    exact call_at (cons_at (var_at rfl) nil_at) rfl
  · refine dr_ok (d := .tup [.str w]) (fun _ => ?_) ⟨rfl, big (fun z hz => (List.mem_singleton.mp hz) ▸ up v0) (by simp)⟩
    subst ed
    exact slt_pre (xs := .str w :: y :: r) (k := 1) (var_at rfl) rfl
  · refine dr_ok (d := .tup ((.str w :: y :: r) ++ [.int 1])) (fun _ => ?_) ⟨by exact hno, big (fun z hz => (List.mem_append.mp hz).elim (alld z) fun hz => (List.mem_singleton.mp hz) ▸ (vl_int (by decide)).mono (by decide) (by decide)) (by rw [List.length_append]; simp only [List.length_cons, List.length_nil]; omega)⟩
    subst ed
    exact op_at (var_at rfl) (tup_at (cons_at rfl nil_at) (by simp)) (add_tt (by simp only [List.length_cons, List.length_nil]; omega))
  · refine dr_ok (d := .tup (.str "go" :: y :: r)) (fun _ => ?_) ⟨deedL_no (by decide +kernel) (by decide +kernel) (by decide +kernel) (by decide +kernel), tails ((vl_str (pl_lit (by decide +kernel) (by decide +kernel))).mono (by decide) (by decide))⟩
    subst ed
    exact op_at (tup_at (cons_at rfl nil_at) (by simp)) (slt_suf (k := 1) (var_at rfl) rfl) (add_tt (xs := [.str "go"]) (ys := y :: r) (by simp only [List.length_cons, List.length_nil]; omega))
  · refine dr_ok (d := .tup (.non :: y :: r)) (fun _ => ?_) ⟨deedL_no rfl rfl rfl rfl, tails (vl_non.mono (by decide) (by decide))⟩
    subst ed
    exact op_at (tup_at (cons_at rfl nil_at) (by simp)) (slt_suf (k := 1) (var_at rfl) rfl) (add_tt (xs := [.non]) (ys := y :: r) (by simp only [List.length_cons, List.length_nil]; omega))
  · exact dr_ok (fun _ => tup_at nil_at (by simp)) ⟨rfl, big (fun _ h => nomatch h) (by simp)⟩
  · refine dr_ok (d := .str w) (fun _ => ?_) ⟨rfl, v0.mono (by decide) (by decide)⟩
    subst ed
    exact op_at (var_at rfl) rfl (DM.ix_tup (SR.atI_nat (j := 0) rfl))
  · exact dr_ok (fun _ => rfl) ⟨rfl, (vl_int (by decide)).mono (by decide) (by decide)⟩
  · refine dr_ok (d := .tup [.lst [], y]) (fun _ => ?_) ⟨deedL_no rfl rfl rfl rfl, big (fun z hz => ?_) (by simp)⟩
    · subst ed
      exact tup_at (cons_at (lst_at nil_at (by simp)) (cons_at (op_at (var_at rfl) rfl (DM.ix_tup (SR.atI_nat (j := 1) rfl))) nil_at)) (by simp)
    · rcases List.mem_cons.mp hz with rfl | hz
      · exact (vl_lst (k := 0) (w := 0) (n := 0) (xs := []) (fun _ h => nomatch h) (by simp)).mono (by decide) (by decide)
      · rw [List.mem_singleton.mp hz]
        exact up (vt y List.mem_cons_self)
  · refine dr_ok (d := .tup (.bl true :: y :: r)) (fun _ => ?_) ⟨deedL_no rfl rfl rfl rfl, tails (vl_bl.mono (by decide) (by decide))⟩
    subst ed
    exact op_at (tup_at (cons_at rfl nil_at) (by simp)) (slt_suf (k := 1) (var_at rfl) rfl) (add_tt (xs := [.bl true]) (ys := y :: r) (by simp only [List.length_cons, List.length_nil]; omega))
  · obtain ⟨xs, rfl, a1, a3⟩ := hL
    obtain ⟨zs, rfl, b1, b3⟩ := he2
    rw [he]
    exact ⟨.lst (xs ++ zs), fun B => add_ll (by omega), xs ++ zs, rfl, by rw [List.length_append]; omega, by rw [List.length_append]; omega, fun z hz => (List.mem_append.mp hz).elim (a3 z) (b3 z)⟩
  · rintro ds ⟨v, rfl, e, hv⟩
    exact ⟨by simp, v, -1, rfl, e, by decide, by decide, hv⟩
  · have pn : ∀ {x : Str}, nodeB (.str x) = true → Pl (.str x) := pl_node
    cases hd with
    | @node w x hw hx =>
      refine ds_if (b := true) (dt_ok fun A => tst_at (op_at (op_at (var_at rfl) rfl rfl) (tup_at (cons_at rfl (cons_at rfl nil_at)) (by simp)) ?_)) (fun _ => ds_ret ?_) fun z => nomatch z
      · have pw : Pl (.str w) := by rcases hw with rfl | rfl <;> exact pl_lit (by decide +kernel) (by decide +kernel)
        have e := in_words (A := A) (s1 := "node") (s2 := "drop") pw (Nat.zero_le _) (by decide +kernel) (by decide +kernel)
        have e2 : (isW "node" (.str w) || isW "drop" (.str w)) = true := by rcases hw with rfl | rfl <;> decide +kernel
        rw [e2] at e
        exact e
      · refine dr_tup (R := fun ds => ∃ v, ds = [v, .int 1] ∧ deedF v = some 1 ∧ Vl 6 100000 v) (da_cons (P := fun v => deedF v = some 1 ∧ Vl 6 100000 v) (dr_tup (R := fun ds => ∃ b, ds = [.str w, b] ∧ BadN b) (da_cons (P := fun e => e = .str w) (dr_ok (fun _ => op_at (var_at rfl) rfl rfl) rfl) fun e he => da_cons (P := BadN) (dr_call (da_cons (P := fun e => e = .ref h) (dr_ok (fun _ => var_at rfl) rfl) fun e2 he2 => da_cons (P := fun e => e = .str x) (dr_ok (fun _ => op_at (var_at rfl) rfl rfl) rfl) fun e3 he3 => da_nil ⟨rfl, by rw [he2, he3]; exact bad_ok (hN x hx)⟩)) fun b hb => da_nil ⟨b, by rw [he], hb⟩) ?_) fun v hv => da_cons (P := fun e => e = .int 1) (dr_ok (fun _ => rfl) rfl) fun e he => da_nil ⟨v, by rw [he], hv⟩) ?_
        · rintro ds ⟨b, rfl, hb⟩
          refine ⟨by simp, ?_, big (fun z hz => ?_) (by simp)⟩
          · show deedL (.str w) b [] = some 1
            unfold deedL
            rw [if_pos (show ((isW "node" (.str w) || isW "drop" (.str w)) && ([] : List D).isEmpty) = true by rcases hw with rfl | rfl <;> decide +kernel), if_neg (by rw [hb.1]; decide)]
          · rcases List.mem_cons.mp hz with rfl | hz
            · rcases hw with rfl | rfl <;> exact (vl_str (pl_lit (by decide +kernel) (by decide +kernel))).mono (by decide) (by decide)
            · rw [List.mem_singleton.mp hz]
              exact hb.2.mono (by decide) (by decide)
        · rintro ds ⟨v, rfl, e, hv⟩
          exact ⟨by simp, v, 1, rfl, e, by decide, by decide, hv⟩
    | @cut l hl =>
      have nl : Nd l := ⟨hN _ hl.1, hK _ hl.2.1, hN _ hl.2.2⟩
      refine ds_if (b := false) (dt_ok fun A => tst_at (op_at (op_at (var_at rfl) rfl rfl) (tup_at (cons_at rfl (cons_at rfl nil_at)) (by simp)) ?_)) (fun z => nomatch z) fun _ => ?_
      · exact (in_words (A := A) (d := .str "cut") (s1 := "node") (s2 := "drop") (pl_lit (by decide +kernel) (by decide +kernel)) (Nat.zero_le _) (by decide +kernel) (by decide +kernel)).trans (by congr 2)
      refine ds_if (b := false) (dt_ok fun A => and_at (a := false) (b := false) (tst_at (op_at (op_at (var_at rfl) rfl rfl) rfl rfl)) (fun z => nomatch z) fun _ => rfl) (fun z => nomatch z) fun _ => ds_ret ?_
      refine dr_tup (R := fun ds => ∃ v, ds = [v, .int 1] ∧ deedF v = some 1 ∧ Vl 6 100000 v) (da_cons (P := fun v => deedF v = some 1 ∧ Vl 6 100000 v) ?_ fun v hv => da_cons (P := fun e => e = .int 1) (dr_ok (fun _ => rfl) rfl) fun e he => da_nil ⟨v, by rw [he], hv⟩) ?_
      · intro A hs
        obtain ⟨_, A', e, g, v, i, rfl, hv, _, i2, vv⟩ := bad_line_ok (h := h) (q := q) nl A hs
        refine ⟨.tup ([.str "cut", v] ++ []), A', op_at (tup_at (cons_at (op_at (var_at rfl) rfl rfl) (cons_at (op_at (callF_at (cons_at (var_at rfl) (cons_at (op_at (var_at rfl) rfl rfl) nil_at)) rfl e) rfl rfl) nil_at)) (by simp)) (slt_suf (k := 2) (var_at rfl) rfl) (add_tt (by simp)), g, ?_, (vl_tup (k := 3) (w := 1000) (n := 2) (fun z hz => ?_) (by simp)).mono (by decide) (by decide)⟩
        · show deedL (.str "cut") v [] = some 1
          unfold deedL
          rw [if_neg (show ¬ ((isW "node" (.str "cut") || isW "drop" (.str "cut")) && ([] : List D).isEmpty) = true by decide +kernel), if_pos (show (isW "cut" (.str "cut") && ([] : List D).isEmpty) = true by decide +kernel), if_neg (by rw [lineB, hv]; exact Bool.false_ne_true)]
        · rcases List.mem_cons.mp hz with rfl | hz
          · exact (vl_str (pl_lit (by decide +kernel) (by decide +kernel))).mono (by decide) (by decide)
          · rw [List.mem_singleton.mp hz]
            exact vv
      · rintro ds ⟨v, rfl, e, hv⟩
        exact ⟨by simp, v, 1, rfl, e, by decide, by decide, hv⟩
    | @line l p hl hp =>
      have nl : Nd l := ⟨hN _ hl.1, hK _ hl.2.1, hN _ hl.2.2⟩
      have vp : Vl 2 1000 p := by
        obtain ⟨k, rfl, hk⟩ := hp
        exact (vl_int (by omega)).mono (by decide) (by decide)
      have vL : Vl 2 1000 (.str "line") := (vl_str (pl_lit (by decide +kernel) (by decide +kernel))).mono (by decide) (by decide)
      refine ds_if (b := false) (dt_ok fun A => tst_at (op_at (op_at (var_at rfl) rfl rfl) (tup_at (cons_at rfl (cons_at rfl nil_at)) (by simp)) ?_)) (fun z => nomatch z) fun _ => ?_
      · exact (in_words (A := A) (d := .str "line") (s1 := "node") (s2 := "drop") (pl_lit (by decide +kernel) (by decide +kernel)) (Nat.zero_le _) (by decide +kernel) (by decide +kernel)).trans (by congr 2)
      refine ds_ifd ?_ (ds_ret ?_) (ds_ret ?_)
      · intro A hs
        obtain ⟨b, A', e, g, _⟩ := dt_any0 (h := h) (q := q) (ρ := [some (.ref h), some (.tup [.str "line", lnD l, p]), none]) (i := 0) (k := 2) rfl (by decide) (by decide) A hs
        exact ⟨true && b, A', and_at (tst_at (op_at (op_at (var_at rfl) rfl rfl) rfl rfl)) (fun _ => e) (fun z => nomatch z), g, trivial⟩
      · refine dr_tup (R := fun ds => ∃ v, ds = [v, .int 2] ∧ deedF v = some 2 ∧ Vl 6 100000 v) (da_cons (P := fun v => deedF v = some 2 ∧ Vl 6 100000 v) ?_ fun v hv => da_cons (P := fun e => e = .int 2) (dr_ok (fun _ => rfl) rfl) fun e he => da_nil ⟨v, by rw [he], hv⟩) ?_
        · refine dr_op (P := fun e => e = .tup [.str "line", lnD l]) (dr_ok (fun _ => slt_pre (k := 2) (var_at rfl) rfl) rfl) fun e he => (dr_tup (P := fun e => ∃ b, e = .tup [b] ∧ priceB b = false ∧ Vl 2 1000 b) (R := fun ds => ∃ b, ds = [b] ∧ priceB b = false ∧ Vl 2 1000 b) (da_cons (P := fun b => priceB b = false ∧ Vl 2 1000 b) (dr_of rfl (dr_lst (n := 5) (all_cons (dr_ok (fun _ => rfl) ⟨rfl, (vl_int (by decide)).mono (by decide) (by decide)⟩) (all_cons (dr_ok (fun A => op_at (pow6 A) rfl add_ii) ⟨rfl, (vl_int (by decide)).mono (by decide) (by decide)⟩) (all_cons (dr_ok (fun _ => rfl) ⟨rfl, vl_bl.mono (by decide) (by decide)⟩) (all_cons (dr_ok (fun _ => rfl) ⟨rfl, vl_non.mono (by decide) (by decide)⟩) (all_cons (dr_ok (fun _ => rfl) ⟨rfl, (vl_str (pl_lit (by decide +kernel) (by decide +kernel))).mono (by decide) (by decide)⟩) (all_cons (dr_ok (fun _ => tup_at (cons_at rfl nil_at) (by simp)) ⟨rfl, (vl_tup (k := 0) (w := 64) (n := 1) (fun z hz => (List.mem_singleton.mp hz) ▸ vl_int (by decide)) (by simp)).mono (by decide) (by decide)⟩) all_nil)))))) (by decide))) fun b hb => da_nil ⟨b, rfl, hb⟩) fun ds hds => ?_).imp fun e2 he2 => ?_
          · obtain ⟨b, rfl, hb⟩ := hds
            exact ⟨by simp, b, rfl, hb⟩
          · obtain ⟨b, rfl, hb, vb⟩ := he2
            rw [he]
            refine ⟨.tup [.str "line", lnD l, b], fun B => add_tt (xs := [.str "line", lnD l]) (ys := [b]) (by simp), ?_, big (fun z hz => ?_) (by simp)⟩
            · show deedL (.str "line") (lnD l) [b] = some 2
              unfold deedL
              rw [if_neg (show ¬ ((isW "node" (.str "line") || isW "drop" (.str "line")) && [b].isEmpty) = true by simp), if_neg (show ¬ (isW "cut" (.str "line") && [b].isEmpty) = true by simp), if_pos (show isW "line" (.str "line") = true by decide +kernel)]
              simp only
              rw [if_pos (by rw [lineB, line_nm hN hK hl]; rfl), if_neg (by rw [hb]; decide)]
            · rcases List.mem_cons.mp hz with rfl | hz
              · exact vL
              · rcases List.mem_cons.mp hz with rfl | hz
                · exact up (vl_ln nl)
                · rw [List.mem_singleton.mp hz]
                  exact vb
        · rintro ds ⟨v, rfl, e, hv⟩
          exact ⟨by simp, v, 2, rfl, e, by decide, by decide, hv⟩
      · refine dr_tup (R := fun ds => ∃ v, ds = [v, .int 1] ∧ deedF v = some 1 ∧ Vl 6 100000 v) (da_cons (P := fun v => deedF v = some 1 ∧ Vl 6 100000 v) ?_ fun v hv => da_cons (P := fun e => e = .int 1) (dr_ok (fun _ => rfl) rfl) fun e he => da_nil ⟨v, by rw [he], hv⟩) ?_
        · intro A hs
          obtain ⟨_, A', e, g, v, i, rfl, hv, _, i2, vv⟩ := bad_line_ok (h := h) (q := q) nl A hs
          refine ⟨.tup ([.str "line", v] ++ [p]), A', op_at (tup_at (cons_at (op_at (var_at rfl) rfl rfl) (cons_at (op_at (callF_at (cons_at (var_at rfl) (cons_at (op_at (var_at rfl) rfl rfl) nil_at)) rfl e) rfl rfl) nil_at)) (by simp)) (slt_suf (k := 2) (var_at rfl) rfl) (add_tt (by simp)), g, ?_, (vl_tup (k := 3) (w := 1000) (n := 3) (fun z hz => ?_) (by simp)).mono (by decide) (by decide)⟩
          · show deedL (.str "line") v [p] = some 1
            unfold deedL
            rw [if_neg (show ¬ ((isW "node" (.str "line") || isW "drop" (.str "line")) && [p].isEmpty) = true by simp), if_neg (show ¬ (isW "cut" (.str "line") && [p].isEmpty) = true by simp), if_pos (show isW "line" (.str "line") = true by decide +kernel)]
            simp only
            rw [if_neg (by rw [lineB, hv]; exact Bool.false_ne_true)]
          · rcases List.mem_append.mp hz with hz | hz
            · rcases List.mem_cons.mp hz with rfl | hz
              · exact vL.mono (by decide) (by decide)
              · rw [List.mem_singleton.mp hz]
                exact vv
            · rw [List.mem_singleton.mp hz]
              exact vp.mono (by decide) (by decide)
        · rintro ds ⟨v, rfl, e, hv⟩
          exact ⟨by simp, v, 1, rfl, e, by decide, by decide, hv⟩
end GR
end
section
set_option maxHeartbeats 2000000
namespace GR
open PySem PySem.Spec PyProof.Rows L2 DM SR
variable [HasPW] {A B C : AH} {ρ : DM.Env} {h q c : Nat}
/-! ### rows that rise -/
def Rise : Option Str → List Str → Prop
  | _, [] => True
  | p, x :: xs => nodeB (.str x) = true ∧ ovr p x = false ∧ Rise (some x) xs
def lastO : Option Str → List Str → Option Str
  | p, [] => p
  | _, x :: xs => lastO (some x) xs
theorem lastO_snoc : ∀ (p : Option Str) (xs : List Str) (y : Str), lastO p (xs ++ [y]) = some y
  | _, [], _ => rfl
  | _, x :: xs, y => lastO_snoc (some x) xs y
theorem rise_of : ∀ {xs : List Str} {p : Option Str}, (∀ x ∈ xs, nodeB (.str x) = true) → xs.Pairwise LtN → (∀ x ∈ xs, ovr p x = false) → Rise p xs
  | [], _, _, _, _ => trivial
  | x :: xs, p, hn, hp, h0 => by
    obtain ⟨h1, h2⟩ := List.pairwise_cons.mp hp
    exact ⟨hn x List.mem_cons_self, h0 x List.mem_cons_self, rise_of (fun y hy => hn y (List.mem_cons_of_mem _ hy)) h2 fun y hy => h1 y hy⟩
theorem nodesF_app : ∀ {xs : List Str} {p : Option Str} {i : Nat} {ds : List D}, Rise p xs → nodesF p i (xs.map D.str ++ ds) = nodesF (lastO p xs) (i + xs.length) ds
  | [], _, _, _, _ => rfl
  | x :: xs, p, i, ds, h => by
    rw [List.map_cons, List.cons_append, nodesF_cons, if_pos ⟨h.1, h.2.1⟩, nodesF_app h.2.2, List.length_cons]
    congr 1
    omega
theorem nodesF_all {xs : List Str} {p : Option Str} {i : Nat} (h : Rise p xs) : nodesF p i (xs.map D.str) = none := by
  have := nodesF_app (i := i) (ds := []) h
  rw [List.append_nil] at this
  rw [this]
  rfl
theorem strsD_map : ∀ xs : List Str, strsD (xs.map D.str) = xs
  | [] => rfl
  | x :: xs => by
    show x :: strsD (xs.map D.str) = _
    rw [strsD_map]
theorem graphF_n {ns ls : List D} {i : Nat} (h : nodesF none 0 ns = some i) : graphF (.tup [.tup ns, .tup ls]) = some (i : Int) := by
  unfold graphF
  simp only [h]
theorem graphF_l {NS : List Str} {ls : List D} (h : Rise none NS) : graphF (.tup [.tup (NS.map D.str), .tup ls]) = (linesF NS none 0 ls).map fun i => ((NS.length + i : Nat) : Int) := by
  unfold graphF
  simp only [nodesF_all h, strsD_map, List.length_map]
theorem lineOk_at {NS : List Str} {p : Option (List Str)} {l : L3} {k : Nat} (n : Nd l) (h1 : l.1 ∈ NS) (h2 : l.2.2 ∈ NS) (hk : k ≤ 1000000) (ho : ovl p (row l) = false) : lineOk NS p (enE (l, k)) = true := by
  show (lineB (lnD l) && priceB (.int (k : Int)) && (decide (l.1 ∈ NS) && decide (l.2.2 ∈ NS) && !ovl p (row l))) = true
  have e1 : lineB (lnD l) = true := by
    have : lineF (lnD l) = none := by
      show (if nodeB (.str l.1) = true then (if nodeB (.str l.2.1) = true then (if nodeB (.str l.2.2) = true then none else some 2) else some 1) else some 0) = none
      rw [if_pos n.1, if_pos n.2.1, if_pos n.2.2]
    rw [lineB, this]
    rfl
  rw [e1, price_B ⟨k, rfl, hk⟩, decide_eq_true h1, decide_eq_true h2, ho]
  rfl
def RL (NS : List Str) : Option (List Str) → PL → Prop
  | _, [] => True
  | p, e :: es => lineOk NS p (enE e) = true ∧ RL NS (some (row e.1)) es
def lastL : Option (List Str) → PL → Option (List Str)
  | p, [] => p
  | _, e :: es => lastL (some (row e.1)) es
theorem lastL_snoc : ∀ (p : Option (List Str)) (xs : PL) (e : L3 × Nat), lastL p (xs ++ [e]) = some (row e.1)
  | _, [], _ => rfl
  | _, x :: xs, y => lastL_snoc (some (row x.1)) xs y
theorem linesF_app {NS : List Str} : ∀ {es : PL} {p : Option (List Str)} {i : Nat} {ds : List D}, RL NS p es → linesF NS p i (es.map enE ++ ds) = linesF NS (lastL p es) (i + es.length) ds
  | [], _, _, _, _ => rfl
  | e :: es, p, i, ds, h => by
    rw [List.map_cons, List.cons_append]
    conv => lhs; unfold linesF
    rw [if_pos h.1]
    show linesF NS (some (row e.1)) (i + 1) (es.map enE ++ ds) = _
    rw [linesF_app h.2, List.length_cons]
    show _ = linesF NS (lastL (some (row e.1)) es) (i + (es.length + 1)) ds
    congr 1
    omega
theorem linesF_no {NS : List Str} {es : PL} {d : D} {ds : List D} {i : Nat} (h : RL NS none es) (hd : lineOk NS (lastL none es) d = false) (hi : es.length = i) : linesF NS none 0 (es.map enE ++ d :: ds) = some i := by
  rw [linesF_app h]
  unfold linesF
  rw [if_neg (by rw [hd]; decide), Nat.zero_add, hi]
theorem rl_of {NS : List Str} : ∀ {es : PL} {p : Option (List Str)}, (∀ e ∈ es, Nd e.1 ∧ e.1.1 ∈ NS ∧ e.1.2.2 ∈ NS ∧ e.2 ≤ 1000000) → es.Pairwise (fun a b => Lt a.1 b.1) → (∀ e ∈ es, ovl p (row e.1) = false) → RL NS p es
  | [], _, _, _, _ => trivial
  | e :: es, p, hn, hp, h0 => by
    obtain ⟨h1, h2⟩ := List.pairwise_cons.mp hp
    obtain ⟨n, a, b, k⟩ := hn e List.mem_cons_self
    exact ⟨lineOk_at n a b k (h0 e List.mem_cons_self), rl_of (fun y hy => hn y (List.mem_cons_of_mem _ hy)) h2 fun y hy => h1 y hy⟩
theorem linesF_all {NS : List Str} {es : PL} (h : RL NS none es) : linesF NS none 0 (es.map enE) = none := by
  have := linesF_app (i := 0) (ds := []) h
  rw [List.append_nil] at this
  rw [this]
  rfl
section
variable {N K NS : List Str} {es : PL}
theorem GOk.nd (g : GOk N K NS es) (hN : ∀ x ∈ N, nodeB (.str x) = true) : ∀ x ∈ NS, nodeB (.str x) = true := fun x hx => hN x (g.n x hx)
theorem GOk.rise (g : GOk N K NS es) (hN : ∀ x ∈ N, nodeB (.str x) = true) : Rise none NS := rise_of (g.nd hN) g.np fun _ _ => rfl
theorem GOk.nl (g : GOk N K NS es) (hN : ∀ x ∈ N, nodeB (.str x) = true) (hK : ∀ x ∈ K, nodeB (.str x) = true) : ∀ e ∈ es, Nd e.1 := fun e he => let ⟨a, b, k, _⟩ := g.ends e he; ⟨g.nd hN _ a, hK _ k, g.nd hN _ b⟩
theorem GOk.rl (g : GOk N K NS es) (hN : ∀ x ∈ N, nodeB (.str x) = true) (hK : ∀ x ∈ K, nodeB (.str x) = true) : RL NS none es := rl_of (fun e he => let ⟨a, b, _, p⟩ := g.ends e he; ⟨g.nl hN hK e he, a, b, p⟩) g.ep fun _ _ => rfl
theorem GOk.good (g : GOk N K NS es) (hN : ∀ x ∈ N, nodeB (.str x) = true) (hK : ∀ x ∈ K, nodeB (.str x) = true) : graphF (.tup [.tup (NS.map D.str), .tup (es.map enE)]) = none := by
  rw [graphF_l (g.rise hN), linesF_all (g.rl hN hK)]
  rfl
theorem sLe_refl (x : Str) : sLe x x = true := by
  have := sLe_total x x
  simpa using this
theorem lexLeS_refl : ∀ xs : List Str, lexLeS xs xs = true
  | [] => rfl
  | x :: xs => by rw [lexLeS_cons, if_pos rfl, lexLeS_refl xs]
theorem take_snoc {α : Type} {xs : List α} {p : Nat} {y : α} (h : xs[p]? = some y) : xs.take (p + 1) = xs.take p ++ [y] := by
  rw [List.take_add_one, h]
  rfl
theorem split_at {α : Type} {xs : List α} {p : Nat} {y : α} (h : xs[p]? = some y) : xs = xs.take p ++ y :: xs.drop (p + 1) := by
  have hp := (List.getElem?_eq_some_iff.mp h).1
  have e : xs.drop p = y :: xs.drop (p + 1) := by
    rw [List.drop_eq_getElem_cons hp]
    congr 1
    exact (List.getElem?_eq_some_iff.mp h).2
  rw [← e, List.take_append_drop]
/-- a wrong node -/
theorem bad_n1 (g : GOk N K NS es) (hN : ∀ x ∈ N, nodeB (.str x) = true) {p : Nat} (hp : p < NS.length) {d : D} {r ls : List D} (hd : nodeB d = false ∨ ∃ j y, p = j + 1 ∧ NS[j]? = some y ∧ d = .str y) : graphF (.tup [.tup ((NS.map D.str).take p ++ [d] ++ r), .tup ls]) = some (p : Int) := by
  refine graphF_n ?_
  have rt : Rise none (NS.take p) := rise_of (fun x hx => g.nd hN x (List.mem_of_mem_take hx)) (g.np.sublist (List.take_sublist ..)) fun _ _ => rfl
  rw [List.append_assoc, ← List.map_take, nodesF_app rt, List.length_take, Nat.min_eq_left (by omega), Nat.zero_add]
  rcases hd with hd | ⟨j, y, rfl, hy, rfl⟩
  · show nodesF _ p (d :: r) = some p
    unfold nodesF
    split
    · rw [if_neg fun z => by rw [hd] at z; exact Bool.false_ne_true z.1]
    · rfl
  · rw [take_snoc hy, lastO_snoc]
    show nodesF (some y) (j + 1) (.str y :: r) = _
    rw [nodesF_cons, if_neg fun z => by have := z.2; rw [show ovr (some y) y = true from sLe_refl y] at this; exact Bool.false_ne_true this.symm]
/-- two nodes changed -/
theorem bad_n2 (g : GOk N K NS es) (hN : ∀ x ∈ N, nodeB (.str x) = true) {j : Nat} {x y : Str} (hx : NS[j]? = some x) (hy : NS[j + 1]? = some y) {r ls : List D} : graphF (.tup [.tup ((NS.map D.str).take j ++ [.str y, .str x] ++ r), .tup ls]) = some ((j + 1 : Nat) : Int) := by
  refine graphF_n ?_
  have sp := split_at hy
  have sp2 := take_snoc hx
  have pw := g.np
  rw [sp, sp2] at pw
  obtain ⟨p1, p2, p3⟩ := List.pairwise_append.mp pw
  have q1 := p3 x (List.mem_append.mpr (.inr List.mem_cons_self)) y List.mem_cons_self
  have ri : Rise none (NS.take j ++ [y]) := by
    refine rise_of (fun z hz => (List.mem_append.mp hz).elim (fun hz => g.nd hN z (List.mem_of_mem_take hz)) fun hz => (List.mem_singleton.mp hz) ▸ g.nd hN y (List.mem_of_getElem? hy)) ?_ fun _ _ => rfl
    refine List.pairwise_append.mpr ⟨g.np.sublist (List.take_sublist ..), List.pairwise_singleton .., fun a ha b hb => ?_⟩
    rw [List.mem_singleton.mp hb]
    exact p3 a (List.mem_append.mpr (.inl ha)) y List.mem_cons_self
  have hj := (List.getElem?_eq_some_iff.mp hx).1
  have e : (NS.map D.str).take j ++ [.str y, .str x] ++ r = (NS.take j ++ [y]).map D.str ++ (.str x :: r) := by
    rw [List.map_append, List.map_take]
    simp
  rw [e, nodesF_app ri, lastO_snoc, List.length_append, List.length_take, Nat.min_eq_left (by omega), Nat.zero_add]
  show nodesF (some y) (j + 1) (.str x :: r) = _
  rw [nodesF_cons, if_neg fun z => ?_]
  have z2 := z.2
  have q2 : sLe y x = false := q1
  have : sLe x y = true := by
    have := sLe_total x y
    rw [q2, Bool.or_false] at this
    exact this
  rw [show ovr (some y) x = sLe x y from rfl, this] at z2
  exact Bool.false_ne_true z2.symm
/-- a node taken out: its first line is told -/
theorem bad_n3 (g : GOk N K NS es) (hN : ∀ x ∈ N, nodeB (.str x) = true) (hK : ∀ x ∈ K, nodeB (.str x) = true) {p j : Nat} {x : Str} {e : L3 × Nat} (hx : NS[p]? = some x) (he : es[j]? = some e) (ht : x = e.1.1 ∨ x = e.1.2.2) (hb : ∀ i f, i < j → es[i]? = some f → x ≠ f.1.1 ∧ x ≠ f.1.2.2) :
    graphF (.tup [.tup ((NS.map D.str).take p ++ (NS.map D.str).drop (p + 1)), .tup (es.map enE)]) = some (((NS.length - 1 + j : Nat)) : Int) := by
  have hp := (List.getElem?_eq_some_iff.mp hx).1
  have hj := (List.getElem?_eq_some_iff.mp he).1
  have sp := split_at hx
  obtain ⟨M, hM⟩ : ∃ M, M = NS.take p ++ NS.drop (p + 1) := ⟨_, rfl⟩
  have e1 : (NS.map D.str).take p ++ (NS.map D.str).drop (p + 1) = M.map D.str := by rw [hM, List.map_append, List.map_take, List.map_drop]
  have subl : M.Sublist NS := by
    rw [hM]
    conv => rhs; rw [sp]
    exact List.Sublist.append (List.Sublist.refl _) (List.sublist_cons_self _ _)
  have nd : NS.Nodup := g.np.imp fun {a b} hab z => by
    subst z
    rw [show LtN a a = (sLe a a = false) from rfl, sLe_refl] at hab
    cases hab
  have nx : x ∉ M := fun hm => by
    rw [sp] at nd
    obtain ⟨_, n2, n3⟩ := List.nodup_append.mp nd
    rw [hM] at hm
    rcases List.mem_append.mp hm with h | h
    · exact n3 x h x List.mem_cons_self rfl
    · exact (List.nodup_cons.mp n2).1 h
  have keep : ∀ y ∈ NS, y ≠ x → y ∈ M := fun y hy hne => by
    rw [sp] at hy
    rw [hM]
    rcases List.mem_append.mp hy with h | h
    · exact List.mem_append.mpr (.inl h)
    · rcases List.mem_cons.mp h with h | h
      · exact absurd h hne
      · exact List.mem_append.mpr (.inr h)
  have rm : Rise none M := rise_of (fun y hy => g.nd hN y (subl.subset hy)) (g.np.sublist subl) fun _ _ => rfl
  have hl : M.length = NS.length - 1 := by rw [hM, List.length_append, List.length_take, List.length_drop]; omega
  have se := split_at he
  have rl : RL M none (es.take j) := rl_of (fun f hf => by
    obtain ⟨i, hi, hfi⟩ := List.mem_take_iff_getElem.mp hf
    have hg : es[i]? = some f := by rw [List.getElem?_eq_getElem (by omega), hfi]
    have hm := List.mem_of_getElem? hg
    obtain ⟨a, b, _, k⟩ := g.ends f hm
    obtain ⟨t1, t2⟩ := hb i f (by omega) hg
    exact ⟨g.nl hN hK f hm, keep _ a (Ne.symm t1), keep _ b (Ne.symm t2), k⟩) (g.ep.sublist (List.take_sublist ..)) fun _ _ => rfl
  have no : lineOk M (lastL none (es.take j)) (enE e) = false := by
    show (lineB (lnD e.1) && priceB (.int (e.2 : Int)) && (decide (e.1.1 ∈ M) && decide (e.1.2.2 ∈ M) && _)) = false
    rcases ht with rfl | rfl
    · rw [decide_eq_false nx]; simp
    · rw [decide_eq_false nx]; simp
  have em : es.map enE = (es.take j).map enE ++ enE e :: (es.drop (j + 1)).map enE := by
    conv => lhs; rw [se]
    rw [List.map_append]
    rfl
  rw [e1, graphF_l rm, em, linesF_no rl no (i := j) (by rw [List.length_take]; omega), hl]
  rfl
/-- a wrong line -/
theorem bad_l (g : GOk N K NS es) (hN : ∀ x ∈ N, nodeB (.str x) = true) (hK : ∀ x ∈ K, nodeB (.str x) = true) {j : Nat} (hj : j ≤ es.length) {d : D} {r : List D} (hd : lineOk NS (lastL none (es.take j)) d = false) :
    graphF (.tup [.tup (NS.map D.str), .tup ((es.map enE).take j ++ [d] ++ r)]) = some ((NS.length + j : Nat) : Int) := by
  have rl : RL NS none (es.take j) := rl_of (fun f hf => by
    have hm := List.mem_of_mem_take hf
    obtain ⟨a, b, _, k⟩ := g.ends f hm
    exact ⟨g.nl hN hK f hm, a, b, k⟩) (g.ep.sublist (List.take_sublist ..)) fun _ _ => rfl
  rw [graphF_l (g.rise hN), List.append_assoc, ← List.map_take]
  show (linesF NS none 0 ((es.take j).map enE ++ d :: r)).map _ = _
  rw [linesF_no rl hd (i := j) (by rw [List.length_take]; omega)]
  rfl
/-- an earlier line again -/
theorem again_no (g : GOk N K NS es) {i j : Nat} {e : L3 × Nat} (hi : i < j) (hj : j ≤ es.length) (he : es[i]? = some e) : lineOk NS (lastL none (es.take j)) (enE e) = false := by
  obtain ⟨m, rfl⟩ : ∃ m, j = m + 1 := ⟨j - 1, by omega⟩
  obtain ⟨f, hf⟩ : ∃ f, es[m]? = some f := ⟨_, List.getElem?_eq_getElem (by omega)⟩
  rw [take_snoc hf, lastL_snoc]
  have le : lexLeS (row e.1) (row f.1) = true := by
    by_cases z : i = m
    · subst z
      rw [he] at hf
      cases hf
      exact lexLeS_refl _
    · have hlt := List.pairwise_iff_getElem.mp g.ep i m (by omega) (by omega) (by omega)
      have e1 := (List.getElem?_eq_some_iff.mp he).2
      have e2 := (List.getElem?_eq_some_iff.mp hf).2
      rw [e1, e2] at hlt
      have h2 : lexLeS (row f.1) (row e.1) = false := hlt
      rcases lexLeS_tot (xs := row e.1) (ys := row f.1) rfl with h | h
      · exact h
      · rw [h2] at h; cases h
  show (_ && _ && (_ && _ && !lexLeS (row e.1) (row f.1))) = false
  rw [le]
  simp
end
end GR
end
section
set_option maxHeartbeats 4000000
namespace GR
open PySem PySem.Spec PyProof.Rows L2 DM SR
variable [HasPW] {A B C : AH} {ρ : DM.Env} {h q c : Nat}
/-! ### bent graphs -/
theorem new_at {ms : MA} {ds : List D} {A1 : AH} (e : ms ρ A = .ok ds A1) (hl : ds.length ≤ 1000) : mNew ms ρ A = .ok (.ref A1.length) (A1 ++ [.lst ds]) := by
  unfold mNew
  rw [e, bind_ok, if_pos hl]
theorem eq_tup0 {xs : List D} (p : Pls xs) (hk : deps xs ≤ 63) {neg : Bool} : fEq neg (.tup xs) (.tup []) A = .ok (.bl (if neg then !xs.isEmpty else xs.isEmpty)) A := by
  obtain ⟨qs, h2, h3, _, _, h4, _⟩ := p.shd
  have hz : SeqAt.shaped (.tuple []) = true := by decide +kernel
  have hs : SeqAt.shaped (.tuple qs) = true := by
    unfold SeqAt.shaped
    simp only [PyData.canLay0, PyData.depth, h3, Bool.true_and]
    exact decide_eq_true (by omega)
  have e0 : toPyA A (.tup xs) = some (.tuple qs) := toPyA_of (by simp only [toPy, h2, Option.map_some])
  rw [eq_pyS e0 (toPyA_of (q := .tuple []) rfl) rfl hs hz]
  have e1 : PyData.eqv (.tuple qs) (.tuple []) = xs.isEmpty := by
    simp only [PyData.eqv]
    rw [eqvAll_nil]
    cases xs with
    | nil => cases h2; rfl
    | cons x xs =>
      unfold toPys at h2
      split at h2
      · cases h2; rfl
      · cases h2
  rw [e1]
theorem of_ref {xs : List D} {n : Nat} (hs : HS h q A) (hx : A[n]? = some (.lst xs)) (n1 : n ≠ h) (n2 : n ≠ q) (h0 : 0 < xs.length) (h1 : xs.length ≤ 10000) : ∃ d ∈ xs, ∃ A', f__law_of [.ref h, .ref n] A = .ok d A' ∧ Gr h q A A' := by
  obtain ⟨_, A', e, g, v, rfl, hv⟩ := any_nat (h := h) (q := q) (k := xs.length) h0 (by omega) A hs
  refine ⟨xs[v], List.getElem_mem hv, A', ?_, g⟩
  unfold f__law_of
  have hx2 := g.keep hx n1 n2
  refine fun_rt (ret_at (op_at (var_at rfl) (callF_at (cons_at (var_at rfl) (cons_at (call_at (cons_at (var_at rfl) nil_at) (?_ : _ = Res.ok (D.int (xs.length : Int)) A)) nil_at)) rfl e) (ix_ref hx2 (SR.atI_nat (List.getElem?_eq_getElem hv)))))
  show (match seqOf A (.ref n) with | some xs => Res.ok (D.int xs.length) A | none => .no) = _
  rw [seqOf_ref hx]
theorem app2_at {mo me : ME} {n : Nat} {xs ys : List D} {d : D} (h1 : mo ρ A = .ok (.ref n) A) (h2 : A[n]? = some (.lst xs)) (h3 : me ρ A = .ok d B) (h4 : B[n]? = some (.lst ys)) (hl : ys.length < 16777216) : mDrop (mMet fApp mo (mCons me (mNil))) ρ A = .nx ρ (B.set n (.lst (ys ++ [d]))) := by
  refine drop_at (d := .non) ?_
  unfold mMet
  rw [h1, bind_ok]
  simp only [h2, cons_at h3 nil_at, bind_ok]
  unfold fApp
  simp only [h4, hl, if_true]
theorem Gr.set {n : Nat} {o : AO} (g : Gr h q A B) (hn : A.length ≤ n) (n1 : n ≠ h) (n2 : n ≠ q) : Gr h q A (B.set n o) := ⟨hs_set g.1 n1 n2, by rw [List.length_set]; exact g.2.1, fun m hm a b => by rw [List.getElem?_set_ne (by omega)]; exact g.2.2 m hm a b⟩
def BadG (d : D) : Prop := ∃ v i, d = .tup [v, .int i] ∧ graphF v = some i ∧ i.natAbs ≤ 1000 ∧ Pl v ∧ wgt v ≤ 1000000
def GV (i : Int) (v : D) : Prop := graphF v = some i ∧ Vl 6 500000 v
theorem badG_of {v : D} {i : Int} (g : GV i v) (hi : i.natAbs ≤ 1000) : BadG (.tup [v, .int i]) := ⟨v, i, rfl, g.1, hi, g.2.1, Nat.le_trans g.2.2.2 (by decide)⟩
theorem vl_e {e : L3 × Nat} (n : Nd e.1) (hk : e.2 ≤ 1000000) : Vl 2 500 (enE e) := (vl_tup (k := 1) (w := 200) (n := 2) (fun z hz => by
  rcases List.mem_cons.mp hz with rfl | hz
  · exact vl_ln n
  · rw [List.mem_singleton.mp hz]
    exact (vl_int (by omega)).mono (by decide) (by decide)) (by simp)).mono (by decide) (by decide)
theorem two_v {x y : D} (hx : Vl 5 100000 x) (hy : Vl 5 100000 y) : Vl 6 500000 (.tup [x, y]) := (vl_tup (n := 2) (fun z hz => by
  rcases List.mem_cons.mp hz with rfl | hz
  · exact hx
  · rw [List.mem_singleton.mp hz]; exact hy) (by simp)).mono (by decide) (by decide)
theorem ns_v {ys : List D} (hy : ∀ y ∈ ys, Vl 1 100 y) (hl : ys.length ≤ 70) : Vl 5 100000 (.tup ys) := (vl_tup (n := 70) hy hl).mono (by decide) (by decide)
theorem ls_v {ys : List D} (hy : ∀ y ∈ ys, Vl 4 2100 y) (hl : ys.length ≤ 40) : Vl 5 100000 (.tup ys) := (vl_tup (n := 40) hy hl).mono (by decide) (by decide)
theorem filter_first {t : Nat → Bool} {m j : Nat} {r : List Nat} (h : (List.range m).filter t = j :: r) : j < m ∧ t j = true ∧ ∀ i, i < j → t i = false := by
  obtain ⟨l1, l2, e, a, b, _⟩ := List.filter_eq_cons_iff.mp h
  have hl : l1.length < m := by
    have := congrArg List.length e
    rw [List.length_range, List.length_append, List.length_cons] at this
    omega
  have hj : l1.length = j := by
    have h1 : (List.range m)[l1.length]? = some j := by rw [e]; simp
    have h2 : (List.range m)[l1.length]? = some l1.length := List.getElem?_range hl
    rw [h2] at h1
    exact Option.some.inj h1
  refine ⟨by omega, b, fun i hi => ?_⟩
  have h1 : (List.range m)[i]? = some i := List.getElem?_range (by omega)
  rw [e, List.getElem?_append_left (by omega)] at h1
  cases z : t i with
  | false => rfl
  | true => exact absurd z (a i (List.mem_of_getElem? h1))
theorem bad_graph_ok {N K NS : List Str} {es : PL} {t : Str} (g : GOk N K NS es) (hN : ∀ x ∈ N, nodeB (.str x) = true) (hK : ∀ x ∈ K, nodeB (.str x) = true) (l1 : NS.length ≤ 60) (l2 : es.length ≤ 30) (ht : nodeB (.str t) = true) (hnt : t ∉ NS) :
    Df h q f__law_bad_graph [.ref h, .tup (NS.map D.str), .tup (es.map enE), .str t] BadG := by
  have vn : ∀ y ∈ NS.map D.str, Vl 1 100 y := fun y hy => by
    obtain ⟨x, hx, rfl⟩ := List.mem_map.mp hy
    exact (vl_node (g.nd hN x hx)).mono (by decide) (by decide)
  have ve : ∀ e ∈ es, Vl 2 500 (enE e) := fun e he => vl_e (g.nl hN hK e he) (g.ends e he).2.2.2
  have vl : ∀ y ∈ es.map enE, Vl 4 2100 y := fun y hy => by
    obtain ⟨x, hx, rfl⟩ := List.mem_map.mp hy
    exact (ve x hx).mono (by decide) (by decide)
  have vN : Vl 5 100000 (.tup (NS.map D.str)) := ns_v vn (by rw [List.length_map]; omega)
  have vL : Vl 5 100000 (.tup (es.map enE)) := ls_v vl (by rw [List.length_map]; omega)
  have pN : Pls (NS.map D.str) := Pls.of fun y hy => (vn y hy).1
  have dN : deps (NS.map D.str) ≤ 63 := deps_le fun y hy => Nat.le_trans (vn y hy).2.1 (by decide)
  have pL : Pls (es.map enE) := Pls.of fun y hy => (vl y hy).1
  have dL : deps (es.map enE) ≤ 63 := deps_le fun y hy => Nat.le_trans (vl y hy).2.1 (by decide)
  have non5 : Vl 5 100000 .non := vl_non.mono (by decide) (by decide)
  have oneN : Vl 5 100000 (.tup [.non]) := (vl_tup (k := 0) (w := 64) (n := 1) (fun z hz => (List.mem_singleton.mp hz) ▸ vl_non) (by simp)).mono (by decide) (by decide)
  unfold f__law_bad_graph
  refine df_of ?_ (by simp)
  refine ds_par2 (R := fun a b => ∃ k : Nat, a = .int (k : Int) ∧ k < 6 ∧ b = .int (NS.length : Int)) (da_cons (dr_any (k := 6) rfl (by decide) (by decide)) fun d hd => da_cons (P := fun e => e = .int (NS.length : Int)) (dr_ok (fun _ => call_at (cons_at (var_at rfl) nil_at) (by rw [tup_len, List.length_map])) rfl) fun e he => da_nil ?_) ?_
  · obtain ⟨k, rfl, hk⟩ := hd
    exact ⟨_, _, rfl, k, rfl, hk, he⟩
  rintro a b ⟨k, rfl, hk, rfl⟩
  refine ds_if (b := decide ((k : Int) = 0) || (NS.map D.str).isEmpty) (dt_ok fun A => or_at (tst_at (op_at (var_at rfl) rfl rfl)) fun _ => tst_at (op_at (var_at rfl) (tup_at nil_at (by simp)) (eq_tup0 pN dN))) (fun _ => ?_) fun hz => ?_
  · intro A hs
    have hl := hs_lt hs
    obtain ⟨R, hR⟩ : ∃ R : DM.Env, R = [some (.ref h), some (.tup (NS.map D.str)), some (.tup (es.map enE)), some (.str t), some (.int (k : Int)), some (.int (NS.length : Int)), none, none, none, none, none, none, none] := ⟨_, rfl⟩
    have w1 : ∀ B, mVar 1 R B = .ok (.tup (NS.map D.str)) B := fun B => var_at (by rw [hR]; rfl)
    have w2 : ∀ B, mVar 2 R B = .ok (.tup (es.map enE)) B := fun B => var_at (by rw [hR]; rfl)
    obtain ⟨L8, hL8⟩ : ∃ L8 : List D, L8 = [.non, .lst [.tup (NS.map D.str), .tup (es.map enE)], .tup [.tup (NS.map D.str)], .tup [.tup (NS.map D.str), .tup (es.map enE), .tup []], .tup [.lst (NS.map D.str), .tup (es.map enE)], .tup [.tup (NS.map D.str), .lst (es.map enE)], .str "", .int 0] := ⟨_, rfl⟩
    obtain ⟨L2, hL2⟩ : ∃ L2 : List D, L2 = [.tup [.tup (NS.map D.str), .non], .bl true] := ⟨_, rfl⟩
    have e8 := new_at (ρ := R) (A := A) (cons_at (me := mK .non) (d := .non) rfl (cons_at (lst_at (cons_at (w1 A) (cons_at (w2 A) nil_at)) (by simp)) (cons_at (tup_at (cons_at (w1 A) nil_at) (by simp)) (cons_at (tup_at (cons_at (w1 A) (cons_at (w2 A) (cons_at (tup_at nil_at (by simp)) nil_at))) (by simp)) (cons_at (tup_at (cons_at (call_at (g := fList) (r := .ok (.lst (NS.map D.str)) A) (cons_at (w1 A) nil_at) rfl) (cons_at (w2 A) nil_at)) (by simp)) (cons_at (tup_at (cons_at (w1 A) (cons_at (call_at (g := fList) (r := .ok (.lst (es.map enE)) A) (cons_at (w2 A) nil_at) rfl) nil_at)) (by simp)) (cons_at (me := mK (.str "")) (d := .str "") rfl (cons_at (me := mK (.int 0)) (d := .int 0) rfl nil_at)))))))) (by simp)
    rw [← hL8] at e8
    have s8 := set_at (i := 11) e8
    obtain ⟨A1, hA1⟩ : ∃ A1, A1 = A ++ [AO.lst L8] := ⟨_, rfl⟩
    rw [← hA1] at s8
    have g1 : Gr h q A A1 := by rw [hA1]; exact Gr.push hs _
    have at1 : A1[A.length]? = some (.lst L8) := by rw [hA1, List.getElem?_append_right (Nat.le_refl _), Nat.sub_self]; rfl
    obtain ⟨R1, hR1⟩ : ∃ R1 : DM.Env, R1 = R.set 11 (some (.ref A.length)) := ⟨_, rfl⟩
    rw [← hR1] at s8
    have u1 : mVar 1 R1 A1 = .ok (.tup (NS.map D.str)) A1 := var_at (by rw [hR1, hR]; rfl)
    have u11 : mVar 11 R1 A1 = .ok (.ref A.length) A1 := var_at (by rw [hR1, hR]; rfl)
    have u0 : mVar 0 R1 A1 = .ok (.ref h) A1 := var_at (by rw [hR1, hR]; rfl)
    have ad : mOp fAddR (mVar 11) (mLst (mCons (mTup (mCons (mVar 1) (mCons (mK .non) (mNil)))) (mCons (mK (.bl true)) (mNil)))) R1 A1 = .ok (.lst (L8 ++ L2)) A1 := by
      refine op_at u11 (lst_at (cons_at (tup_at (cons_at u1 (cons_at rfl nil_at)) (by simp)) (cons_at rfl nil_at)) (by simp)) ?_
      unfold fAddR
      rw [hL2]
      simp only [at1]
      rw [if_pos (by rw [hL8]; simp)]
    have two : ∀ {x y : D}, Vl 4 50000 x → Vl 4 50000 y → Vl 6 500000 (.tup [x, y]) := fun hx hy => two_v (hx.mono (by decide) (by decide)) (hy.mono (by decide) (by decide))
    have vN4 : Vl 4 50000 (.tup (NS.map D.str)) := (vl_tup (n := 70) vn (by rw [List.length_map]; omega)).mono (by decide) (by decide)
    have vNl4 : Vl 4 50000 (.lst (NS.map D.str)) := (vl_lst (n := 70) vn (by rw [List.length_map]; omega)).mono (by decide) (by decide)
    have vl3 : ∀ y ∈ es.map enE, Vl 2 500 y := fun y hy => by
      obtain ⟨x, hx, rfl⟩ := List.mem_map.mp hy
      exact ve x hx
    have vL4 : Vl 4 50000 (.tup (es.map enE)) := (vl_tup (n := 40) vl3 (by rw [List.length_map]; omega)).mono (by decide) (by decide)
    have vLl4 : Vl 4 50000 (.lst (es.map enE)) := (vl_lst (n := 40) vl3 (by rw [List.length_map]; omega)).mono (by decide) (by decide)
    have all : ∀ v ∈ L8 ++ L2, GV (-1) v := fun v hv => by
      rw [hL8, hL2] at hv
      simp only [List.cons_append, List.nil_append, List.mem_cons, List.not_mem_nil, or_false] at hv
      rcases hv with rfl | rfl | rfl | rfl | rfl | rfl | rfl | rfl | rfl | rfl
      · exact ⟨rfl, vl_non.mono (by decide) (by decide)⟩
      · exact ⟨rfl, (vl_lst (n := 2) (fun z hz => by
          rcases List.mem_cons.mp hz with rfl | hz
          · exact vN4
          · rw [List.mem_singleton.mp hz]; exact vL4) (by simp)).mono (by decide) (by decide)⟩
      · exact ⟨rfl, (vl_tup (n := 1) (fun z hz => (List.mem_singleton.mp hz) ▸ vN4) (by simp)).mono (by decide) (by decide)⟩
      · exact ⟨rfl, (vl_tup (n := 3) (fun z hz => by
          rcases List.mem_cons.mp hz with rfl | hz
          · exact vN4
          · rcases List.mem_cons.mp hz with rfl | hz
            · exact vL4
            · rw [List.mem_singleton.mp hz]; exact (vl_tup (k := 0) (w := 0) (n := 0) (xs := []) (fun _ h => nomatch h) (by simp)).mono (by decide) (by decide)) (by simp)).mono (by decide) (by decide)⟩
      · exact ⟨rfl, two vNl4 vL4⟩
      · exact ⟨rfl, two vN4 vLl4⟩
      · exact ⟨rfl, (vl_str (pl_lit (by decide +kernel) (by decide +kernel))).mono (by decide) (by decide)⟩
      · exact ⟨rfl, (vl_int (by decide)).mono (by decide) (by decide)⟩
      · exact ⟨rfl, two vN4 (vl_non.mono (by decide) (by decide))⟩
      · exact ⟨rfl, vl_bl.mono (by decide) (by decide)⟩
    obtain ⟨v, A2, e2, g2, gv⟩ := of_lst (h := h) (q := q) (xs := L8 ++ L2) (P := GV (-1)) (by rw [hL8]; simp) (by rw [hL8, hL2]; simp) all A1 g1.1
    refine ⟨_, A2, ?_, g1.trans g2, badG_of gv (by decide)⟩
    show mSeq _ _ [some (.ref h), some (.tup (NS.map D.str)), some (.tup (es.map enE)), some (.str t), some (.int (k : Int)), some (.int (NS.length : Int)), none, none, none, none, none, none, none] A = _
    rw [← hR]
    exact (seq_nx s8).trans (ret_at (tup_at (cons_at (callF_at (cons_at u0 (cons_at ad nil_at)) rfl e2) (cons_at rfl nil_at)) (by simp)))
  rw [Bool.or_eq_false_iff] at hz
  have n0 : 0 < NS.length := by
    cases hNS : NS with
    | nil => rw [hNS] at hz; cases hz.2
    | cons x xs => simp
  refine ds_set (dr_anyx (k := NS.length) rfl (fun _ => var_at rfl) n0 (by omega)) ?_
  rintro d ⟨p, rfl, hp⟩
  obtain ⟨x, hx⟩ : ∃ x, NS[p]? = some x := ⟨_, List.getElem?_eq_getElem hp⟩
  have hxm : (NS.map D.str)[p]? = some (.str x) := by rw [List.getElem?_map, hx]; rfl
  have hxn := List.mem_of_getElem? hx
  have xb := g.nd hN x hxn
  have ixp : ∀ B, fIx (.tup (NS.map D.str)) (.int (p : Int)) B = .ok (.str x) B := fun B => DM.ix_tup (SR.atI_nat hxm)
  refine ds_if (b := decide ((k : Int) = 1)) (dt_ok fun A => tst_at (op_at (var_at rfl) rfl rfl)) (fun _ => ?_) fun _ => ?_
  · refine ds_set (P := fun d => (nodeB d = false ∨ ∃ j y, p = j + 1 ∧ NS[j]? = some y ∧ d = .str y) ∧ Vl 1 100 d) (dr_of rfl (dr_lst (n := 1) (all_cons ?_ (all_cons ?_ all_nil)) (by decide))) ?_
    · exact (dr_call (P := BadN) (da_cons (P := fun e => e = .ref h) (dr_ok (fun _ => var_at rfl) rfl) fun e2 he2 => da_cons (P := fun e => e = .str x) (dr_ok (fun B => op_at (var_at rfl) (var_at rfl) (ixp B)) rfl) fun e3 he3 => da_nil ⟨rfl, by rw [he2, he3]; exact bad_ok xb⟩)).imp fun d hd => ⟨.inl hd.1, hd.2⟩
    · rcases p with _ | j
      · exact dr_ok (fun A => if_at (k := false) (tst_at (op_at (var_at rfl) rfl gt_ii)) rfl) ⟨.inl rfl, vl_non.mono (by decide) (by decide)⟩
      · obtain ⟨y, hy⟩ : ∃ y, NS[j]? = some y := ⟨_, List.getElem?_eq_getElem (by omega)⟩
        have hym : (NS.map D.str)[j]? = some (.str y) := by rw [List.getElem?_map, hy]; rfl
        refine dr_ok (fun A => if_at (k := true) (tst_at (op_at (var_at rfl) rfl (by rw [gt_ii, decide_eq_true (show (0 : Int) < ((j + 1 : Nat) : Int) by omega)]))) ?_) ⟨.inr ⟨j, y, rfl, hy, rfl⟩, (vl_node (g.nd hN y (List.mem_of_getElem? hy))).mono (by decide) (by decide)⟩
        refine op_at (var_at rfl) (op_at (var_at rfl) rfl sub_ii) ?_
        rw [show ((j + 1 : Nat) : Int) - 1 = (j : Int) by omega]
        exact DM.ix_tup (SR.atI_nat hym)
    · rintro d ⟨hd, vd⟩
      refine ds_ret (dr_tup (R := fun ds => ∃ v, ds = [v, .int (p : Int)] ∧ GV (p : Int) v) (da_cons (P := GV (p : Int)) ?_ fun v hv => da_cons (P := fun e => e = .int (p : Int)) (dr_ok (fun _ => var_at rfl) rfl) fun e he => da_nil ⟨v, by rw [he], hv⟩) ?_)
      · refine dr_tup (R := fun ds => ∃ ls, ds = [.tup ((NS.map D.str).take p ++ [d] ++ (NS.map D.str).drop (p + 1)), .tup ls] ∧ Vl 5 100000 (.tup ls)) (da_cons (P := fun e => e = .tup ((NS.map D.str).take p ++ [d] ++ (NS.map D.str).drop (p + 1))) (dr_ok (fun A => op_at (op_at (slt_pre (var_at rfl) (var_at rfl)) (tup_at (cons_at (var_at rfl) nil_at) (by simp)) (add_tt ?_)) (slt_suf (k := p + 1) (var_at rfl) (op_at (var_at rfl) rfl (by rw [add_ii]; congr 2))) (add_tt ?_)) rfl) fun e he => da_cons (P := fun e => ∃ ls, e = .tup ls ∧ Vl 5 100000 (.tup ls)) (dr_of rfl (dr_lst (n := 1) (all_cons (dr_ok (fun _ => var_at rfl) ⟨_, rfl, vL⟩) (all_cons (dr_ok (fun _ => tup_at (cons_at rfl nil_at) (by simp)) ⟨_, rfl, oneN⟩) all_nil)) (by decide))) fun e2 he2 => da_nil ?_) ?_
        · rw [List.length_take, List.length_map]; simp only [List.length_cons, List.length_nil]; omega
        · rw [List.length_append, List.length_take, List.length_drop, List.length_map]; simp only [List.length_cons, List.length_nil]; omega
        · obtain ⟨ls, rfl, hls⟩ := he2
          exact ⟨ls, by rw [he], hls⟩
        · rintro ds ⟨ls, rfl, hls⟩
          refine ⟨by simp, bad_n1 g hN hp hd, two_v (ns_v (fun y hy => ?_) ?_) hls⟩
          · rcases List.mem_append.mp hy with hy | hy
            · rcases List.mem_append.mp hy with hy | hy
              · exact vn y (List.mem_of_mem_take hy)
              · rw [List.mem_singleton.mp hy]; exact vd
            · exact vn y (List.mem_of_mem_drop hy)
          · rw [List.length_append, List.length_append, List.length_take, List.length_drop, List.length_map]; simp only [List.length_cons, List.length_nil]; omega
      · rintro ds ⟨v, rfl, gv⟩
        exact ⟨by simp, badG_of gv (by omega)⟩
  refine ds_if (b := decide ((k : Int) = 2) && decide ((0 : Int) < (p : Int))) (dt_ok fun A => and_at (tst_at (op_at (var_at rfl) rfl rfl)) (fun _ => tst_at (op_at (var_at rfl) rfl gt_ii)) fun _ => rfl) (fun hb => ?_) fun _ => ?_
  · rw [Bool.and_eq_true] at hb
    have hp0 := of_decide_eq_true hb.2
    obtain ⟨j, rfl⟩ : ∃ j, p = j + 1 := ⟨p - 1, by omega⟩
    obtain ⟨y, hy⟩ : ∃ y, NS[j]? = some y := ⟨_, List.getElem?_eq_getElem (by omega)⟩
    have hym : (NS.map D.str)[j]? = some (.str y) := by rw [List.getElem?_map, hy]; rfl
    have sb : ∀ B, fSub (.int ((j + 1 : Nat) : Int)) (.int 1) B = .ok (.int (j : Int)) B := fun B => by rw [sub_ii]; congr 2; omega
    refine ds_ret (dr_ok (d := .tup [.tup [.tup ((NS.map D.str).take j ++ [.str x, .str y] ++ (NS.map D.str).drop (j + 1 + 1)), .tup (es.map enE)], .int ((j + 1 : Nat) : Int)]) (fun A => ?_) (badG_of (i := ((j + 1 : Nat) : Int)) ⟨bad_n2 g hN hy hx, two_v (ns_v (fun z hz => ?_) ?_) vL⟩ (by omega)))
    · refine tup_at (cons_at (tup_at (cons_at (op_at (op_at (slt_pre (var_at rfl) (op_at (var_at rfl) rfl (sb A))) (tup_at (cons_at (op_at (var_at rfl) (var_at rfl) (ixp A)) (cons_at (op_at (var_at rfl) (op_at (var_at rfl) rfl (sb A)) (DM.ix_tup (SR.atI_nat hym))) nil_at)) (by simp)) (add_tt ?_)) (slt_suf (k := j + 1 + 1) (var_at rfl) (op_at (var_at rfl) rfl (by rw [add_ii]; congr 2))) (add_tt ?_)) (cons_at (var_at rfl) nil_at)) (by simp)) (cons_at (var_at rfl) nil_at)) (by simp)
      · rw [List.length_take, List.length_map]; simp only [List.length_cons, List.length_nil]; omega
      · rw [List.length_append, List.length_take, List.length_drop, List.length_map]; simp only [List.length_cons, List.length_nil]; omega
    · rcases List.mem_append.mp hz with hz | hz
      · rcases List.mem_append.mp hz with hz | hz
        · exact vn z (List.mem_of_mem_take hz)
        · rcases List.mem_cons.mp hz with rfl | hz
          · exact (vl_node xb).mono (by decide) (by decide)
          · rw [List.mem_singleton.mp hz]
            exact (vl_node (g.nd hN y (List.mem_of_getElem? hy))).mono (by decide) (by decide)
      · exact vn z (List.mem_of_mem_drop hz)
    · rw [List.length_append, List.length_append, List.length_take, List.length_drop, List.length_map]; simp only [List.length_cons, List.length_nil]; omega
  obtain ⟨tch, htch⟩ : ∃ tch : Nat → Bool, tch = fun i => match es[i]? with | some e => decide (x ∈ [e.1.1, e.1.2.2]) | none => false := ⟨_, rfl⟩
  obtain ⟨T, hT⟩ : ∃ T : List Nat, T = (List.range es.length).filter tch := ⟨_, rfl⟩
  refine ds_set (P := fun d => d = .lst ((T.map fun i : Nat => (i : Int)).map D.int)) ?_ ?_
  · intro A hs
    refine ⟨_, A, ?_, .refl hs, rfl⟩
    obtain ⟨R, hR⟩ : ∃ R : DM.Env, R = [some (.ref h), some (.tup (NS.map D.str)), some (.tup (es.map enE)), some (.str t), some (.int (k : Int)), some (.int (NS.length : Int)), some (.int (p : Int)), none, none, none, none, none, none] := ⟨_, rfl⟩
    have hit : itemsOf A (.rng 0 (es.length : Int)) = some ((List.range es.length).map fun j : Nat => D.int (j : Int)) := by
      rw [rng_items A]
      rw [← rng_up es.length 0]
      congr 1
      refine List.map_congr_left fun j _ => ?_
      congr 1
      omega
    have cp := comp_pure (A := A) (iv := .rng 0 (es.length : Int)) (all := (List.range es.length).map fun j : Nat => D.int (j : Int)) (t := .nm 8) (tt := mTst (mOp (fInD false) (mOp fIx (mVar 1) (mVar 6)) (mTup (mCons (mOp fIx (mOp fIx (mOp fIx (mVar 2) (mVar 8)) (mK (.int 0))) (mK (.int 0))) (mCons (mOp fIx (mOp fIx (mOp fIx (mVar 2) (mVar 8)) (mK (.int 0))) (mK (.int 2))) (mNil)))))) (me := mVar 8) (ρ := R)
      (p := fun d => match d with | .int i => tch i.toNat | _ => false) (f := fun d => d) hit ((List.range es.length).map fun j : Nat => D.int (j : Int)) [] (fun y hy => by
        obtain ⟨i, hi, rfl⟩ := List.mem_map.mp hy
        have hi := List.mem_range.mp hi
        obtain ⟨e, he⟩ : ∃ e, es[i]? = some e := ⟨_, List.getElem?_eq_getElem hi⟩
        have hem : (es.map enE)[i]? = some (enE e) := by rw [List.getElem?_map, he]; rfl
        have hm := List.mem_of_getElem? he
        refine ⟨R.set 8 (some (.int (i : Int))), rfl, ?_, fun _ => var_at (by rw [hR]; rfl)⟩
        have x1 : mOp fIx (mVar 1) (mVar 6) (R.set 8 (some (.int (i : Int)))) A = .ok (.str x) A := op_at (var_at (by rw [hR]; rfl)) (var_at (by rw [hR]; rfl)) (ixp A)
        have x2 : mOp fIx (mOp fIx (mVar 2) (mVar 8)) (mK (.int 0)) (R.set 8 (some (.int (i : Int)))) A = .ok (lnD e.1) A := op_at (op_at (var_at (by rw [hR]; rfl)) (var_at (by rw [hR]; rfl)) (DM.ix_tup (SR.atI_nat hem))) rfl rfl
        have pe := g.nl hN hK e hm
        have z := in_strs (A := A) (a := x) (ns := [e.1.1, e.1.2.2]) (neg := false) (pl_node xb) (fun y hy => by
          rcases List.mem_cons.mp hy with rfl | hy
          · exact pl_node pe.1
          · rw [List.mem_singleton.mp hy]; exact pl_node pe.2.2)
        have et : tch i = decide (x ∈ [e.1.1, e.1.2.2]) := by rw [htch]; simp only [he]
        refine tst_at (op_at x1 (tup_at (cons_at (op_at x2 rfl rfl) (cons_at (op_at x2 rfl rfl) nil_at)) (by simp)) ?_)
        show fInD false (.str x) (.tup ([e.1.1, e.1.2.2].map D.str)) A = .ok (.bl (tch ((i : Int)).toNat)) A
        rw [z, Int.toNat_natCast, et]
        rfl)
    have ef : (((List.range es.length).map fun j : Nat => D.int (j : Int)).filter fun d => match d with | .int i => tch i.toNat | _ => false).map (fun d => d) = (T.map fun i : Nat => (i : Int)).map D.int := by
      rw [List.map_id', List.filter_map, hT, List.map_map]
      rfl
    rw [List.nil_append, ef] at cp
    show mLc _ _ _ _ _ _ [some (.ref h), some (.tup (NS.map D.str)), some (.tup (es.map enE)), some (.str t), some (.int (k : Int)), some (.int (NS.length : Int)), some (.int (p : Int)), none, none, none, none, none, none] A = _
    rw [← hR]
    exact lc_at (ρ1 := R) (r1_at (j := (es.length : Int)) (cons_at (call_at (cons_at (var_at (by rw [hR]; rfl)) nil_at) (by rw [tup_len, List.length_map])) nil_at) (by omega)) hit (by simp; omega) (by rw [hR]; rfl) cp
  rintro d rfl
  refine ds_if (b := decide ((k : Int) = 3) && !(T.map fun i : Nat => (i : Int)).isEmpty) (dt_ok fun A => and_at (tst_at (op_at (var_at rfl) rfl rfl)) (fun _ => tst_at (op_at (var_at rfl) (lst_at nil_at (by simp)) eqD_ints)) fun _ => rfl) (fun hb => ?_) fun _ => ?_
  · rw [Bool.and_eq_true] at hb
    obtain ⟨j, r, hj⟩ : ∃ j r, T = j :: r := by
      cases hTT : T with
      | nil => rw [hTT] at hb; cases hb.2
      | cons j r => exact ⟨j, r, rfl⟩
    rw [hT] at hj
    obtain ⟨f1, f2, f3⟩ := filter_first hj
    obtain ⟨e, he⟩ : ∃ e, es[j]? = some e := ⟨_, List.getElem?_eq_getElem f1⟩
    rw [htch] at f2
    simp only [he] at f2
    have ht2 : x = e.1.1 ∨ x = e.1.2.2 := by
      have := of_decide_eq_true f2
      simpa using this
    have hb2 : ∀ i f, i < j → es[i]? = some f → x ≠ f.1.1 ∧ x ≠ f.1.2.2 := fun i f hi hf => by
      have := f3 i hi
      rw [htch] at this
      simp only [hf] at this
      have := of_decide_eq_false this
      simpa using this
    have hTj : (T.map fun i : Nat => (i : Int)).map D.int = .int (j : Int) :: ((r.map fun i : Nat => (i : Int)).map D.int) := by rw [hT, hj]; rfl
    refine ds_ret (dr_ok (d := .tup [.tup [.tup ((NS.map D.str).take p ++ (NS.map D.str).drop (p + 1)), .tup (es.map enE)], .int ((NS.length - 1 + j : Nat) : Int)]) (fun A => ?_) (badG_of (i := ((NS.length - 1 + j : Nat) : Int)) ⟨bad_n3 g hN hK hx he ht2 hb2, two_v (ns_v (fun z hz => ?_) ?_) vL⟩ (by omega)))
    · refine tup_at (cons_at (tup_at (cons_at (op_at (slt_pre (var_at rfl) (var_at rfl)) (slt_suf (k := p + 1) (var_at rfl) (op_at (var_at rfl) rfl (by rw [add_ii]; congr 2))) (add_tt ?_)) (cons_at (var_at rfl) nil_at)) (by simp)) (cons_at (op_at (op_at (var_at rfl) rfl sub_ii) (op_at (var_at rfl) rfl (?_ : _ = Res.ok (D.int (j : Int)) A)) ?_) nil_at)) (by simp)
      · rw [List.length_take, List.length_drop, List.length_map]; omega
      · rw [hTj]; exact DM.ix_lst (SR.atI_nat (j := 0) rfl)
      · rw [add_ii]; congr 2; omega
    · rcases List.mem_append.mp hz with hz | hz
      · exact vn z (List.mem_of_mem_take hz)
      · exact vn z (List.mem_of_mem_drop hz)
    · rw [List.length_append, List.length_take, List.length_drop, List.length_map]; omega
  refine ds_if (b := (es.map enE).isEmpty) (dt_ok fun A => tst_at (op_at (var_at rfl) (tup_at nil_at (by simp)) (eq_tup0 pL dL))) (fun hb => ?_) fun hb => ?_
  · have e0 : es = [] := by
      cases hes : es with
      | nil => rfl
      | cons e r => rw [hes] at hb; cases hb
    refine ds_ret (dr_tup (R := fun ds => ∃ v, ds = [v, .int (NS.length : Int)] ∧ GV (NS.length : Int) v) (da_cons (P := GV (NS.length : Int)) ?_ fun v hv => da_cons (P := fun e => e = .int (NS.length : Int)) (dr_ok (fun _ => var_at rfl) rfl) fun e he => da_nil ⟨v, by rw [he], hv⟩) ?_)
    · refine dr_tup (R := fun ds => ∃ d, ds = [.tup (NS.map D.str), .tup [d]] ∧ lineOk NS none d = false ∧ Vl 4 2100 d) (da_cons (P := fun e => e = .tup (NS.map D.str)) (dr_ok (fun A => var_at rfl) rfl) fun e he => da_cons (P := fun e => ∃ d, e = .tup [d] ∧ lineOk NS none d = false ∧ Vl 4 2100 d) (dr_tup (R := fun ds => ∃ d, ds = [d] ∧ lineOk NS none d = false ∧ Vl 4 2100 d) (da_cons (P := fun d => lineOk NS none d = false ∧ Vl 4 2100 d) (dr_of rfl (dr_lst (n := 3) (all_cons (dr_ok (fun _ => rfl) ⟨rfl, vl_non.mono (by decide) (by decide)⟩) (all_cons (dr_ok (fun _ => tup_at nil_at (by simp)) ⟨rfl, (vl_tup (k := 0) (w := 0) (n := 0) (xs := []) (fun _ h => nomatch h) (by simp)).mono (by decide) (by decide)⟩) (all_cons (dr_ok (fun _ => rfl) ⟨rfl, (vl_int (by decide)).mono (by decide) (by decide)⟩) (all_cons (dr_ok (fun _ => rfl) ⟨rfl, (vl_str (pl_lit (by decide +kernel) (by decide +kernel))).mono (by decide) (by decide)⟩) all_nil)))) (by decide))) fun d hd => da_nil ⟨d, rfl, hd⟩) fun ds hds => ?_) fun e2 he2 => da_nil ?_) ?_
      · obtain ⟨d, rfl, hd⟩ := hds
        exact ⟨by simp, d, rfl, hd⟩
      · obtain ⟨d, rfl, hd⟩ := he2
        exact ⟨d, by rw [he], hd⟩
      · rintro ds ⟨d, rfl, hd, vd⟩
        refine ⟨by simp, ?_, two_v vN (ls_v (fun z hz => (List.mem_singleton.mp hz) ▸ vd) (by simp))⟩
        have := bad_l g hN hK (j := 0) (d := d) (r := []) (Nat.zero_le _) (by rw [List.take_zero]; exact hd)
        rw [List.take_zero] at this
        exact this
    · rintro ds ⟨v, rfl, gv⟩
      exact ⟨by simp, badG_of gv (by omega)⟩
  have m0 : 0 < es.length := by
    cases hes : es with
    | nil => rw [hes] at hb; cases hb
    | cons e r => simp
  refine ds_set (dr_anyx (k := es.length) rfl (fun _ => call_at (cons_at (var_at rfl) nil_at) (by rw [tup_len, List.length_map])) m0 (by omega)) ?_
  rintro d ⟨j, rfl, hj⟩
  obtain ⟨e, he⟩ : ∃ e, es[j]? = some e := ⟨_, List.getElem?_eq_getElem hj⟩
  have hem : (es.map enE)[j]? = some (enE e) := by rw [List.getElem?_map, he]; rfl
  have hm := List.mem_of_getElem? he
  have ne := g.nl hN hK e hm
  obtain ⟨g1, g2, g3, g4⟩ := g.ends e hm
  have vE : Vl 1 200 (lnD e.1) := vl_ln ne
  have vP : Vl 1 200 (.int (e.2 : Int)) := (vl_int (by omega)).mono (by decide) (by decide)
  refine ds_asg2 (P := fun d => d = enE e) (dr_ok (d := enE e) (fun A => op_at (var_at rfl) (var_at rfl) (DM.ix_tup (SR.atI_nat hem))) ⟨_, _, rfl, rfl⟩) ?_
  rintro a b eab
  injection eab with eab
  injection eab with ea eb
  injection eb with eb _
  subst ea
  subst eb
  intro A hs
  have hl := hs_lt hs
  obtain ⟨R, hR⟩ : ∃ R : DM.Env, R = [some (.ref h), some (.tup (NS.map D.str)), some (.tup (es.map enE)), some (.str t), some (.int (k : Int)), some (.int (NS.length : Int)), some (.int (p : Int)), some (.lst ((T.map fun i : Nat => (i : Int)).map D.int)), some (.int (j : Int)), some (lnD e.1), some (.int (e.2 : Int)), none, none] := ⟨_, rfl⟩
  obtain ⟨Bd, hBd⟩ : ∃ Bd : D → Prop, Bd = fun d => lineOk NS (lastL none (es.take j)) d = false ∧ Vl 4 2100 d := ⟨_, rfl⟩
  have pair : ∀ {y : D}, Vl 1 200 y → Vl 4 2100 (.tup [lnD e.1, y]) := fun hy => (vl_tup (n := 2) (fun z hz => by
    rcases List.mem_cons.mp hz with rfl | hz
    · exact vE
    · rw [List.mem_singleton.mp hz]; exact hy) (by simp)).mono (by decide) (by decide)
  have pr0 : ∀ {y : D}, priceB y = false → lineOk NS (lastL none (es.take j)) (.tup [lnD e.1, y]) = false := fun {y} hy => by
    show (_ && priceB y && _) = false
    rw [hy]; simp
  have lt0 : ∀ {y : D}, Vl 0 64 y → Vl 1 200 y := fun v => v.mono (by decide) (by decide)
  have bl0 : ∀ {y : D} {z : D}, lineB y = false → lineOk NS (lastL none (es.take j)) (.tup [y, z]) = false := fun {y z} hy => by
    show (lineB y && _ && _) = false
    rw [hy]; rfl
  -- the first eight
  obtain ⟨L8, hL8⟩ : ∃ L8 : List D, L8 = [.non, .lst [lnD e.1, .int (e.2 : Int)], .tup [lnD e.1], .tup [lnD e.1, .int (e.2 : Int), .int 0], .tup [lnD e.1, .int (-1)], .tup [lnD e.1, .int 1000001], .tup [lnD e.1, .bl true], .tup [lnD e.1, .non]] := ⟨_, rfl⟩
  have w9 : ∀ B, mVar 9 R B = .ok (lnD e.1) B := fun B => var_at (by rw [hR]; rfl)
  have w10 : ∀ B, mVar 10 R B = .ok (.int (e.2 : Int)) B := fun B => var_at (by rw [hR]; rfl)
  have pw1 : mOp fAdd (mOp fPow (mK (.int 10)) (mK (.int 6))) (mK (.int 1)) R A = .ok (.int 1000001) A := op_at (pow6 A) rfl add_ii
  have e8 := new_at (ρ := R) (A := A) (cons_at (me := mK .non) (d := .non) rfl (cons_at (lst_at (cons_at (w9 A) (cons_at (w10 A) nil_at)) (by simp)) (cons_at (tup_at (cons_at (w9 A) nil_at) (by simp)) (cons_at (tup_at (cons_at (w9 A) (cons_at (w10 A) (cons_at (me := mK (.int 0)) (d := .int 0) rfl nil_at))) (by simp)) (cons_at (tup_at (cons_at (w9 A) (cons_at (me := mOp fSub (mK (.int 0)) (mK (.int 1))) (d := .int (-1)) rfl nil_at)) (by simp)) (cons_at (tup_at (cons_at (w9 A) (cons_at pw1 nil_at)) (by simp)) (cons_at (tup_at (cons_at (w9 A) (cons_at (me := mK (.bl true)) (d := .bl true) rfl nil_at)) (by simp)) (cons_at (tup_at (cons_at (w9 A) (cons_at (me := mK .non) (d := .non) rfl nil_at)) (by simp)) nil_at)))))))) (by simp)
  rw [← hL8] at e8
  have s8 := set_at (i := 11) e8
  obtain ⟨A1, hA1⟩ : ∃ A1, A1 = A ++ [AO.lst L8] := ⟨_, rfl⟩
  rw [← hA1] at s8
  have r1 : Gr h q A A1 := by rw [hA1]; exact Gr.push hs _
  have at1 : A1[A.length]? = some (.lst L8) := by rw [hA1, List.getElem?_append_right (Nat.le_refl _), Nat.sub_self]; rfl
  have len1 : A1.length = A.length + 1 := by rw [hA1]; simp
  obtain ⟨R1, hR1⟩ : ∃ R1 : DM.Env, R1 = R.set 11 (some (.ref A.length)) := ⟨_, rfl⟩
  rw [← hR1] at s8
  -- three more
  obtain ⟨_, A2, e2, r2, bv, bi, rfl, hbv, _, _, vbv⟩ := bad_line_ok (h := h) (q := q) ne A1 r1.1
  obtain ⟨L3', hL3⟩ : ∃ L3' : List D, L3' = [.tup [lnD e.1, .str "1"], .tup [bv, .int (e.2 : Int)], .tup [.tup [.str e.1.1, .str e.1.2.1, .str t], .int (e.2 : Int)]] := ⟨_, rfl⟩
  have u9 : ∀ B, mVar 9 R1 B = .ok (lnD e.1) B := fun B => var_at (by rw [hR1, hR]; rfl)
  have u10 : ∀ B, mVar 10 R1 B = .ok (.int (e.2 : Int)) B := fun B => var_at (by rw [hR1, hR]; rfl)
  have u3 : ∀ B, mVar 3 R1 B = .ok (.str t) B := fun B => var_at (by rw [hR1, hR]; rfl)
  have u0 : ∀ B, mVar 0 R1 B = .ok (.ref h) B := fun B => var_at (by rw [hR1, hR]; rfl)
  have u11 : ∀ B, mVar 11 R1 B = .ok (.ref A.length) B := fun B => var_at (by rw [hR1, hR]; rfl)
  have at2 : A2[A.length]? = some (.lst L8) := r2.keep at1 (by omega) (by omega)
  have e3 := lst_at (ρ := R1) (A := A1) (cons_at (tup_at (cons_at (u9 A1) (cons_at (me := mK (.str "1")) (d := .str "1") rfl nil_at)) (by simp)) (cons_at (tup_at (cons_at (op_at (f := fIx) (y := .int 0) (mb := mK (.int 0)) (r := .ok bv A2) (callF_at (n := 2) (g := f__law_bad_line) (cons_at (u0 A1) (cons_at (u9 A1) nil_at)) rfl e2) rfl rfl) (cons_at (u10 A2) nil_at)) (by simp)) (cons_at (tup_at (cons_at (tup_at (cons_at (op_at (f := fIx) (mb := mK (.int 0)) (y := .int 0) (r := .ok (.str e.1.1) A2) (u9 A2) rfl rfl) (cons_at (op_at (f := fIx) (mb := mK (.int 1)) (y := .int 1) (r := .ok (.str e.1.2.1) A2) (u9 A2) rfl rfl) (cons_at (u3 A2) nil_at))) (by simp)) (cons_at (u10 A2) nil_at)) (by simp)) nil_at))) (by simp)
  rw [← hL3] at e3
  obtain ⟨A3, hA3⟩ : ∃ A3, A3 = A2 ++ [AO.lst (L8 ++ L3')] := ⟨_, rfl⟩
  have ad3 : fAddN (.ref A.length) (.lst L3') A2 = .ok (.ref A2.length) A3 := by
    unfold fAddN
    rw [seqOf_ref at2]
    show (if _ then _ else _) = _
    rw [if_neg (by simp [isTup])]
    show (if L8.length + L3'.length ≤ 16777216 then _ else _) = _
    rw [if_pos (by rw [hL8, hL3]; simp), hA3]
  have s11 := set_at (i := 11) (op_at (ρ := R1) (ma := mVar 11) (u11 A1) e3 ad3)
  have r3 : Gr h q A A3 := by rw [hA3]; exact (r1.trans r2).trans (Gr.push r2.1 _)
  have at3' : A3[A2.length]? = some (.lst (L8 ++ L3')) := by rw [hA3, List.getElem?_append_right (Nat.le_refl _), Nat.sub_self]; rfl
  have lenA2 : A.length < A2.length := by have := r2.2.1; omega
  obtain ⟨R2, hR2⟩ : ∃ R2 : DM.Env, R2 = R1.set 11 (some (.ref A2.length)) := ⟨_, rfl⟩
  rw [← hR2] at s11
  have z9 : ∀ B, mVar 9 R2 B = .ok (lnD e.1) B := fun B => var_at (by rw [hR2, hR1, hR]; rfl)
  have z10 : ∀ B, mVar 10 R2 B = .ok (.int (e.2 : Int)) B := fun B => var_at (by rw [hR2, hR1, hR]; rfl)
  have z3 : ∀ B, mVar 3 R2 B = .ok (.str t) B := fun B => var_at (by rw [hR2, hR1, hR]; rfl)
  have z0 : ∀ B, mVar 0 R2 B = .ok (.ref h) B := fun B => var_at (by rw [hR2, hR1, hR]; rfl)
  have z2 : ∀ B, mVar 2 R2 B = .ok (.tup (es.map enE)) B := fun B => var_at (by rw [hR2, hR1, hR]; rfl)
  have z8 : ∀ B, mVar 8 R2 B = .ok (.int (j : Int)) B := fun B => var_at (by rw [hR2, hR1, hR]; rfl)
  have z11 : ∀ B, mVar 11 R2 B = .ok (.ref A2.length) B := fun B => var_at (by rw [hR2, hR1, hR]; rfl)
  -- one more
  obtain ⟨x4, hx4⟩ : ∃ x4 : D, x4 = .tup [.tup [.str t, .str e.1.2.1, .str e.1.2.2], .int (e.2 : Int)] := ⟨_, rfl⟩
  have lenL : (L8 ++ L3').length = 11 := by rw [hL8, hL3]; rfl
  have s4 := app_at (ρ := R2) (A := A3) (mo := mVar 11) (z11 A3) at3' (tup_at (cons_at (tup_at (cons_at (z3 A3) (cons_at (op_at (f := fIx) (mb := mK (.int 1)) (y := .int 1) (r := .ok (.str e.1.2.1) A3) (z9 A3) rfl rfl) (cons_at (op_at (f := fIx) (mb := mK (.int 2)) (y := .int 2) (r := .ok (.str e.1.2.2) A3) (z9 A3) rfl rfl) nil_at))) (by simp)) (cons_at (z10 A3) nil_at)) (by simp)) (by omega)
  rw [← hx4] at s4
  obtain ⟨A4, hA4⟩ : ∃ A4, A4 = A3.set A2.length (.lst (L8 ++ L3' ++ [x4])) := ⟨_, rfl⟩
  rw [← hA4] at s4
  have r4 : Gr h q A A4 := by rw [hA4]; exact r3.set (by omega) (by omega) (by omega)
  have at4 : A4[A2.length]? = some (.lst (L8 ++ L3' ++ [x4])) := by rw [hA4]; exact List.getElem?_set_self (List.getElem?_eq_some_iff.mp at3').1
  -- the last
  have last : ∃ x5 A5, mIf (mTst (mOp fGt (mVar 8) (mK (.int 0)))) (mOp fIx (mVar 2) (mCallF 2 f__law_any (mCons (mVar 0) (mCons (mVar 8) (mNil))))) (mTup (mNil)) R2 A4 = .ok x5 A5 ∧ Gr h q A4 A5 ∧ Bd x5 := by
    rw [hBd]
    rcases j with _ | m
    · exact ⟨.tup [], A4, if_at (k := false) (tst_at (op_at (z8 A4) rfl gt_ii)) (tup_at nil_at (by simp)), .refl r4.1, rfl, (vl_tup (k := 0) (w := 0) (n := 0) (xs := []) (fun _ h => nomatch h) (by simp)).mono (by decide) (by decide)⟩
    · obtain ⟨_, A5, e5, r5, i, rfl, hi⟩ := any_nat (h := h) (q := q) (k := m + 1) (by omega) (by omega) A4 r4.1
      obtain ⟨f, hf⟩ : ∃ f, es[i]? = some f := ⟨_, List.getElem?_eq_getElem (by omega)⟩
      have hfm : (es.map enE)[i]? = some (enE f) := by rw [List.getElem?_map, hf]; rfl
      refine ⟨enE f, A5, if_at (k := true) (tst_at (op_at (z8 A4) rfl (by rw [gt_ii, decide_eq_true (show (0 : Int) < ((m + 1 : Nat) : Int) by omega)]))) (op_at (z2 A4) (callF_at (cons_at (z0 A4) (cons_at (z8 A4) nil_at)) rfl e5) (DM.ix_tup (SR.atI_nat hfm))), r5, again_no g hi (by omega) hf, (ve f (List.mem_of_getElem? hf)).mono (by decide) (by decide)⟩
  obtain ⟨x5, A5, e5, r5, b5⟩ := last
  have at5 : A5[A2.length]? = some (.lst (L8 ++ L3' ++ [x4])) := r5.keep at4 (by omega) (by omega)
  have s5 := app2_at (ρ := R2) (A := A4) (mo := mVar 11) (z11 A4) at4 e5 at5 (by rw [List.length_append, lenL]; simp)
  obtain ⟨A6, hA6⟩ : ∃ A6, A6 = A5.set A2.length (.lst (L8 ++ L3' ++ [x4] ++ [x5])) := ⟨_, rfl⟩
  rw [← hA6] at s5
  have r6 : Gr h q A A6 := by rw [hA6]; exact (r4.trans r5).set (by omega) (by omega) (by omega)
  have at6 : A6[A2.length]? = some (.lst (L8 ++ L3' ++ [x4] ++ [x5])) := by rw [hA6]; exact List.getElem?_set_self (List.getElem?_eq_some_iff.mp at5).1
  have all : ∀ v ∈ L8 ++ L3' ++ [x4] ++ [x5], Bd v := fun v hv => by
    have b5' := b5
    rw [hL8, hL3, hx4] at hv
    simp only [List.cons_append, List.nil_append, List.mem_cons, List.not_mem_nil, or_false] at hv
    rw [hBd]
    rcases hv with rfl | rfl | rfl | rfl | rfl | rfl | rfl | rfl | rfl | rfl | rfl | rfl | rfl
    · exact ⟨rfl, vl_non.mono (by decide) (by decide)⟩
    · exact ⟨rfl, (vl_lst (k := 1) (w := 200) (n := 2) (fun z hz => by
        rcases List.mem_cons.mp hz with rfl | hz
        · exact vE
        · rw [List.mem_singleton.mp hz]; exact vP) (by simp)).mono (by decide) (by decide)⟩
    · exact ⟨rfl, (vl_tup (n := 1) (fun z hz => (List.mem_singleton.mp hz) ▸ vE) (by simp)).mono (by decide) (by decide)⟩
    · exact ⟨rfl, (vl_tup (k := 1) (w := 200) (n := 3) (fun z hz => by
        rcases List.mem_cons.mp hz with rfl | hz
        · exact vE
        · rcases List.mem_cons.mp hz with rfl | hz
          · exact vP
          · rw [List.mem_singleton.mp hz]; exact lt0 (vl_int (by decide))) (by simp)).mono (by decide) (by decide)⟩
    · exact ⟨pr0 rfl, pair (lt0 (vl_int (by decide)))⟩
    · exact ⟨pr0 rfl, pair (lt0 (vl_int (by decide)))⟩
    · exact ⟨pr0 rfl, pair (lt0 vl_bl)⟩
    · exact ⟨pr0 rfl, pair (lt0 vl_non)⟩
    · exact ⟨pr0 rfl, pair (lt0 (vl_str (pl_lit (by decide +kernel) (by decide +kernel))))⟩
    · exact ⟨bl0 (by rw [lineB, hbv]; rfl), (vl_tup (k := 3) (w := 1000) (n := 2) (fun z hz => by
        rcases List.mem_cons.mp hz with rfl | hz
        · exact vbv
        · rw [List.mem_singleton.mp hz]; exact vP.mono (by decide) (by decide)) (by simp)).mono (by decide) (by decide)⟩
    · refine ⟨?_, (vl_e (e := ((e.1.1, e.1.2.1, t), e.2)) ⟨ne.1, ne.2.1, ht⟩ g4).mono (by decide) (by decide)⟩
      show (_ && _ && (_ && decide (t ∈ NS) && _)) = false
      rw [decide_eq_false hnt]; simp
    · refine ⟨?_, (vl_e (e := ((t, e.1.2.1, e.1.2.2), e.2)) ⟨ht, ne.2.1, ne.2.2⟩ g4).mono (by decide) (by decide)⟩
      show (_ && _ && (decide (t ∈ NS) && _ && _)) = false
      rw [decide_eq_false hnt]; simp
    · rw [hBd] at b5'
      exact b5'
  have lenT : (L8 ++ L3' ++ [x4] ++ [x5]).length = 13 := by rw [List.length_append, List.length_append, lenL]; rfl
  obtain ⟨d, hd, A7, e7, r7⟩ := of_ref r6.1 at6 (by omega) (by omega) (by omega) (by omega)
  have bd := all d hd
  rw [hBd] at bd
  have s7 := set_at (i := 12) (callF_at (n := 2) (g := f__law_of) (cons_at (z0 A6) (cons_at (z11 A6) nil_at)) rfl e7)
  obtain ⟨R3, hR3⟩ : ∃ R3 : DM.Env, R3 = R2.set 12 (some d) := ⟨_, rfl⟩
  rw [← hR3] at s7
  have y1 : ∀ B, mVar 1 R3 B = .ok (.tup (NS.map D.str)) B := fun B => var_at (by rw [hR3, hR2, hR1, hR]; rfl)
  have y2 : ∀ B, mVar 2 R3 B = .ok (.tup (es.map enE)) B := fun B => var_at (by rw [hR3, hR2, hR1, hR]; rfl)
  have y5 : ∀ B, mVar 5 R3 B = .ok (.int (NS.length : Int)) B := fun B => var_at (by rw [hR3, hR2, hR1, hR]; rfl)
  have y8 : ∀ B, mVar 8 R3 B = .ok (.int (j : Int)) B := fun B => var_at (by rw [hR3, hR2, hR1, hR]; rfl)
  have y12 : ∀ B, mVar 12 R3 B = .ok d B := fun B => var_at (by rw [hR3, hR2, hR1, hR]; rfl)
  have su : ∀ B, mSl (mVar 2) (mSome (mOp fAdd (mVar 8) (mK (.int 1)))) (mNone) R3 B = .ok (.tup ((es.map enE).drop (j + 1))) B := fun B => slt_suf (k := j + 1) (y2 B) (op_at (y8 B) rfl (by rw [add_ii]; congr 2))
  obtain ⟨_, A8, e8', r8, ys, rfl, lys, vys⟩ := dr_of (h := h) (q := q) (ρ := R3) (i := 0) (P := fun e => ∃ ys, e = .tup ys ∧ ys.length + j ≤ 33 ∧ ∀ y ∈ ys, Vl 4 2100 y) (me := mLst (mCons (mSl (mVar 2) (mSome (mOp fAdd (mVar 8) (mK (.int 1)))) (mNone)) (mCons (mTup (mCons (mK .non) (mNil))) (mCons (mTup (mNil)) (mNil))))) (by rw [hR3, hR2, hR1, hR]; rfl) (dr_lst (n := 2) (all_cons (dr_ok su ⟨_, rfl, by rw [List.length_drop, List.length_map]; omega, fun y hy => vl y (List.mem_of_mem_drop hy)⟩) (all_cons (dr_ok (fun _ => tup_at (cons_at rfl nil_at) (by simp)) ⟨_, rfl, by simp only [List.length_cons, List.length_nil]; omega, fun y hy => (List.mem_singleton.mp hy) ▸ vl_non.mono (by decide) (by decide)⟩) (all_cons (dr_ok (fun _ => tup_at nil_at (by simp)) ⟨_, rfl, by simp only [List.length_nil]; omega, fun _ h => nomatch h⟩) all_nil))) (by decide)) A7 r7.1
  refine ⟨.tup [.tup [.tup (NS.map D.str), .tup ((es.map enE).take j ++ [d] ++ ys)], .int ((NS.length + j : Nat) : Int)], A8, ?_, (r6.trans r7).trans r8, badG_of (i := ((NS.length + j : Nat) : Int)) ⟨bad_l g hN hK (by omega) bd.1, two_v vN (ls_v (fun y hy => ?_) ?_)⟩ (by omega)⟩
  · show mSeq _ _ [some (.ref h), some (.tup (NS.map D.str)), some (.tup (es.map enE)), some (.str t), some (.int (k : Int)), some (.int (NS.length : Int)), some (.int (p : Int)), some (.lst ((T.map fun i : Nat => (i : Int)).map D.int)), some (.int (j : Int)), some (lnD e.1), some (.int (e.2 : Int)), none, none] A = _
    rw [← hR]
    refine (seq_nx s8).trans ((seq_nx s11).trans ((seq_nx s4).trans ((seq_nx s5).trans ((seq_nx s7).trans (ret_at (tup_at (cons_at (tup_at (cons_at (y1 A7) (cons_at (op_at (op_at (slt_pre (y2 A7) (y8 A7)) (tup_at (cons_at (y12 A7) nil_at) (by simp)) (add_tt ?_)) e8' (add_tt ?_)) nil_at)) (by simp)) (cons_at (op_at (y5 A8) (y8 A8) (by rw [add_ii]; congr 2)) nil_at)) (by simp)))))))
    · rw [List.length_take, List.length_map]; simp only [List.length_cons, List.length_nil]; omega
    · rw [List.length_append, List.length_take, List.length_map]; simp only [List.length_cons, List.length_nil]; omega
  · rcases List.mem_append.mp hy with hy | hy
    · rcases List.mem_append.mp hy with hy | hy
      · exact vl y (List.mem_of_mem_take hy)
      · rw [List.mem_singleton.mp hy]; exact bd.2
    · exact vys y hy
  · rw [List.length_append, List.length_append, List.length_take, List.length_map]; simp only [List.length_cons, List.length_nil]; omega
end GR
end
section
set_option maxHeartbeats 4000000
namespace K23
open PySem PySem.Spec PyProof.Rows L2 DM NdefX
variable [HasPW]
/-! ### the text -/
def stAt (i : Nat) : Stmt := PySem.Challenge.pw_spelledways_k23_lines_graphs_and_deeds.main.body.getD i (.Pass ⟨0, 0, 0, 0⟩)
abbrev x_is_integer : Stmt := stAt 6
abbrev nm_is_integer : List Str := ["value"]
theorem sc_is_integer : FnScope nm_is_integer ["value"] (defScope x_is_integer) := ⟨rfl, rfl, rfl, by decide +kernel, rfl, by decide +kernel, by decide +kernel⟩
abbrev x_is_sequence : Stmt := stAt 7
abbrev nm_is_sequence : List Str := ["value"]
theorem sc_is_sequence : FnScope nm_is_sequence ["value"] (defScope x_is_sequence) := ⟨rfl, rfl, rfl, by decide +kernel, rfl, by decide +kernel, by decide +kernel⟩
abbrev x_is_tuple_of : Stmt := stAt 8
abbrev nm_is_tuple_of : List Str := ["value", "size"]
theorem sc_is_tuple_of : FnScope nm_is_tuple_of ["value", "size"] (defScope x_is_tuple_of) := ⟨rfl, rfl, rfl, by decide +kernel, rfl, by decide +kernel, by decide +kernel⟩
abbrev x_is_node : Stmt := stAt 12
abbrev nm_is_node : List Str := ["value", "sign"]
theorem sc_is_node : FnScope nm_is_node ["value"] (defScope x_is_node) := ⟨rfl, rfl, rfl, by decide +kernel, rfl, by decide +kernel, by decide +kernel⟩
abbrev x_is_kind : Stmt := stAt 13
abbrev nm_is_kind : List Str := ["value"]
theorem sc_is_kind : FnScope nm_is_kind ["value"] (defScope x_is_kind) := ⟨rfl, rfl, rfl, by decide +kernel, rfl, by decide +kernel, by decide +kernel⟩
abbrev x_is_price : Stmt := stAt 14
abbrev nm_is_price : List Str := ["value"]
theorem sc_is_price : FnScope nm_is_price ["value"] (defScope x_is_price) := ⟨rfl, rfl, rfl, by decide +kernel, rfl, by decide +kernel, by decide +kernel⟩
abbrev x_line_fault : Stmt := stAt 15
abbrev nm_line_fault : List Str := ["value", "at", "part"]
theorem sc_line_fault : FnScope nm_line_fault ["value"] (defScope x_line_fault) := ⟨rfl, rfl, rfl, by decide +kernel, rfl, by decide +kernel, by decide +kernel⟩
abbrev x_is_line : Stmt := stAt 16
abbrev nm_is_line : List Str := ["value"]
theorem sc_is_line : FnScope nm_is_line ["value"] (defScope x_is_line) := ⟨rfl, rfl, rfl, by decide +kernel, rfl, by decide +kernel, by decide +kernel⟩
abbrev x_need_line : Stmt := stAt 17
abbrev nm_need_line : List Str := ["value", "at"]
theorem sc_need_line : FnScope nm_need_line ["value"] (defScope x_need_line) := ⟨rfl, rfl, rfl, by decide +kernel, rfl, by decide +kernel, by decide +kernel⟩
abbrev x_graph_fault : Stmt := stAt 18
abbrev nm_graph_fault : List Str := ["value", "nodes", "lines", "at", "node", "entry"]
theorem sc_graph_fault : FnScope nm_graph_fault ["value"] (defScope x_graph_fault) := ⟨rfl, rfl, rfl, by decide +kernel, rfl, by decide +kernel, by decide +kernel⟩
abbrev x_is_graph : Stmt := stAt 19
abbrev nm_is_graph : List Str := ["value"]
theorem sc_is_graph : FnScope nm_is_graph ["value"] (defScope x_is_graph) := ⟨rfl, rfl, rfl, by decide +kernel, rfl, by decide +kernel, by decide +kernel⟩
abbrev x_need_graph : Stmt := stAt 20
abbrev nm_need_graph : List Str := ["value", "at"]
theorem sc_need_graph : FnScope nm_need_graph ["value"] (defScope x_need_graph) := ⟨rfl, rfl, rfl, by decide +kernel, rfl, by decide +kernel, by decide +kernel⟩
abbrev x_deed_fault : Stmt := stAt 21
abbrev nm_deed_fault : List Str := ["value"]
theorem sc_deed_fault : FnScope nm_deed_fault ["value"] (defScope x_deed_fault) := ⟨rfl, rfl, rfl, by decide +kernel, rfl, by decide +kernel, by decide +kernel⟩
abbrev x_is_deed : Stmt := stAt 22
abbrev nm_is_deed : List Str := ["value"]
theorem sc_is_deed : FnScope nm_is_deed ["value"] (defScope x_is_deed) := ⟨rfl, rfl, rfl, by decide +kernel, rfl, by decide +kernel, by decide +kernel⟩
abbrev x_need_deed : Stmt := stAt 23
abbrev nm_need_deed : List Str := ["value", "at"]
theorem sc_need_deed : FnScope nm_need_deed ["value"] (defScope x_need_deed) := ⟨rfl, rfl, rfl, by decide +kernel, rfl, by decide +kernel, by decide +kernel⟩
abbrev x_need_batch : Stmt := stAt 24
abbrev nm_need_batch : List Str := ["value", "at", "deed"]
theorem sc_need_batch : FnScope nm_need_batch ["value"] (defScope x_need_batch) := ⟨rfl, rfl, rfl, by decide +kernel, rfl, by decide +kernel, by decide +kernel⟩
abbrev x__law_source : Stmt := stAt 26
abbrev nm__law_source : List Str := ["_law_script", "_law_salt", "_law_cells", "_law_blend", "_law_cell"]
theorem sc__law_source : FnScope nm__law_source ["_law_script", "_law_salt"] (defScope x__law_source) := ⟨rfl, rfl, rfl, by decide +kernel, rfl, by decide +kernel, by decide +kernel⟩
abbrev x__law_any : Stmt := stAt 27
abbrev nm__law_any : List Str := ["_law_deal", "_law_bound", "_law_rest"]
theorem sc__law_any : FnScope nm__law_any ["_law_deal", "_law_bound"] (defScope x__law_any) := ⟨rfl, rfl, rfl, by decide +kernel, rfl, by decide +kernel, by decide +kernel⟩
abbrev x__law_of : Stmt := stAt 28
abbrev nm__law_of : List Str := ["_law_deal", "_law_some"]
theorem sc__law_of : FnScope nm__law_of ["_law_deal", "_law_some"] (defScope x__law_of) := ⟨rfl, rfl, rfl, by decide +kernel, rfl, by decide +kernel, by decide +kernel⟩
abbrev x__law_names : Stmt := stAt 29
abbrev nm__law_names : List Str := ["_law_deal", "_law_many", "_law_signs", "_law_stem", "_law_place", "_law_first", "_law_turn"]
theorem sc__law_names : FnScope nm__law_names ["_law_deal", "_law_many"] (defScope x__law_names) := ⟨rfl, rfl, rfl, by decide +kernel, rfl, by decide +kernel, by decide +kernel⟩
abbrev x__law_price : Stmt := stAt 30
abbrev nm__law_price : List Str := ["_law_deal"]
theorem sc__law_price : FnScope nm__law_price ["_law_deal"] (defScope x__law_price) := ⟨rfl, rfl, rfl, by decide +kernel, rfl, by decide +kernel, by decide +kernel⟩
abbrev x__law_deed : Stmt := stAt 31
abbrev nm__law_deed : List Str := ["_law_deal", "_law_names_here", "_law_kinds", "_law_kind", "_law_line"]
theorem sc__law_deed : FnScope nm__law_deed ["_law_deal", "_law_names_here", "_law_kinds"] (defScope x__law_deed) := ⟨rfl, rfl, rfl, by decide +kernel, rfl, by decide +kernel, by decide +kernel⟩
abbrev x__law_do : Stmt := stAt 32
abbrev nm__law_do : List Str := ["_law_nodes", "_law_prices", "_law_deed_here", "_law_word", "_law_thing", "_law_line", "_law_node"]
theorem sc__law_do : FnScope nm__law_do ["_law_nodes", "_law_prices", "_law_deed_here"] (defScope x__law_do) := ⟨rfl, rfl, rfl, by decide +kernel, rfl, by decide +kernel, by decide +kernel⟩
abbrev x__law_graph : Stmt := stAt 33
abbrev nm__law_graph : List Str := ["_law_nodes", "_law_prices", "_law_line"]
theorem sc__law_graph : FnScope nm__law_graph ["_law_nodes", "_law_prices"] (defScope x__law_graph) := ⟨rfl, rfl, rfl, by decide +kernel, rfl, by decide +kernel, by decide +kernel⟩
abbrev x__law_drawn : Stmt := stAt 34
abbrev nm__law_drawn : List Str := ["_law_deal", "_law_names_here", "_law_kinds", "_law_many", "_law_nodes", "_law_prices", "_law_turn"]
theorem sc__law_drawn : FnScope nm__law_drawn ["_law_deal", "_law_names_here", "_law_kinds", "_law_many"] (defScope x__law_drawn) := ⟨rfl, rfl, rfl, by decide +kernel, rfl, by decide +kernel, by decide +kernel⟩
abbrev x__law_bad : Stmt := stAt 35
abbrev nm__law_bad : List Str := ["_law_deal", "_law_node"]
theorem sc__law_bad : FnScope nm__law_bad ["_law_deal", "_law_node"] (defScope x__law_bad) := ⟨rfl, rfl, rfl, by decide +kernel, rfl, by decide +kernel, by decide +kernel⟩
abbrev x__law_bad_line : Stmt := stAt 36
abbrev nm__law_bad_line : List Str := ["_law_deal", "_law_line", "_law_at", "_law_later"]
theorem sc__law_bad_line : FnScope nm__law_bad_line ["_law_deal", "_law_line"] (defScope x__law_bad_line) := ⟨rfl, rfl, rfl, by decide +kernel, rfl, by decide +kernel, by decide +kernel⟩
abbrev x__law_bad_graph : Stmt := stAt 37
abbrev nm__law_bad_graph : List Str := ["_law_deal", "_law_nodes", "_law_lines", "_law_strange", "_law_kind", "_law_many", "_law_at", "_law_ended", "_law_spot", "_law_line", "_law_price_here", "_law_some", "_law_wrong"]
theorem sc__law_bad_graph : FnScope nm__law_bad_graph ["_law_deal", "_law_nodes", "_law_lines", "_law_strange"] (defScope x__law_bad_graph) := ⟨rfl, rfl, rfl, by decide +kernel, rfl, by decide +kernel, by decide +kernel⟩
abbrev x__law_bad_deed : Stmt := stAt 38
abbrev nm__law_bad_deed : List Str := ["_law_deal", "_law_deed_here", "_law_some"]
theorem sc__law_bad_deed : FnScope nm__law_bad_deed ["_law_deal", "_law_deed_here"] (defScope x__law_bad_deed) := ⟨rfl, rfl, rfl, by decide +kernel, rfl, by decide +kernel, by decide +kernel⟩
abbrev x__law_heard : Stmt := stAt 39
abbrev nm__law_heard : List Str := ["_law_ask", "e"]
theorem sc__law_heard : FnScope nm__law_heard ["_law_ask"] (defScope x__law_heard) := ⟨rfl, rfl, rfl, by decide +kernel, rfl, by decide +kernel, by decide +kernel⟩
abbrev x_law : Stmt := stAt 40
abbrev nm_law : List Str := ["_law_script", "_law_deal", "_law_many", "_law_names_here", "_law_kinds", "_law_strange", "_law_right", "_law_drawn_here", "_law_prices", "_law_nodes", "_law_lines", "_law_value", "_law_at", "_law_deed_here", "_law_line", "_law_told", "_law_wrong", "_law_place", "_law_other", "_law_spot", "_law_batch", "_law_bent", "_law_sign", "_law_price_here", "_law_turn"]
theorem sc_law : FnScope nm_law ["_law_script"] (defScope x_law) := ⟨rfl, rfl, rfl, by decide +kernel, rfl, by decide +kernel, by decide +kernel⟩
abbrev x_InvalidGraph : Stmt := stAt 2
abbrev x_InvalidLine : Stmt := stAt 3
abbrev x_InvalidDeed : Stmt := stAt 4
/-! ### what the top has written -/
structure Tx (P : Program) (w : World) (K : PySem.W.Frag) (mg : Str → Option Value) (ad : Nat → Addr) (fd : Nat → FuncData) (tb : Nat → Addr × Addr) : Prop where
  hpw : pw = (P, w)
  g_is_integer : mg "is_integer" = some (.ref (ad 0))
  F_is_integer : Fun K "is_integer" "is_integer" x_is_integer (ad 0) (fd 0)
  b_is_integer : Binds K (fd 0) ["value"] []
  g_is_sequence : mg "is_sequence" = some (.ref (ad 1))
  F_is_sequence : Fun K "is_sequence" "is_sequence" x_is_sequence (ad 1) (fd 1)
  b_is_sequence : Binds K (fd 1) ["value"] []
  g_is_tuple_of : mg "is_tuple_of" = some (.ref (ad 2))
  F_is_tuple_of : Fun K "is_tuple_of" "is_tuple_of" x_is_tuple_of (ad 2) (fd 2)
  b_is_tuple_of : Binds K (fd 2) ["value", "size"] []
  g_is_node : mg "is_node" = some (.ref (ad 3))
  F_is_node : Fun K "is_node" "is_node" x_is_node (ad 3) (fd 3)
  b_is_node : Binds K (fd 3) ["value"] []
  g_is_kind : mg "is_kind" = some (.ref (ad 4))
  F_is_kind : Fun K "is_kind" "is_kind" x_is_kind (ad 4) (fd 4)
  b_is_kind : Binds K (fd 4) ["value"] []
  g_is_price : mg "is_price" = some (.ref (ad 5))
  F_is_price : Fun K "is_price" "is_price" x_is_price (ad 5) (fd 5)
  b_is_price : Binds K (fd 5) ["value"] []
  g_line_fault : mg "line_fault" = some (.ref (ad 6))
  F_line_fault : Fun K "line_fault" "line_fault" x_line_fault (ad 6) (fd 6)
  b_line_fault : Binds K (fd 6) ["value"] []
  g_is_line : mg "is_line" = some (.ref (ad 7))
  F_is_line : Fun K "is_line" "is_line" x_is_line (ad 7) (fd 7)
  b_is_line : Binds K (fd 7) ["value"] []
  g_need_line : mg "need_line" = some (.ref (ad 8))
  F_need_line : Fun K "need_line" "need_line" x_need_line (ad 8) (fd 8)
  b_need_line : Binds K (fd 8) ["value"] []
  g_graph_fault : mg "graph_fault" = some (.ref (ad 9))
  F_graph_fault : Fun K "graph_fault" "graph_fault" x_graph_fault (ad 9) (fd 9)
  b_graph_fault : Binds K (fd 9) ["value"] []
  g_is_graph : mg "is_graph" = some (.ref (ad 10))
  F_is_graph : Fun K "is_graph" "is_graph" x_is_graph (ad 10) (fd 10)
  b_is_graph : Binds K (fd 10) ["value"] []
  g_need_graph : mg "need_graph" = some (.ref (ad 11))
  F_need_graph : Fun K "need_graph" "need_graph" x_need_graph (ad 11) (fd 11)
  b_need_graph : Binds K (fd 11) ["value"] []
  g_deed_fault : mg "deed_fault" = some (.ref (ad 12))
  F_deed_fault : Fun K "deed_fault" "deed_fault" x_deed_fault (ad 12) (fd 12)
  b_deed_fault : Binds K (fd 12) ["value"] []
  g_is_deed : mg "is_deed" = some (.ref (ad 13))
  F_is_deed : Fun K "is_deed" "is_deed" x_is_deed (ad 13) (fd 13)
  b_is_deed : Binds K (fd 13) ["value"] []
  g_need_deed : mg "need_deed" = some (.ref (ad 14))
  F_need_deed : Fun K "need_deed" "need_deed" x_need_deed (ad 14) (fd 14)
  b_need_deed : Binds K (fd 14) ["value"] []
  g_need_batch : mg "need_batch" = some (.ref (ad 15))
  F_need_batch : Fun K "need_batch" "need_batch" x_need_batch (ad 15) (fd 15)
  b_need_batch : Binds K (fd 15) ["value"] []
  g__law_source : mg "_law_source" = some (.ref (ad 16))
  F__law_source : Fun K "_law_source" "_law_source" x__law_source (ad 16) (fd 16)
  b__law_source : Binds K (fd 16) ["_law_script", "_law_salt"] []
  g__law_any : mg "_law_any" = some (.ref (ad 17))
  F__law_any : Fun K "_law_any" "_law_any" x__law_any (ad 17) (fd 17)
  b__law_any : Binds K (fd 17) ["_law_deal", "_law_bound"] []
  g__law_of : mg "_law_of" = some (.ref (ad 18))
  F__law_of : Fun K "_law_of" "_law_of" x__law_of (ad 18) (fd 18)
  b__law_of : Binds K (fd 18) ["_law_deal", "_law_some"] []
  g__law_names : mg "_law_names" = some (.ref (ad 19))
  F__law_names : Fun K "_law_names" "_law_names" x__law_names (ad 19) (fd 19)
  b__law_names : Binds K (fd 19) ["_law_deal", "_law_many"] []
  g__law_price : mg "_law_price" = some (.ref (ad 20))
  F__law_price : Fun K "_law_price" "_law_price" x__law_price (ad 20) (fd 20)
  b__law_price : Binds K (fd 20) ["_law_deal"] []
  g__law_deed : mg "_law_deed" = some (.ref (ad 21))
  F__law_deed : Fun K "_law_deed" "_law_deed" x__law_deed (ad 21) (fd 21)
  b__law_deed : Binds K (fd 21) ["_law_deal", "_law_names_here", "_law_kinds"] []
  g__law_do : mg "_law_do" = some (.ref (ad 22))
  F__law_do : Fun K "_law_do" "_law_do" x__law_do (ad 22) (fd 22)
  b__law_do : Binds K (fd 22) ["_law_nodes", "_law_prices", "_law_deed_here"] []
  g__law_graph : mg "_law_graph" = some (.ref (ad 23))
  F__law_graph : Fun K "_law_graph" "_law_graph" x__law_graph (ad 23) (fd 23)
  b__law_graph : Binds K (fd 23) ["_law_nodes", "_law_prices"] []
  g__law_drawn : mg "_law_drawn" = some (.ref (ad 24))
  F__law_drawn : Fun K "_law_drawn" "_law_drawn" x__law_drawn (ad 24) (fd 24)
  b__law_drawn : Binds K (fd 24) ["_law_deal", "_law_names_here", "_law_kinds", "_law_many"] []
  g__law_bad : mg "_law_bad" = some (.ref (ad 25))
  F__law_bad : Fun K "_law_bad" "_law_bad" x__law_bad (ad 25) (fd 25)
  b__law_bad : Binds K (fd 25) ["_law_deal", "_law_node"] []
  g__law_bad_line : mg "_law_bad_line" = some (.ref (ad 26))
  F__law_bad_line : Fun K "_law_bad_line" "_law_bad_line" x__law_bad_line (ad 26) (fd 26)
  b__law_bad_line : Binds K (fd 26) ["_law_deal", "_law_line"] []
  g__law_bad_graph : mg "_law_bad_graph" = some (.ref (ad 27))
  F__law_bad_graph : Fun K "_law_bad_graph" "_law_bad_graph" x__law_bad_graph (ad 27) (fd 27)
  b__law_bad_graph : Binds K (fd 27) ["_law_deal", "_law_nodes", "_law_lines", "_law_strange"] []
  g__law_bad_deed : mg "_law_bad_deed" = some (.ref (ad 28))
  F__law_bad_deed : Fun K "_law_bad_deed" "_law_bad_deed" x__law_bad_deed (ad 28) (fd 28)
  b__law_bad_deed : Binds K (fd 28) ["_law_deal", "_law_deed_here"] []
  g__law_heard : mg "_law_heard" = some (.ref (ad 29))
  F__law_heard : Fun K "_law_heard" "_law_heard" x__law_heard (ad 29) (fd 29)
  b__law_heard : Binds K (fd 29) ["_law_ask"] []
  g_law : mg "law" = some (.ref (ad 30))
  F_law : Fun K "law" "law" x_law (ad 30) (fd 30)
  b_law : Binds K (fd 30) ["_law_script"] []
  o_law : (fd 30).code = .ref (tb 0).1
  g_StoreError : mg "StoreError" = some (.ref (ad 31))
  K_StoreError : ExcK K "StoreError" (ad 31)
  g_InvalidGraph : mg "InvalidGraph" = some (.ref (ad 32))
  K_InvalidGraph : ExcK K "InvalidGraph" (ad 32)
  E_InvalidGraph : ErE.ErrC P K "Exception" "Exception.__new__" "Exception.__init__" [.type "Exception", .type "BaseException", .type "object"] (ad 32) (ad 36) "at"
  g_InvalidLine : mg "InvalidLine" = some (.ref (ad 33))
  K_InvalidLine : ExcK K "InvalidLine" (ad 33)
  E_InvalidLine : ErE.ErrC P K "Exception" "Exception.__new__" "Exception.__init__" [.type "Exception", .type "BaseException", .type "object"] (ad 33) (ad 37) "at"
  g_InvalidDeed : mg "InvalidDeed" = some (.ref (ad 34))
  K_InvalidDeed : ExcK K "InvalidDeed" (ad 34)
  E_InvalidDeed : ErE.ErrC P K "Exception" "Exception.__new__" "Exception.__init__" [.type "Exception", .type "BaseException", .type "object"] (ad 34) (ad 38) "at"
  n_InvalidDeed_at : PySem.W.findIn K (.ref (ad 34)) "at" = some none
  n_InvalidGraph_at : PySem.W.findIn K (.ref (ad 32)) "at" = some none
  n_InvalidLine_at : PySem.W.findIn K (.ref (ad 33)) "at" = some none
  u_InvalidDeed_InvalidDeed : PySem.W.subIn K (.ref (ad 34)) (.ref (ad 34)) = some true
  u_InvalidDeed_InvalidGraph : PySem.W.subIn K (.ref (ad 34)) (.ref (ad 32)) = some false
  u_InvalidDeed_InvalidLine : PySem.W.subIn K (.ref (ad 34)) (.ref (ad 33)) = some false
  u_InvalidDeed_StoreError : PySem.W.subIn K (.ref (ad 34)) (.ref (ad 31)) = some true
  u_InvalidGraph_InvalidDeed : PySem.W.subIn K (.ref (ad 32)) (.ref (ad 34)) = some false
  u_InvalidGraph_InvalidGraph : PySem.W.subIn K (.ref (ad 32)) (.ref (ad 32)) = some true
  u_InvalidGraph_InvalidLine : PySem.W.subIn K (.ref (ad 32)) (.ref (ad 33)) = some false
  u_InvalidGraph_StoreError : PySem.W.subIn K (.ref (ad 32)) (.ref (ad 31)) = some true
  u_InvalidLine_InvalidDeed : PySem.W.subIn K (.ref (ad 33)) (.ref (ad 34)) = some false
  u_InvalidLine_InvalidGraph : PySem.W.subIn K (.ref (ad 33)) (.ref (ad 32)) = some false
  u_InvalidLine_InvalidLine : PySem.W.subIn K (.ref (ad 33)) (.ref (ad 33)) = some true
  u_InvalidLine_StoreError : PySem.W.subIn K (.ref (ad 33)) (.ref (ad 31)) = some true
  k_is_deed_value : KB K (fd 13) ["value"] 0 ["value"] [0]
  k_is_kind_value : KB K (fd 4) ["value"] 0 ["value"] [0]
  k_is_line_value : KB K (fd 7) ["value"] 0 ["value"] [0]
  k_is_node_value : KB K (fd 3) ["value"] 0 ["value"] [0]
  k_is_price_value : KB K (fd 5) ["value"] 0 ["value"] [0]
  k_need_batch_value : KB K (fd 15) ["value"] 0 ["value"] [0]
  k_need_deed_value : KB K (fd 14) ["value"] 0 ["value"] [0]
  k_need_graph_value : KB K (fd 11) ["value"] 0 ["value"] [0]
  k_need_line_value : KB K (fd 8) ["value"] 0 ["value"] [0]
  z_abs : mg "abs" = none
  z_all : mg "all" = none
  z_bool : mg "bool" = none
  z_enumerate : mg "enumerate" = none
  z_int : mg "int" = none
  z_isinstance : mg "isinstance" = none
  z_len : mg "len" = none
  z_list : mg "list" = none
  z_range : mg "range" = none
  z_repr : mg "repr" = none
  z_sorted : mg "sorted" = none
  z_str : mg "str" = none
  z_super : mg "super" = none
  z_tuple : mg "tuple" = none
  c_SIGNS : ∃ t, mg "SIGNS" = some (.str "0123456789abcdefghijklmnopqrstuvwxyz" t)
  c_GREATEST_PRICE : ∃ t, mg "GREATEST_PRICE" = some (.int 1000000 t)
/-! ### the defs -/
noncomputable def m_is_integer : List D → AH → Res D := mFun 1 (mRet (mAndV (mCall fIsi (mCons (mVar 0) (mCons (mK (.ty "int")) (mNil)))) (mNotV (mCall fIsi (mCons (mVar 0) (mCons (mK (.ty "bool"))
    (mNil)))))))
theorem w_is_integer {P : Program} {w : World} {K : PySem.W.Frag} {mg : Str → Option Value} {base : Heap} {ad : Nat → Addr} {fd : Nat → FuncData} {tb : Nat → Addr × Addr} (T : Tx P w K mg ad fd tb) :
    FnD P w K mg base 1 (ad 0) (fd 0) ["value"] (m_is_integer) :=
  have nd := sc_is_integer.nd
FnD.of T.F_is_integer sc_is_integer fun cdv hcd A outer s H E hr gd tk hp => s_one (s_ret (d_andV (d_isi T.z_isinstance (a_cons (d_var 0) (a_cons (d_ty T.z_int PyProof.Rows.Boot.«int») (a_nil))))
    (d_one (d_notV (d_isi T.z_isinstance (a_cons (d_var 0) (a_cons (d_ty T.z_bool PyProof.Rows.Boot.«bool») (a_nil))))))))
noncomputable def m_is_sequence : List D → AH → Res D := mFun 1 (mRet (mCall fIsiT (mCons (mVar 0) (mCons (mTup (mCons (mK (.ty "list")) (mCons (mK (.ty "tuple")) (mNil)))) (mNil)))))
theorem w_is_sequence {P : Program} {w : World} {K : PySem.W.Frag} {mg : Str → Option Value} {base : Heap} {ad : Nat → Addr} {fd : Nat → FuncData} {tb : Nat → Addr × Addr} (T : Tx P w K mg ad fd tb) :
    FnD P w K mg base 1 (ad 1) (fd 1) ["value"] (m_is_sequence) :=
  have nd := sc_is_sequence.nd
FnD.of T.F_is_sequence sc_is_sequence fun cdv hcd A outer s H E hr gd tk hp => s_one (s_ret (d_isiT T.z_isinstance (a_cons (d_var 0) (a_cons (d_tup (a_cons (d_ty T.z_list PyProof.Rows.Boot.«list»)
    (a_cons (d_ty T.z_tuple PyProof.Rows.Boot.«tuple») (a_nil)))) (a_nil)))))
noncomputable def m_is_tuple_of : List D → AH → Res D := mFun 2 (mRet (mAndV (mCall fIsi (mCons (mVar 0) (mCons (mK (.ty "tuple")) (mNil)))) (mOp (fEq false) (mCall fLen (mCons (mVar 0) (mNil))) (mVar
    1))))
theorem w_is_tuple_of {P : Program} {w : World} {K : PySem.W.Frag} {mg : Str → Option Value} {base : Heap} {ad : Nat → Addr} {fd : Nat → FuncData} {tb : Nat → Addr × Addr} (T : Tx P w K mg ad fd tb) :
    FnD P w K mg base 1 (ad 2) (fd 2) ["value", "size"] (m_is_tuple_of) :=
  have nd := sc_is_tuple_of.nd
FnD.of T.F_is_tuple_of sc_is_tuple_of fun cdv hcd A outer s H E hr gd tk hp => s_one (s_ret (d_andV (d_isi T.z_isinstance (a_cons (d_var 0) (a_cons (d_ty T.z_tuple PyProof.Rows.Boot.«tuple») (a_nil))))
    (d_one (d_eq hr.units (d_len T.z_len (a_cons (d_var 0) (a_nil))) (d_var 1)))))
noncomputable def m_is_node : List D → AH → Res D := mFun 2 (mRet (mAndV (mCall fIsi (mCons (mVar 0) (mCons (mK (.ty "str")) (mNil)))) (mAndV (mChn fLe fLe (mK (.int 1)) (mCall fLen (mCons (mVar 0)
    (mNil))) (mK (.int 4))) (mCall fAll (mCons (mLc false (mStrI (mVar 0)) (.nm 1) (mYes) (mOp (fInC false) (mVar 1) (mK (.str "0123456789abcdefghijklmnopqrstuvwxyz"))) [1]) (mNil))))))
theorem w_is_node {P : Program} {w : World} {K : PySem.W.Frag} {mg : Str → Option Value} {base : Heap} {ad : Nat → Addr} {fd : Nat → FuncData} {tb : Nat → Addr × Addr} (T : Tx P w K mg ad fd tb) :
    FnD P w K mg base 1 (ad 3) (fd 3) ["value"] (m_is_node) :=
  have nd := sc_is_node.nd
FnD.of T.F_is_node sc_is_node fun cdv hcd A outer s H E hr gd tk hp => s_one (s_ret (d_andV (d_isi T.z_isinstance (a_cons (d_var 0) (a_cons (d_ty T.z_str PyProof.Rows.Boot.«str») (a_nil)))) (d_andV
    (d_chn op_le op_le fCmp_ok fCmp_ok (d_int) (d_len T.z_len (a_cons (d_var 0) (a_nil))) (d_int)) (d_one (d_all T.z_all (a_cons (d_lc (t := .nm 1) false [("sign", 1)] rfl nd (i_str (d_var 0))
    (blkOk_by (N := nm_is_node) (sc := defScope x_is_node) (by decide +kernel)) (fun _ _ _ _ _ => tg_nm (i := 1) nd) (fun _ _ _ _ _ => l_nil) (fun _ _ _ _ _ => d_inC (d_var 1) (d_gstr T.c_SIGNS)) (sl
    := [1]) (by decide)) (a_nil)))))))
noncomputable def m_is_kind (c_is_node : List D → AH → Res D) : List D → AH → Res D := mFun 1 (mRet (mCallF 1 c_is_node (mCons (mVar 0) (mNil))))
theorem w_is_kind {P : Program} {w : World} {K : PySem.W.Frag} {mg : Str → Option Value} {base : Heap} {ad : Nat → Addr} {fd : Nat → FuncData} {tb : Nat → Addr × Addr} (T : Tx P w K mg ad fd tb)
    {c_is_node : List D → AH → Res D} (G_is_node : FnD P w K mg base 1 (ad 3) (fd 3) ["value"] c_is_node) :
    FnD P w K mg base 2 (ad 4) (fd 4) ["value"] (m_is_kind c_is_node) :=
  have nd := sc_is_kind.nd
FnD.of T.F_is_kind sc_is_kind fun cdv hcd A outer s H E hr gd tk hp => s_one (s_ret (d_call G_is_node (hr.mono (by decide)) gd tk T.g_is_node T.F_is_node.kp T.b_is_node (a_cons (d_var 0) (a_nil))))
noncomputable def m_is_price (c_is_integer : List D → AH → Res D) : List D → AH → Res D := mFun 1 (mRet (mAndV (mCallF 1 c_is_integer (mCons (mVar 0) (mNil))) (mChn fLe fLe (mK (.int 0)) (mVar 0) (mK
    (.int 1000000)))))
theorem w_is_price {P : Program} {w : World} {K : PySem.W.Frag} {mg : Str → Option Value} {base : Heap} {ad : Nat → Addr} {fd : Nat → FuncData} {tb : Nat → Addr × Addr} (T : Tx P w K mg ad fd tb)
    {c_is_integer : List D → AH → Res D} (G_is_integer : FnD P w K mg base 1 (ad 0) (fd 0) ["value"] c_is_integer) :
    FnD P w K mg base 2 (ad 5) (fd 5) ["value"] (m_is_price c_is_integer) :=
  have nd := sc_is_price.nd
FnD.of T.F_is_price sc_is_price fun cdv hcd A outer s H E hr gd tk hp => s_one (s_ret (d_andV (d_call G_is_integer (hr.mono (by decide)) gd tk T.g_is_integer T.F_is_integer.kp T.b_is_integer (a_cons
    (d_var 0) (a_nil))) (d_one (d_chn op_le op_le fCmp_ok fCmp_ok (d_int) (d_var 0) (d_gint T.c_GREATEST_PRICE.choose_spec)))))
noncomputable def m_line_fault (c_is_tuple_of : List D → AH → Res D) (c_is_node : List D → AH → Res D) : List D → AH → Res D := mFun 3 (mSeq (mIfS (mNot (mTst (mCallF 2 c_is_tuple_of (mCons (mVar 0)
    (mCons (mK (.int 3)) (mNil)))))) (mRet (mNeg (mK (.int 1)))) (mNext)) (mSeq (mFor (mEnX (mCons (mVar 0) (mNil))) (.tp [.nm 1, .nm 2]) (mIfS (mNot (mTst (mCallF 1 c_is_node (mCons (mVar 2)
    (mNil))))) (mRet (mVar 1)) (mNext))) (mRet (mK .non))))
theorem w_line_fault {P : Program} {w : World} {K : PySem.W.Frag} {mg : Str → Option Value} {base : Heap} {ad : Nat → Addr} {fd : Nat → FuncData} {tb : Nat → Addr × Addr} (T : Tx P w K mg ad fd tb)
    {c_is_tuple_of : List D → AH → Res D} (G_is_tuple_of : FnD P w K mg base 1 (ad 2) (fd 2) ["value", "size"] c_is_tuple_of) {c_is_node : List D → AH → Res D} (G_is_node : FnD P w K mg base 1 (ad 3)
    (fd 3) ["value"] c_is_node) :
    FnD P w K mg base 2 (ad 6) (fd 6) ["value"] (m_line_fault c_is_tuple_of c_is_node) :=
  have nd := sc_line_fault.nd
FnD.of T.F_line_fault sc_line_fault fun cdv hcd A outer s H E hr gd tk hp => s_cons (s_if (t_not (t_val (d_call G_is_tuple_of (hr.mono (by decide)) gd tk T.g_is_tuple_of T.F_is_tuple_of.kp
    T.b_is_tuple_of (a_cons (d_var 0) (a_cons (d_int) (a_nil)))))) (s_one (s_ret (d_neg (d_int)))) (s_nil)) (s_cons (s_for hp rfl (i_enX T.z_enumerate (a_cons (d_var 0) (a_nil))) (tg_tp (ts := [.nm 1,
    .nm 2]) rfl (tgs_cons (tg_nm (i := 1) nd) (tgs_cons (tg_nm (i := 2) nd) (tgs_nil)))) (s_one (s_if (t_not (t_val (d_call G_is_node (hr.mono (by decide)) gd tk T.g_is_node T.F_is_node.kp T.b_is_node
    (a_cons (d_var 2) (a_nil))))) (s_one (s_ret (d_var 1))) (s_nil)))) (s_one (s_ret (d_non))))
noncomputable def m_is_line (c_line_fault : List D → AH → Res D) : List D → AH → Res D := mFun 1 (mRet (mOp (fIsN false) (mCallF 1 c_line_fault (mCons (mVar 0) (mNil))) (mK .non)))
theorem w_is_line {P : Program} {w : World} {K : PySem.W.Frag} {mg : Str → Option Value} {base : Heap} {ad : Nat → Addr} {fd : Nat → FuncData} {tb : Nat → Addr × Addr} (T : Tx P w K mg ad fd tb)
    {c_line_fault : List D → AH → Res D} (G_line_fault : FnD P w K mg base 2 (ad 6) (fd 6) ["value"] c_line_fault) :
    FnD P w K mg base 3 (ad 7) (fd 7) ["value"] (m_is_line c_line_fault) :=
  have nd := sc_is_line.nd
FnD.of T.F_is_line sc_is_line fun cdv hcd A outer s H E hr gd tk hp => s_one (s_ret (d_is (d_call G_line_fault (hr.mono (by decide)) gd tk T.g_line_fault T.F_line_fault.kp T.b_line_fault (a_cons (d_var
    0) (a_nil))) (d_non)))
noncomputable def m_need_line (c_line_fault : List D → AH → Res D) : List D → AH → Res D := mFun 2 (mSeq (mSet 1 (mCallF 1 c_line_fault (mCons (mVar 0) (mNil)))) (mIfS (mTst (mOp (fIsN true) (mVar 1)
    (mK .non))) (mRaise "InvalidLine" "at" (mVar 1)) (mNext)))
theorem w_need_line {P : Program} {w : World} {K : PySem.W.Frag} {mg : Str → Option Value} {base : Heap} {ad : Nat → Addr} {fd : Nat → FuncData} {tb : Nat → Addr × Addr} (T : Tx P w K mg ad fd tb)
    {c_line_fault : List D → AH → Res D} (G_line_fault : FnD P w K mg base 2 (ad 6) (fd 6) ["value"] c_line_fault) :
    FnD P w K mg base 3 (ad 8) (fd 8) ["value"] (m_need_line c_line_fault) :=
  have nd := sc_need_line.nd
FnD.of T.F_need_line sc_need_line fun cdv hcd A outer s H E hr gd tk hp => s_cons (s_set (i := 1) nd (d_call G_line_fault (hr.mono (by decide)) gd tk T.g_line_fault T.F_line_fault.kp T.b_line_fault
    (a_cons (d_var 0) (a_nil)))) (s_one (s_if (t_isnt (d_var 1) (d_non)) (s_one (s_raise rfl tk T.E_InvalidLine (hr.mono (by decide)) T.g_InvalidLine T.K_InvalidLine.nm T.K_InvalidLine.kp
    T.K_InvalidLine.ec.hs T.K_InvalidLine.ty T.z_super (d_var 1))) (s_nil)))
noncomputable def m_graph_fault (c_is_tuple_of : List D → AH → Res D) (c_is_node : List D → AH → Res D) (c_is_line : List D → AH → Res D) (c_is_price : List D → AH → Res D) : List D → AH → Res D :=
    mFun 6 (mSeq (mIfS (mOr (mNot (mTst (mCallF 2 c_is_tuple_of (mCons (mVar 0) (mCons (mK (.int 2)) (mNil)))))) (mOr (mNot (mTst (mCall fIsi (mCons (mOp fIx (mVar 0) (mK (.int 0))) (mCons (mK (.ty
    "tuple")) (mNil)))))) (mNot (mTst (mCall fIsi (mCons (mOp fIx (mVar 0) (mK (.int 1))) (mCons (mK (.ty "tuple")) (mNil)))))))) (mRet (mNeg (mK (.int 1)))) (mNext)) (mSeq (mAsg (.tp [.nm 1, .nm 2])
    (mVar 0)) (mSeq (mFor (mEnT (mCons (mVar 1) (mNil))) (.tp [.nm 3, .nm 4]) (mIfS (mOr (mNot (mTst (mCallF 1 c_is_node (mCons (mVar 4) (mNil))))) (mAnd (mTst (mOp fGt (mVar 3) (mK (.int 0)))) (mTst
    (mOp fLeX (mVar 4) (mOp fIx (mVar 1) (mOp fSub (mVar 3) (mK (.int 1)))))))) (mRet (mVar 3)) (mNext))) (mSeq (mFor (mEnT (mCons (mVar 2) (mNil))) (.tp [.nm 3, .nm 5]) (mSeq (mIfS (mOr (mNot (mTst
    (mCallF 2 c_is_tuple_of (mCons (mVar 5) (mCons (mK (.int 2)) (mNil)))))) (mOr (mNot (mTst (mCallF 1 c_is_line (mCons (mOp fIx (mVar 5) (mK (.int 0))) (mNil))))) (mNot (mTst (mCallF 1 c_is_price
    (mCons (mOp fIx (mVar 5) (mK (.int 1))) (mNil))))))) (mRet (mOp fAdd (mCall fLen (mCons (mVar 1) (mNil))) (mVar 3))) (mNext)) (mIfS (mOr (mTst (mOp (fInD true) (mOp fIx (mOp fIx (mVar 5) (mK (.int
    0))) (mK (.int 0))) (mVar 1))) (mOr (mTst (mOp (fInD true) (mOp fIx (mOp fIx (mVar 5) (mK (.int 0))) (mK (.int 2))) (mVar 1))) (mAnd (mTst (mOp fGt (mVar 3) (mK (.int 0)))) (mTst (mOp fLeTS (mOp
    fIx (mVar 5) (mK (.int 0))) (mOp fIx (mOp fIx (mVar 2) (mOp fSub (mVar 3) (mK (.int 1)))) (mK (.int 0)))))))) (mRet (mOp fAdd (mCall fLen (mCons (mVar 1) (mNil))) (mVar 3))) (mNext)))) (mRet (mK
    .non))))))
theorem w_graph_fault {P : Program} {w : World} {K : PySem.W.Frag} {mg : Str → Option Value} {base : Heap} {ad : Nat → Addr} {fd : Nat → FuncData} {tb : Nat → Addr × Addr} (T : Tx P w K mg ad fd tb)
    {c_is_tuple_of : List D → AH → Res D} (G_is_tuple_of : FnD P w K mg base 1 (ad 2) (fd 2) ["value", "size"] c_is_tuple_of) {c_is_node : List D → AH → Res D} (G_is_node : FnD P w K mg base 1 (ad 3)
    (fd 3) ["value"] c_is_node) {c_is_line : List D → AH → Res D} (G_is_line : FnD P w K mg base 3 (ad 7) (fd 7) ["value"] c_is_line) {c_is_price : List D → AH → Res D} (G_is_price : FnD P w K mg base
    2 (ad 5) (fd 5) ["value"] c_is_price) :
    FnD P w K mg base 4 (ad 9) (fd 9) ["value"] (m_graph_fault c_is_tuple_of c_is_node c_is_line c_is_price) :=
  have nd := sc_graph_fault.nd
FnD.of T.F_graph_fault sc_graph_fault fun cdv hcd A outer s H E hr gd tk hp => s_cons (s_if (PW.pt (w_or (t_not (t_val (d_call G_is_tuple_of (hr.mono (by decide)) gd tk T.g_is_tuple_of
    T.F_is_tuple_of.kp T.b_is_tuple_of (a_cons (d_var 0) (a_cons (d_int) (a_nil)))))) (w_or (t_not (t_val (d_isi T.z_isinstance (a_cons (d_ix (d_var 0) (d_int)) (a_cons (d_ty T.z_tuple
    PyProof.Rows.Boot.«tuple») (a_nil)))))) (w_or1 (t_not (t_val (d_isi T.z_isinstance (a_cons (d_ix (d_var 0) (d_int)) (a_cons (d_ty T.z_tuple PyProof.Rows.Boot.«tuple») (a_nil)))))))))) (s_one (s_ret
    (d_neg (d_int)))) (s_nil)) (s_cons (s_asg (t := .tp [.nm 1, .nm 2]) (d_var 0) (tg_tp (ts := [.nm 1, .nm 2]) rfl (tgs_cons (tg_nm (i := 1) nd) (tgs_cons (tg_nm (i := 2) nd) (tgs_nil))))) (s_cons
    (s_for hp rfl (i_enT T.z_enumerate (a_cons (d_var 1) (a_nil))) (tg_tp (ts := [.nm 3, .nm 4]) rfl (tgs_cons (tg_nm (i := 3) nd) (tgs_cons (tg_nm (i := 4) nd) (tgs_nil)))) (s_one (s_if (PW.pt (w_or
    (t_not (t_val (d_call G_is_node (hr.mono (by decide)) gd tk T.g_is_node T.F_is_node.kp T.b_is_node (a_cons (d_var 4) (a_nil))))) (w_or1 (PW.pt (w_and (t_gt (d_var 3) (d_int)) (w_and1 (t_leX (d_var
    4) (d_ix (d_var 1) (d_sub (d_var 3) (d_int)))))))))) (s_one (s_ret (d_var 3))) (s_nil)))) (s_cons (s_for hp rfl (i_enT T.z_enumerate (a_cons (d_var 2) (a_nil))) (tg_tp (ts := [.nm 3, .nm 5]) rfl
    (tgs_cons (tg_nm (i := 3) nd) (tgs_cons (tg_nm (i := 5) nd) (tgs_nil)))) (s_cons (s_if (PW.pt (w_or (t_not (t_val (d_call G_is_tuple_of (hr.mono (by decide)) gd tk T.g_is_tuple_of
    T.F_is_tuple_of.kp T.b_is_tuple_of (a_cons (d_var 5) (a_cons (d_int) (a_nil)))))) (w_or (t_not (t_val (d_call G_is_line (hr.mono (by decide)) gd tk T.g_is_line T.F_is_line.kp T.b_is_line (a_cons
    (d_ix (d_var 5) (d_int)) (a_nil))))) (w_or1 (t_not (t_val (d_call G_is_price (hr.mono (by decide)) gd tk T.g_is_price T.F_is_price.kp T.b_is_price (a_cons (d_ix (d_var 5) (d_int)) (a_nil)))))))))
    (s_one (s_ret (d_add (d_len T.z_len (a_cons (d_var 1) (a_nil))) (d_var 3)))) (s_nil)) (s_one (s_if (PW.pt (w_or (t_ninD (units65 hr) (d_ix (d_ix (d_var 5) (d_int)) (d_int)) (d_var 1)) (w_or (t_ninD
    (units65 hr) (d_ix (d_ix (d_var 5) (d_int)) (d_int)) (d_var 1)) (w_or1 (PW.pt (w_and (t_gt (d_var 3) (d_int)) (w_and1 (t_leTS (units64 hr) (d_ix (d_var 5) (d_int)) (d_ix (d_ix (d_var 2) (d_sub
    (d_var 3) (d_int))) (d_int)))))))))) (s_one (s_ret (d_add (d_len T.z_len (a_cons (d_var 1) (a_nil))) (d_var 3)))) (s_nil))))) (s_one (s_ret (d_non))))))
noncomputable def m_is_graph (c_graph_fault : List D → AH → Res D) : List D → AH → Res D := mFun 1 (mRet (mOp (fIsN false) (mCallF 1 c_graph_fault (mCons (mVar 0) (mNil))) (mK .non)))
theorem w_is_graph {P : Program} {w : World} {K : PySem.W.Frag} {mg : Str → Option Value} {base : Heap} {ad : Nat → Addr} {fd : Nat → FuncData} {tb : Nat → Addr × Addr} (T : Tx P w K mg ad fd tb)
    {c_graph_fault : List D → AH → Res D} (G_graph_fault : FnD P w K mg base 4 (ad 9) (fd 9) ["value"] c_graph_fault) :
    FnD P w K mg base 5 (ad 10) (fd 10) ["value"] (m_is_graph c_graph_fault) :=
  have nd := sc_is_graph.nd
FnD.of T.F_is_graph sc_is_graph fun cdv hcd A outer s H E hr gd tk hp => s_one (s_ret (d_is (d_call G_graph_fault (hr.mono (by decide)) gd tk T.g_graph_fault T.F_graph_fault.kp T.b_graph_fault (a_cons
    (d_var 0) (a_nil))) (d_non)))
noncomputable def m_need_graph (c_graph_fault : List D → AH → Res D) : List D → AH → Res D := mFun 2 (mSeq (mSet 1 (mCallF 1 c_graph_fault (mCons (mVar 0) (mNil)))) (mIfS (mTst (mOp (fIsN true) (mVar
    1) (mK .non))) (mRaise "InvalidGraph" "at" (mVar 1)) (mNext)))
theorem w_need_graph {P : Program} {w : World} {K : PySem.W.Frag} {mg : Str → Option Value} {base : Heap} {ad : Nat → Addr} {fd : Nat → FuncData} {tb : Nat → Addr × Addr} (T : Tx P w K mg ad fd tb)
    {c_graph_fault : List D → AH → Res D} (G_graph_fault : FnD P w K mg base 4 (ad 9) (fd 9) ["value"] c_graph_fault) :
    FnD P w K mg base 5 (ad 11) (fd 11) ["value"] (m_need_graph c_graph_fault) :=
  have nd := sc_need_graph.nd
FnD.of T.F_need_graph sc_need_graph fun cdv hcd A outer s H E hr gd tk hp => s_cons (s_set (i := 1) nd (d_call G_graph_fault (hr.mono (by decide)) gd tk T.g_graph_fault T.F_graph_fault.kp
    T.b_graph_fault (a_cons (d_var 0) (a_nil)))) (s_one (s_if (t_isnt (d_var 1) (d_non)) (s_one (s_raise rfl tk T.E_InvalidGraph (hr.mono (by decide)) T.g_InvalidGraph T.K_InvalidGraph.nm
    T.K_InvalidGraph.kp T.K_InvalidGraph.ec.hs T.K_InvalidGraph.ty T.z_super (d_var 1))) (s_nil)))
noncomputable def m_deed_fault (c_is_node : List D → AH → Res D) (c_is_line : List D → AH → Res D) (c_is_price : List D → AH → Res D) : List D → AH → Res D := mFun 1 (mSeq (mIfS (mOr (mNot (mTst (mCall
    fIsi (mCons (mVar 0) (mCons (mK (.ty "tuple")) (mNil)))))) (mTst (mOp fLt (mCall fLen (mCons (mVar 0) (mNil))) (mK (.int 2))))) (mRet (mNeg (mK (.int 1)))) (mNext)) (mSeq (mIfS (mAnd (mTst (mOp
    (fInD false) (mOp fIx (mVar 0) (mK (.int 0))) (mTup (mCons (mK (.str "node")) (mCons (mK (.str "drop")) (mNil)))))) (mTst (mOp (fEq false) (mCall fLen (mCons (mVar 0) (mNil))) (mK (.int 2)))))
    (mRet (mIf (mTst (mCallF 1 c_is_node (mCons (mOp fIx (mVar 0) (mK (.int 1))) (mNil)))) (mK .non) (mK (.int 1)))) (mNext)) (mSeq (mIfS (mAnd (mTst (mOp (fEq false) (mOp fIx (mVar 0) (mK (.int 0)))
    (mK (.str "cut")))) (mTst (mOp (fEq false) (mCall fLen (mCons (mVar 0) (mNil))) (mK (.int 2))))) (mRet (mIf (mTst (mCallF 1 c_is_line (mCons (mOp fIx (mVar 0) (mK (.int 1))) (mNil)))) (mK .non) (mK
    (.int 1)))) (mNext)) (mSeq (mIfS (mAnd (mTst (mOp (fEq false) (mOp fIx (mVar 0) (mK (.int 0))) (mK (.str "line")))) (mTst (mOp (fEq false) (mCall fLen (mCons (mVar 0) (mNil))) (mK (.int 3)))))
    (mSeq (mIfS (mNot (mTst (mCallF 1 c_is_line (mCons (mOp fIx (mVar 0) (mK (.int 1))) (mNil))))) (mRet (mK (.int 1))) (mNext)) (mRet (mIf (mTst (mCallF 1 c_is_price (mCons (mOp fIx (mVar 0) (mK (.int
    2))) (mNil)))) (mK .non) (mK (.int 2))))) (mNext)) (mRet (mNeg (mK (.int 1))))))))
theorem w_deed_fault {P : Program} {w : World} {K : PySem.W.Frag} {mg : Str → Option Value} {base : Heap} {ad : Nat → Addr} {fd : Nat → FuncData} {tb : Nat → Addr × Addr} (T : Tx P w K mg ad fd tb)
    {c_is_node : List D → AH → Res D} (G_is_node : FnD P w K mg base 1 (ad 3) (fd 3) ["value"] c_is_node) {c_is_line : List D → AH → Res D} (G_is_line : FnD P w K mg base 3 (ad 7) (fd 7) ["value"]
    c_is_line) {c_is_price : List D → AH → Res D} (G_is_price : FnD P w K mg base 2 (ad 5) (fd 5) ["value"] c_is_price) :
    FnD P w K mg base 4 (ad 12) (fd 12) ["value"] (m_deed_fault c_is_node c_is_line c_is_price) :=
  have nd := sc_deed_fault.nd
FnD.of T.F_deed_fault sc_deed_fault fun cdv hcd A outer s H E hr gd tk hp => s_cons (s_if (PW.pt (w_or (t_not (t_val (d_isi T.z_isinstance (a_cons (d_var 0) (a_cons (d_ty T.z_tuple
    PyProof.Rows.Boot.«tuple») (a_nil)))))) (w_or1 (t_lt (d_len T.z_len (a_cons (d_var 0) (a_nil))) (d_int))))) (s_one (s_ret (d_neg (d_int)))) (s_nil)) (s_cons (s_if (PW.pt (w_and (t_inD (units65 hr)
    (d_ix (d_var 0) (d_int)) (d_tup (a_cons (d_str) (a_cons (d_str) (a_nil))))) (w_and1 (t_eq hr.units (d_len T.z_len (a_cons (d_var 0) (a_nil))) (d_int))))) (s_one (s_ret (d_if (t_val (d_call
    G_is_node (hr.mono (by decide)) gd tk T.g_is_node T.F_is_node.kp T.b_is_node (a_cons (d_ix (d_var 0) (d_int)) (a_nil)))) (d_non) (d_int)))) (s_nil)) (s_cons (s_if (PW.pt (w_and (t_eq hr.units (d_ix
    (d_var 0) (d_int)) (d_str)) (w_and1 (t_eq hr.units (d_len T.z_len (a_cons (d_var 0) (a_nil))) (d_int))))) (s_one (s_ret (d_if (t_val (d_call G_is_line (hr.mono (by decide)) gd tk T.g_is_line
    T.F_is_line.kp T.b_is_line (a_cons (d_ix (d_var 0) (d_int)) (a_nil)))) (d_non) (d_int)))) (s_nil)) (s_cons (s_if (PW.pt (w_and (t_eq hr.units (d_ix (d_var 0) (d_int)) (d_str)) (w_and1 (t_eq
    hr.units (d_len T.z_len (a_cons (d_var 0) (a_nil))) (d_int))))) (s_cons (s_if (t_not (t_val (d_call G_is_line (hr.mono (by decide)) gd tk T.g_is_line T.F_is_line.kp T.b_is_line (a_cons (d_ix (d_var
    0) (d_int)) (a_nil))))) (s_one (s_ret (d_int))) (s_nil)) (s_one (s_ret (d_if (t_val (d_call G_is_price (hr.mono (by decide)) gd tk T.g_is_price T.F_is_price.kp T.b_is_price (a_cons (d_ix (d_var 0)
    (d_int)) (a_nil)))) (d_non) (d_int))))) (s_nil)) (s_one (s_ret (d_neg (d_int)))))))
noncomputable def m_is_deed (c_deed_fault : List D → AH → Res D) : List D → AH → Res D := mFun 1 (mRet (mOp (fIsN false) (mCallF 1 c_deed_fault (mCons (mVar 0) (mNil))) (mK .non)))
theorem w_is_deed {P : Program} {w : World} {K : PySem.W.Frag} {mg : Str → Option Value} {base : Heap} {ad : Nat → Addr} {fd : Nat → FuncData} {tb : Nat → Addr × Addr} (T : Tx P w K mg ad fd tb)
    {c_deed_fault : List D → AH → Res D} (G_deed_fault : FnD P w K mg base 4 (ad 12) (fd 12) ["value"] c_deed_fault) :
    FnD P w K mg base 5 (ad 13) (fd 13) ["value"] (m_is_deed c_deed_fault) :=
  have nd := sc_is_deed.nd
FnD.of T.F_is_deed sc_is_deed fun cdv hcd A outer s H E hr gd tk hp => s_one (s_ret (d_is (d_call G_deed_fault (hr.mono (by decide)) gd tk T.g_deed_fault T.F_deed_fault.kp T.b_deed_fault (a_cons (d_var
    0) (a_nil))) (d_non)))
noncomputable def m_need_deed (c_deed_fault : List D → AH → Res D) : List D → AH → Res D := mFun 2 (mSeq (mSet 1 (mCallF 1 c_deed_fault (mCons (mVar 0) (mNil)))) (mIfS (mTst (mOp (fIsN true) (mVar 1)
    (mK .non))) (mRaise "InvalidDeed" "at" (mVar 1)) (mNext)))
theorem w_need_deed {P : Program} {w : World} {K : PySem.W.Frag} {mg : Str → Option Value} {base : Heap} {ad : Nat → Addr} {fd : Nat → FuncData} {tb : Nat → Addr × Addr} (T : Tx P w K mg ad fd tb)
    {c_deed_fault : List D → AH → Res D} (G_deed_fault : FnD P w K mg base 4 (ad 12) (fd 12) ["value"] c_deed_fault) :
    FnD P w K mg base 5 (ad 14) (fd 14) ["value"] (m_need_deed c_deed_fault) :=
  have nd := sc_need_deed.nd
FnD.of T.F_need_deed sc_need_deed fun cdv hcd A outer s H E hr gd tk hp => s_cons (s_set (i := 1) nd (d_call G_deed_fault (hr.mono (by decide)) gd tk T.g_deed_fault T.F_deed_fault.kp T.b_deed_fault
    (a_cons (d_var 0) (a_nil)))) (s_one (s_if (t_isnt (d_var 1) (d_non)) (s_one (s_raise rfl tk T.E_InvalidDeed (hr.mono (by decide)) T.g_InvalidDeed T.K_InvalidDeed.nm T.K_InvalidDeed.kp
    T.K_InvalidDeed.ec.hs T.K_InvalidDeed.ty T.z_super (d_var 1))) (s_nil)))
noncomputable def m_need_batch (c_is_sequence : List D → AH → Res D) (c_is_deed : List D → AH → Res D) : List D → AH → Res D := mFun 3 (mSeq (mIfS (mNot (mTst (mCallF 1 c_is_sequence (mCons (mVar 0)
    (mNil))))) (mRaise "InvalidDeed" "at" (mNeg (mK (.int 1)))) (mNext)) (mFor (mEnX (mCons (mVar 0) (mNil))) (.tp [.nm 1, .nm 2]) (mIfS (mNot (mTst (mCallF 1 c_is_deed (mCons (mVar 2) (mNil)))))
    (mRaise "InvalidDeed" "at" (mVar 1)) (mNext))))
theorem w_need_batch {P : Program} {w : World} {K : PySem.W.Frag} {mg : Str → Option Value} {base : Heap} {ad : Nat → Addr} {fd : Nat → FuncData} {tb : Nat → Addr × Addr} (T : Tx P w K mg ad fd tb)
    {c_is_sequence : List D → AH → Res D} (G_is_sequence : FnD P w K mg base 1 (ad 1) (fd 1) ["value"] c_is_sequence) {c_is_deed : List D → AH → Res D} (G_is_deed : FnD P w K mg base 5 (ad 13) (fd 13)
    ["value"] c_is_deed) :
    FnD P w K mg base 6 (ad 15) (fd 15) ["value"] (m_need_batch c_is_sequence c_is_deed) :=
  have nd := sc_need_batch.nd
FnD.of T.F_need_batch sc_need_batch fun cdv hcd A outer s H E hr gd tk hp => s_cons (s_if (t_not (t_val (d_call G_is_sequence (hr.mono (by decide)) gd tk T.g_is_sequence T.F_is_sequence.kp
    T.b_is_sequence (a_cons (d_var 0) (a_nil))))) (s_one (s_raise rfl tk T.E_InvalidDeed (hr.mono (by decide)) T.g_InvalidDeed T.K_InvalidDeed.nm T.K_InvalidDeed.kp T.K_InvalidDeed.ec.hs
    T.K_InvalidDeed.ty T.z_super (d_neg (d_int)))) (s_nil)) (s_one (s_for hp rfl (i_enX T.z_enumerate (a_cons (d_var 0) (a_nil))) (tg_tp (ts := [.nm 1, .nm 2]) rfl (tgs_cons (tg_nm (i := 1) nd)
    (tgs_cons (tg_nm (i := 2) nd) (tgs_nil)))) (s_one (s_if (t_not (t_val (d_call G_is_deed (hr.mono (by decide)) gd tk T.g_is_deed T.F_is_deed.kp T.b_is_deed (a_cons (d_var 2) (a_nil))))) (s_one
    (s_raise rfl tk T.E_InvalidDeed (hr.mono (by decide)) T.g_InvalidDeed T.K_InvalidDeed.nm T.K_InvalidDeed.kp T.K_InvalidDeed.ec.hs T.K_InvalidDeed.ty T.z_super (d_var 1))) (s_nil)))))
noncomputable def m__law_source : List D → AH → Res D := mFun 5 (mSeq (mSet 2 (mLc false (mSq (mSl (mVar 0) (mNone) (mSome (mK (.int 63))))) (.nm 4) (mYes) (mCall fAbs (mCons (mCall fInt (mCons (mVar
    4) (mNil))) (mNil))) [4])) (mSeq (mSet 3 (mOp fAdd (mK (.int 1013)) (mOp fMulA (mK (.int 7919)) (mVar 1)))) (mSeq (mFor (mSq (mVar 2)) (.nm 4) (mSet 3 (mOp fMod (mCall fInt (mCons (mOp fAdd (mOp
    fAdd (mOp fMulA (mVar 3) (mK (.int 48271))) (mOp fMod (mVar 4) (mK (.int 2147483549)))) (mK (.int 29))) (mNil))) (mK (.int 2147483647))))) (mRet (mNew (mCons (mRev true (mLc false (mSq (mVar 2))
    (.nm 4) (mTst (mOp fGe (mVar 4) (mOp fPow (mK (.int 10)) (mK (.int 18))))) (mVar 4) [4])) (mCons (mVar 3) (mNil))))))))
theorem w__law_source {P : Program} {w : World} {K : PySem.W.Frag} {mg : Str → Option Value} {base : Heap} {ad : Nat → Addr} {fd : Nat → FuncData} {tb : Nat → Addr × Addr} (T : Tx P w K mg ad fd tb) :
    FnD P w K mg base 1 (ad 16) (fd 16) ["_law_script", "_law_salt"] (m__law_source) :=
  have nd := sc__law_source.nd
FnD.of T.F__law_source sc__law_source fun cdv hcd A outer s H E hr gd tk hp => s_cons (s_setLc (i := 2) (t := .nm 4) false [("_law_cell", 4)] rfl nd rfl rfl (sw_true rfl rfl rfl (by decide +kernel))
    (i_sq (d_sl (d_var 0) (o_none) (o_some (d_int)))) (blkOk_by (N := nm__law_source) (sc := defScope x__law_source) (by decide +kernel)) (fun _ _ _ _ _ => tg_nm (i := 4) nd) (fun _ _ _ _ _ => l_nil)
    (fun _ _ _ _ _ => d_abs T.z_abs (a_cons (d_intf T.z_int (a_cons (d_var 4) (a_nil))) (a_nil))) (sl := [4]) (by decide)) (s_cons (s_set (i := 3) nd (d_add (d_int) (d_mulA (d_int) (d_var 1)))) (s_cons
    (s_for hp rfl (i_sq (d_var 2)) (tg_nm (i := 4) nd) (s_one (s_set (i := 3) nd (d_mod (d_intf T.z_int (a_cons (d_add (d_add (d_mulA (d_var 3) (d_int)) (d_mod (d_var 4) (d_int))) (d_int)) (a_nil)))
    (d_int))))) (s_one (s_ret (d_new (a_cons (d_rev true (d_lc (t := .nm 4) false [("_law_cell", 4)] rfl nd (i_sq (d_var 2)) (blkOk_by (N := nm__law_source) (sc := defScope x__law_source)
    (by decide +kernel)) (fun _ _ _ _ _ => tg_nm (i := 4) nd) (fun _ _ _ _ _ => l_one (t_ge (d_var 4) (d_pow (d_int) (d_int)))) (fun _ _ _ _ _ => d_var 4) (sl := [4]) (by decide))) (a_cons (d_var 3)
    (a_nil))))))))
noncomputable def m__law_any : List D → AH → Res D := mFun 3 (mSeq (mWhile (mAnd (mTst (mOp (fEq true) (mOp fIx (mVar 0) (mK (.int 0))) (mLst (mNil)))) (mTst (mOp (fEq false) (mOp fIx (mOp fIx (mVar 0)
    (mK (.int 0))) (mNeg (mK (.int 1)))) (mK (.int 0))))) (mDrop (mPop (mOp fIx (mVar 0) (mK (.int 0)))))) (mSeq (mIfS (mTst (mOp (fEq true) (mOp fIx (mVar 0) (mK (.int 0))) (mLst (mNil)))) (mSeq (mSet
    2 (mCall fInt (mCons (mPop (mOp fIx (mVar 0) (mK (.int 0)))) (mNil)))) (mSeq (mDrop (mMet fApp (mOp fIx (mVar 0) (mK (.int 0))) (mCons (mOp fDiv (mVar 2) (mVar 1)) (mNil)))) (mRet (mOp fMod (mVar
    2) (mVar 1))))) (mNext)) (mSeq (mSto (mOp fMod (mCall fInt (mCons (mOp fAdd (mOp fMulA (mOp fIx (mVar 0) (mK (.int 1))) (mK (.int 48271))) (mK (.int 29))) (mNil))) (mK (.int 2147483647))) (mVar 0)
    (mK (.int 1))) (mRet (mOp fMod (mCall fInt (mCons (mOp fDiv (mOp fIx (mVar 0) (mK (.int 1))) (mK (.int 64))) (mNil))) (mVar 1))))))
theorem w__law_any {P : Program} {w : World} {K : PySem.W.Frag} {mg : Str → Option Value} {base : Heap} {ad : Nat → Addr} {fd : Nat → FuncData} {tb : Nat → Addr × Addr} (T : Tx P w K mg ad fd tb) :
    FnD P w K mg base 1 (ad 17) (fd 17) ["_law_deal", "_law_bound"] (m__law_any) :=
  have nd := sc__law_any.nd
FnD.of T.F__law_any sc__law_any fun cdv hcd A outer s H E hr gd tk hp => s_cons (s_while hp (PW.pt (w_and (t_ne hr.units (d_ix (d_var 0) (d_int)) (d_lst (a_nil))) (w_and1 (t_eq hr.units (d_ix (d_ix
    (d_var 0) (d_int)) (d_neg (d_int))) (d_int))))) (s_one (s_expr (d_pop (d_ix (d_var 0) (d_int)))))) (s_cons (s_if (t_ne hr.units (d_ix (d_var 0) (d_int)) (d_lst (a_nil))) (s_cons (s_set (i := 2) nd
    (d_intf T.z_int (a_cons (d_pop (d_ix (d_var 0) (d_int))) (a_nil)))) (s_cons (s_expr (d_app (d_ix (d_var 0) (d_int)) (a_cons (d_div (d_var 2) (d_var 1)) (a_nil)))) (s_one (s_ret (d_mod (d_var 2)
    (d_var 1)))))) (s_nil)) (s_cons (s_setI (d_mod (d_intf T.z_int (a_cons (d_add (d_mulA (d_ix (d_var 0) (d_int)) (d_int)) (d_int)) (a_nil))) (d_int)) (pg_sub (d_var 0) (d_int) set_list)) (s_one
    (s_ret (d_mod (d_intf T.z_int (a_cons (d_div (d_ix (d_var 0) (d_int)) (d_int)) (a_nil))) (d_var 1))))))
noncomputable def m__law_of (c__law_any : List D → AH → Res D) : List D → AH → Res D := mFun 2 (mRet (mOp fIx (mVar 1) (mCallF 2 c__law_any (mCons (mVar 0) (mCons (mCall fLen (mCons (mVar 1) (mNil)))
    (mNil))))))
theorem w__law_of {P : Program} {w : World} {K : PySem.W.Frag} {mg : Str → Option Value} {base : Heap} {ad : Nat → Addr} {fd : Nat → FuncData} {tb : Nat → Addr × Addr} (T : Tx P w K mg ad fd tb)
    {c__law_any : List D → AH → Res D} (G__law_any : FnD P w K mg base 1 (ad 17) (fd 17) ["_law_deal", "_law_bound"] c__law_any) :
    FnD P w K mg base 2 (ad 18) (fd 18) ["_law_deal", "_law_some"] (m__law_of c__law_any) :=
  have nd := sc__law_of.nd
FnD.of T.F__law_of sc__law_of fun cdv hcd A outer s H E hr gd tk hp => s_one (s_ret (d_ix (d_var 1) (d_call G__law_any (hr.mono (by decide)) gd tk T.g__law_any T.F__law_any.kp T.b__law_any (a_cons
    (d_var 0) (a_cons (d_len T.z_len (a_cons (d_var 1) (a_nil))) (a_nil))))))
noncomputable def m__law_names (c__law_of : List D → AH → Res D) (c__law_any : List D → AH → Res D) : List D → AH → Res D := mFun 7 (mSeq (mSet 2 (mK (.str "abcdefghijklmnopqrstuvwxyz0123456789")))
    (mSeq (mSet 3 (mLc false (mR1 (mCons (mOp fAdd (mK (.int 1)) (mCallF 2 c__law_of (mCons (mVar 0) (mCons (mLst (mCons (mK (.int 0)) (mCons (mK (.int 0)) (mCons (mK (.int 1)) (mCons (mK (.int 3))
    (mNil)))))) (mNil))))) (mNil))) (.nm 6) (mYes) (mCallF 2 c__law_of (mCons (mVar 0) (mCons (mVar 2) (mNil)))) [6])) (mSeq (mAsg (.tp [.nm 4, .nm 5]) (mTup (mCons (mCallF 2 c__law_any (mCons (mVar 0)
    (mCons (mCall fLen (mCons (mVar 3) (mNil))) (mNil)))) (mCons (mCallF 2 c__law_any (mCons (mVar 0) (mCons (mK (.int 36)) (mNil)))) (mNil))))) (mRet (mLc false (mR1 (mCons (mVar 1) (mNil))) (.nm 6)
    (mYes) (mJoin (mK (.str "")) (mOp fAdd (mOp fAdd (mSl (mVar 3) (mNone) (mSome (mVar 4))) (mLst (mCons (mOp fIx (mVar 2) (mOp fMod (mCall fInt (mCons (mOp fAdd (mVar 5) (mOp fMulA (mK (.int 5))
    (mVar 6))) (mNil))) (mK (.int 36)))) (mNil)))) (mSl (mVar 3) (mSome (mOp fAdd (mVar 4) (mK (.int 1)))) (mNone)))) [6])))))
theorem w__law_names {P : Program} {w : World} {K : PySem.W.Frag} {mg : Str → Option Value} {base : Heap} {ad : Nat → Addr} {fd : Nat → FuncData} {tb : Nat → Addr × Addr} (T : Tx P w K mg ad fd tb)
    {c__law_of : List D → AH → Res D} (G__law_of : FnD P w K mg base 2 (ad 18) (fd 18) ["_law_deal", "_law_some"] c__law_of) {c__law_any : List D → AH → Res D} (G__law_any : FnD P w K mg base 1 (ad 17)
    (fd 17) ["_law_deal", "_law_bound"] c__law_any) :
    FnD P w K mg base 3 (ad 19) (fd 19) ["_law_deal", "_law_many"] (m__law_names c__law_of c__law_any) :=
  have nd := sc__law_names.nd
FnD.of T.F__law_names sc__law_names fun cdv hcd A outer s H E hr gd tk hp => s_cons (s_set (i := 2) nd (d_str)) (s_cons (s_set (i := 3) nd (d_lc (t := .nm 6) false [("_law_turn", 6)] rfl nd (i_r1
    T.z_range (a_cons (d_add (d_int) (d_call G__law_of (hr.mono (by decide)) gd tk T.g__law_of T.F__law_of.kp T.b__law_of (a_cons (d_var 0) (a_cons (d_lst (a_cons (d_int) (a_cons (d_int) (a_cons
    (d_int) (a_cons (d_int) (a_nil)))))) (a_nil))))) (a_nil))) (blkOk_by (N := nm__law_names) (sc := defScope x__law_names) (by decide +kernel)) (fun _ _ _ _ _ => tg_nm (i := 6) nd) (fun _ _ _ _ _ =>
    l_nil) (fun _ _ _ _ _ => d_call G__law_of (hr.mono (by decide)) gd takes0 T.g__law_of T.F__law_of.kp T.b__law_of (a_cons (d_var 0) (a_cons (d_var 2) (a_nil)))) (sl := [6]) (by decide))) (s_cons
    (s_asg (t := .tp [.nm 4, .nm 5]) (d_tup (a_cons (d_call G__law_any (hr.mono (by decide)) gd tk T.g__law_any T.F__law_any.kp T.b__law_any (a_cons (d_var 0) (a_cons (d_len T.z_len (a_cons (d_var 3)
    (a_nil))) (a_nil)))) (a_cons (d_call G__law_any (hr.mono (by decide)) gd tk T.g__law_any T.F__law_any.kp T.b__law_any (a_cons (d_var 0) (a_cons (d_int) (a_nil)))) (a_nil)))) (tg_tp (ts := [.nm 4,
    .nm 5]) rfl (tgs_cons (tg_nm (i := 4) nd) (tgs_cons (tg_nm (i := 5) nd) (tgs_nil))))) (s_one (s_ret (d_lc (t := .nm 6) false [("_law_turn", 6)] rfl nd (i_r1 T.z_range (a_cons (d_var 1) (a_nil)))
    (blkOk_by (N := nm__law_names) (sc := defScope x__law_names) (by decide +kernel)) (fun _ _ _ _ _ => tg_nm (i := 6) nd) (fun _ _ _ _ _ => l_nil) (fun _ _ _ _ _ => d_join (d_str) (d_add (d_add (d_sl
    (d_var 3) (o_none) (o_some (d_var 4))) (d_lst (a_cons (d_ix (d_var 2) (d_mod (d_intf T.z_int (a_cons (d_add (d_var 5) (d_mulA (d_int) (d_var 6))) (a_nil))) (d_int))) (a_nil)))) (d_sl (d_var 3)
    (o_some (d_add (d_var 4) (d_int))) (o_none)))) (sl := [6]) (by decide))))))
noncomputable def m__law_price (c__law_of : List D → AH → Res D) (c__law_any : List D → AH → Res D) : List D → AH → Res D := mFun 1 (mRet (mCallF 2 c__law_of (mCons (mVar 0) (mCons (mLst (mCons (mK
    (.int 0)) (mCons (mK (.int 1)) (mCons (mK (.int 1)) (mCons (mK (.int 2)) (mCons (mOp fPow (mK (.int 10)) (mK (.int 6))) (mCons (mCallF 2 c__law_any (mCons (mVar 0) (mCons (mOp fAdd (mOp fPow (mK
    (.int 10)) (mK (.int 6))) (mK (.int 1))) (mNil)))) (mNil)))))))) (mNil)))))
theorem w__law_price {P : Program} {w : World} {K : PySem.W.Frag} {mg : Str → Option Value} {base : Heap} {ad : Nat → Addr} {fd : Nat → FuncData} {tb : Nat → Addr × Addr} (T : Tx P w K mg ad fd tb)
    {c__law_of : List D → AH → Res D} (G__law_of : FnD P w K mg base 2 (ad 18) (fd 18) ["_law_deal", "_law_some"] c__law_of) {c__law_any : List D → AH → Res D} (G__law_any : FnD P w K mg base 1 (ad 17)
    (fd 17) ["_law_deal", "_law_bound"] c__law_any) :
    FnD P w K mg base 3 (ad 20) (fd 20) ["_law_deal"] (m__law_price c__law_of c__law_any) :=
  have nd := sc__law_price.nd
FnD.of T.F__law_price sc__law_price fun cdv hcd A outer s H E hr gd tk hp => s_one (s_ret (d_call G__law_of (hr.mono (by decide)) gd tk T.g__law_of T.F__law_of.kp T.b__law_of (a_cons (d_var 0) (a_cons
    (d_lst (a_cons (d_int) (a_cons (d_int) (a_cons (d_int) (a_cons (d_int) (a_cons (d_pow (d_int) (d_int)) (a_cons (d_call G__law_any (hr.mono (by decide)) gd tk T.g__law_any T.F__law_any.kp
    T.b__law_any (a_cons (d_var 0) (a_cons (d_add (d_pow (d_int) (d_int)) (d_int)) (a_nil)))) (a_nil)))))))) (a_nil)))))
noncomputable def m__law_deed (c__law_any : List D → AH → Res D) (c__law_of : List D → AH → Res D) (c__law_price : List D → AH → Res D) : List D → AH → Res D := mFun 5 (mSeq (mSet 3 (mCallF 2
    c__law_any (mCons (mVar 0) (mCons (mK (.int 10)) (mNil))))) (mSeq (mIfS (mTst (mOp fLt (mVar 3) (mK (.int 2)))) (mRet (mTup (mCons (mCallF 2 c__law_of (mCons (mVar 0) (mCons (mLst (mCons (mK (.str
    "node")) (mCons (mK (.str "drop")) (mNil)))) (mNil)))) (mCons (mCallF 2 c__law_of (mCons (mVar 0) (mCons (mVar 1) (mNil)))) (mNil))))) (mNext)) (mSeq (mSet 4 (mTup (mCons (mCallF 2 c__law_of (mCons
    (mVar 0) (mCons (mVar 1) (mNil)))) (mCons (mCallF 2 c__law_of (mCons (mVar 0) (mCons (mVar 2) (mNil)))) (mCons (mCallF 2 c__law_of (mCons (mVar 0) (mCons (mVar 1) (mNil)))) (mNil)))))) (mRet (mIf
    (mTst (mOp (fEq false) (mVar 3) (mK (.int 2)))) (mTup (mCons (mK (.str "cut")) (mCons (mVar 4) (mNil)))) (mTup (mCons (mK (.str "line")) (mCons (mVar 4) (mCons (mCallF 1 c__law_price (mCons (mVar
    0) (mNil))) (mNil))))))))))
theorem w__law_deed {P : Program} {w : World} {K : PySem.W.Frag} {mg : Str → Option Value} {base : Heap} {ad : Nat → Addr} {fd : Nat → FuncData} {tb : Nat → Addr × Addr} (T : Tx P w K mg ad fd tb)
    {c__law_any : List D → AH → Res D} (G__law_any : FnD P w K mg base 1 (ad 17) (fd 17) ["_law_deal", "_law_bound"] c__law_any) {c__law_of : List D → AH → Res D} (G__law_of : FnD P w K mg base 2 (ad
    18) (fd 18) ["_law_deal", "_law_some"] c__law_of) {c__law_price : List D → AH → Res D} (G__law_price : FnD P w K mg base 3 (ad 20) (fd 20) ["_law_deal"] c__law_price) :
    FnD P w K mg base 4 (ad 21) (fd 21) ["_law_deal", "_law_names_here", "_law_kinds"] (m__law_deed c__law_any c__law_of c__law_price) :=
  have nd := sc__law_deed.nd
FnD.of T.F__law_deed sc__law_deed fun cdv hcd A outer s H E hr gd tk hp => s_cons (s_set (i := 3) nd (d_call G__law_any (hr.mono (by decide)) gd tk T.g__law_any T.F__law_any.kp T.b__law_any (a_cons
    (d_var 0) (a_cons (d_int) (a_nil))))) (s_cons (s_if (t_lt (d_var 3) (d_int)) (s_one (s_ret (d_tup (a_cons (d_call G__law_of (hr.mono (by decide)) gd tk T.g__law_of T.F__law_of.kp T.b__law_of
    (a_cons (d_var 0) (a_cons (d_lst (a_cons (d_str) (a_cons (d_str) (a_nil)))) (a_nil)))) (a_cons (d_call G__law_of (hr.mono (by decide)) gd tk T.g__law_of T.F__law_of.kp T.b__law_of (a_cons (d_var 0)
    (a_cons (d_var 1) (a_nil)))) (a_nil)))))) (s_nil)) (s_cons (s_set (i := 4) nd (d_tup (a_cons (d_call G__law_of (hr.mono (by decide)) gd tk T.g__law_of T.F__law_of.kp T.b__law_of (a_cons (d_var 0)
    (a_cons (d_var 1) (a_nil)))) (a_cons (d_call G__law_of (hr.mono (by decide)) gd tk T.g__law_of T.F__law_of.kp T.b__law_of (a_cons (d_var 0) (a_cons (d_var 2) (a_nil)))) (a_cons (d_call G__law_of
    (hr.mono (by decide)) gd tk T.g__law_of T.F__law_of.kp T.b__law_of (a_cons (d_var 0) (a_cons (d_var 1) (a_nil)))) (a_nil)))))) (s_one (s_ret (d_if (t_eq hr.units (d_var 3) (d_int)) (d_tup (a_cons
    (d_str) (a_cons (d_var 4) (a_nil)))) (d_tup (a_cons (d_str) (a_cons (d_var 4) (a_cons (d_call G__law_price (hr.mono (by decide)) gd tk T.g__law_price T.F__law_price.kp T.b__law_price (a_cons (d_var
    0) (a_nil))) (a_nil))))))))))
noncomputable def m__law_do : List D → AH → Res D := mFun 7 (mSeq (mPar2 3 4 (mCons (mOp fIx (mVar 2) (mK (.int 0))) (mCons (mOp fIx (mVar 2) (mK (.int 1))) (mNil)))) (mIfS (mTst (mOp (fEq false) (mVar
    3) (mK (.str "drop")))) (mSeq (mFor (mSq (mCall fListT (mCons (mVar 1) (mNil)))) (.nm 5) (mIfS (mOr (mTst (mOp (fEq false) (mOp fIx (mVar 5) (mK (.int 0))) (mVar 4))) (mTst (mOp (fEq false) (mOp
    fIx (mVar 5) (mK (.int 2))) (mVar 4)))) (mDrop (mPop1T (mVar 1) (mVar 5))) (mNext))) (mIfS (mTst (mOp (fInD false) (mVar 4) (mVar 0))) (mDrop (mMet fRemS (mVar 0) (mCons (mVar 4) (mNil))))
    (mNext))) (mIfS (mTst (mOp (fEq false) (mVar 3) (mK (.str "cut")))) (mIfS (mTst (mOp (fInW false) (mVar 4) (mVar 1))) (mDrop (mPop1T (mVar 1) (mVar 4))) (mNext)) (mSeq (mFor (mSq (mIf (mTst (mOp
    (fEq false) (mVar 3) (mK (.str "node")))) (mLst (mCons (mVar 4) (mNil))) (mLst (mCons (mOp fIx (mVar 4) (mK (.int 0))) (mCons (mOp fIx (mVar 4) (mK (.int 2))) (mNil)))))) (.nm 6) (mIfS (mTst (mOp
    (fInD true) (mVar 6) (mVar 0))) (mDrop (mMet fApp (mVar 0) (mCons (mVar 6) (mNil)))) (mNext))) (mIfS (mTst (mOp (fEq false) (mVar 3) (mK (.str "line")))) (mPutT (mOp fIx (mVar 2) (mK (.int 2)))
    (mVar 1) (mVar 4)) (mNext))))))
theorem w__law_do {P : Program} {w : World} {K : PySem.W.Frag} {mg : Str → Option Value} {base : Heap} {ad : Nat → Addr} {fd : Nat → FuncData} {tb : Nat → Addr × Addr} (T : Tx P w K mg ad fd tb) :
    FnD P w K mg base 1 (ad 22) (fd 22) ["_law_nodes", "_law_prices", "_law_deed_here"] (m__law_do) :=
  have nd := sc__law_do.nd
FnD.of T.F__law_do sc__law_do fun cdv hcd A outer s H E hr gd tk hp => s_cons (s_par2 (i := 3) (j := 4) rfl nd rfl rfl (by decide) rfl rfl (a_cons (d_ix (d_var 2) (d_int)) (a_cons (d_ix (d_var 2)
    (d_int)) (a_nil))) (by rfl)) (s_one (s_if (t_eq hr.units (d_var 3) (d_str)) (s_cons (s_for hp rfl (i_sq (d_listT T.hpw rfl T.z_list (a_cons (d_var 1) (a_nil)))) (tg_nm (i := 5) nd) (s_one (s_if
    (PW.pt (w_or (t_eq hr.units (d_ix (d_var 5) (d_int)) (d_var 4)) (w_or1 (t_eq hr.units (d_ix (d_var 5) (d_int)) (d_var 4))))) (s_one (s_expr (d_pop1T T.hpw (units64 hr) (d_var 1) (d_var 5) ⟨by rfl,
    by rfl, by rfl, by rfl⟩))) (s_nil)))) (s_one (s_if (t_inD (units65 hr) (d_var 4) (d_var 0)) (s_one (s_expr (d_remS (d_var 0) (a_cons (d_var 4) (a_nil))))) (s_nil)))) (s_one (s_if (t_eq hr.units
    (d_var 3) (d_str)) (s_one (s_if (t_inW T.hpw (units64 hr) (d_var 4) (d_var 1)) (s_one (s_expr (d_pop1T T.hpw (units64 hr) (d_var 1) (d_var 4) ⟨by rfl, by rfl, by rfl, by rfl⟩))) (s_nil))) (s_cons
    (s_for hp rfl (i_sq (d_if (t_eq hr.units (d_var 3) (d_str)) (d_lst (a_cons (d_var 4) (a_nil))) (d_lst (a_cons (d_ix (d_var 4) (d_int)) (a_cons (d_ix (d_var 4) (d_int)) (a_nil)))))) (tg_nm (i := 6)
    nd) (s_one (s_if (t_ninD (units65 hr) (d_var 6) (d_var 0)) (s_one (s_expr (d_app (d_var 0) (a_cons (d_var 6) (a_nil))))) (s_nil)))) (s_one (s_if (t_eq hr.units (d_var 3) (d_str)) (s_one (s_putT
    T.hpw (units64 hr) (d_var 1) (d_var 4) (d_ix (d_var 2) (d_int)))) (s_nil))))))))
noncomputable def m__law_graph : List D → AH → Res D := mFun 3 (mRet (mTup (mCons (mCall fTup (mCons (mCall fSortS (mCons (mVar 0) (mNil))) (mNil))) (mCons (mCall fTup (mCons (mLc false (mSq (mCall
    fSortTD (mCons (mVar 1) (mNil)))) (.nm 2) (mYes) (mTup (mCons (mVar 2) (mCons (mOp fGetT (mVar 1) (mVar 2)) (mNil)))) [2]) (mNil))) (mNil)))))
theorem w__law_graph {P : Program} {w : World} {K : PySem.W.Frag} {mg : Str → Option Value} {base : Heap} {ad : Nat → Addr} {fd : Nat → FuncData} {tb : Nat → Addr × Addr} (T : Tx P w K mg ad fd tb) :
    FnD P w K mg base 1 (ad 23) (fd 23) ["_law_nodes", "_law_prices"] (m__law_graph) :=
  have nd := sc__law_graph.nd
FnD.of T.F__law_graph sc__law_graph fun cdv hcd A outer s H E hr gd tk hp => s_one (s_ret (d_tup (a_cons (d_tuple T.z_tuple (a_cons (d_sortS T.z_sorted (a_cons (d_var 0) (a_nil))) (a_nil))) (a_cons
    (d_tuple T.z_tuple (a_cons (d_lc (t := .nm 2) false [("_law_line", 2)] rfl nd (i_sq (d_sortTD T.hpw rfl (units64 hr) T.z_sorted (a_cons (d_var 1) (a_nil)))) (blkOk_by (N := nm__law_graph) (sc :=
    defScope x__law_graph) (by decide +kernel)) (fun _ _ _ _ _ => tg_nm (i := 2) nd) (fun _ _ _ _ _ => l_nil) (fun _ _ _ _ _ => d_tup (a_cons (d_var 2) (a_cons (d_getT T.hpw (units64 hr) (d_var 1)
    (d_var 2)) (a_nil)))) (sl := [2]) (by decide)) (a_nil))) (a_nil)))))
noncomputable def m__law_drawn (c__law_do : List D → AH → Res D) (c__law_deed : List D → AH → Res D) : List D → AH → Res D := mFun 7 (mSeq (mPar2 4 5 (mCons (mNew (mNil)) (mCons (mDict0T) (mNil))))
    (mSeq (mFor (mR1 (mCons (mVar 3) (mNil))) (.nm 6) (mDrop (mCallF 3 c__law_do (mCons (mVar 4) (mCons (mVar 5) (mCons (mCallF 3 c__law_deed (mCons (mVar 0) (mCons (mVar 1) (mCons (mVar 2) (mNil)))))
    (mNil))))))) (mRet (mTup (mCons (mVar 4) (mCons (mVar 5) (mNil)))))))
theorem w__law_drawn {P : Program} {w : World} {K : PySem.W.Frag} {mg : Str → Option Value} {base : Heap} {ad : Nat → Addr} {fd : Nat → FuncData} {tb : Nat → Addr × Addr} (T : Tx P w K mg ad fd tb)
    {c__law_do : List D → AH → Res D} (G__law_do : FnD P w K mg base 1 (ad 22) (fd 22) ["_law_nodes", "_law_prices", "_law_deed_here"] c__law_do) {c__law_deed : List D → AH → Res D} (G__law_deed : FnD
    P w K mg base 4 (ad 21) (fd 21) ["_law_deal", "_law_names_here", "_law_kinds"] c__law_deed) :
    FnD P w K mg base 5 (ad 24) (fd 24) ["_law_deal", "_law_names_here", "_law_kinds", "_law_many"] (m__law_drawn c__law_do c__law_deed) :=
  have nd := sc__law_drawn.nd
FnD.of T.F__law_drawn sc__law_drawn fun cdv hcd A outer s H E hr gd tk hp => s_cons (s_par2 (i := 4) (j := 5) rfl nd rfl rfl (by decide) rfl rfl (a_cons (d_new (a_nil)) (a_cons (d_dict0T T.hpw)
    (a_nil))) (by rfl)) (s_cons (s_for hp rfl (i_r1 T.z_range (a_cons (d_var 3) (a_nil))) (tg_nm (i := 6) nd) (s_one (s_expr (d_call G__law_do (hr.mono (by decide)) gd tk T.g__law_do T.F__law_do.kp
    T.b__law_do (a_cons (d_var 4) (a_cons (d_var 5) (a_cons (d_call G__law_deed (hr.mono (by decide)) gd tk T.g__law_deed T.F__law_deed.kp T.b__law_deed (a_cons (d_var 0) (a_cons (d_var 1) (a_cons
    (d_var 2) (a_nil))))) (a_nil)))))))) (s_one (s_ret (d_tup (a_cons (d_var 4) (a_cons (d_var 5) (a_nil)))))))
noncomputable def m__law_bad (c__law_of : List D → AH → Res D) : List D → AH → Res D := mFun 2 (mRet (mCallF 2 c__law_of (mCons (mVar 0) (mCons (mLst (mCons (mK (.str "")) (mCons (mOp fAdd (mVar 1) (mK
    (.str "_"))) (mCons (mOp fAdd (mUp (mVar 1)) (mK (.str "A"))) (mCons (mOp fAdd (mVar 1) (mK (.str "abcd"))) (mCons (mOp fAdd (mK (.str " ")) (mVar 1)) (mCons (mK .non) (mCons (mK (.int 5)) (mCons
    (mK (.bl true)) (mCons (mTup (mCons (mVar 1) (mNil))) (mCons (mLst (mCons (mVar 1) (mNil))) (mCons (mK (.str "a\n")) (mNil))))))))))))) (mNil)))))
theorem w__law_bad {P : Program} {w : World} {K : PySem.W.Frag} {mg : Str → Option Value} {base : Heap} {ad : Nat → Addr} {fd : Nat → FuncData} {tb : Nat → Addr × Addr} (T : Tx P w K mg ad fd tb)
    {c__law_of : List D → AH → Res D} (G__law_of : FnD P w K mg base 2 (ad 18) (fd 18) ["_law_deal", "_law_some"] c__law_of) :
    FnD P w K mg base 3 (ad 25) (fd 25) ["_law_deal", "_law_node"] (m__law_bad c__law_of) :=
  have nd := sc__law_bad.nd
FnD.of T.F__law_bad sc__law_bad fun cdv hcd A outer s H E hr gd tk hp => s_one (s_ret (d_call G__law_of (hr.mono (by decide)) gd tk T.g__law_of T.F__law_of.kp T.b__law_of (a_cons (d_var 0) (a_cons
    (d_lst (a_cons (d_str) (a_cons (d_add (d_var 1) (d_str)) (a_cons (d_add (d_up (d_var 1)) (d_str)) (a_cons (d_add (d_var 1) (d_str)) (a_cons (d_add (d_str) (d_var 1)) (a_cons (d_non) (a_cons (d_int)
    (a_cons (d_bl) (a_cons (d_tup (a_cons (d_var 1) (a_nil))) (a_cons (d_lst (a_cons (d_var 1) (a_nil))) (a_cons (d_str) (a_nil))))))))))))) (a_nil)))))
noncomputable def m__law_bad_line (c__law_any : List D → AH → Res D) (c__law_of : List D → AH → Res D) (c__law_bad : List D → AH → Res D) : List D → AH → Res D := mFun 4 (mSeq (mIfS (mTst (mOp (fEq
    false) (mCallF 2 c__law_any (mCons (mVar 0) (mCons (mK (.int 3)) (mNil)))) (mK (.int 0)))) (mRet (mTup (mCons (mCallF 2 c__law_of (mCons (mVar 0) (mCons (mLst (mCons (mK .non) (mCons (mCall fList
    (mCons (mVar 1) (mNil))) (mCons (mSl (mVar 1) (mNone) (mSome (mK (.int 2)))) (mCons (mOp fAdd (mVar 1) (mTup (mCons (mOp fIx (mVar 1) (mK (.int 0))) (mNil)))) (mCons (mTup (mNil)) (mCons (mK (.str
    "abc")) (mCons (mK (.int 3)) (mCons (mK (.bl true)) (mNil)))))))))) (mNil)))) (mCons (mOp fSub (mK (.int 0)) (mK (.int 1))) (mNil))))) (mNext)) (mSeq (mSet 2 (mCallF 2 c__law_any (mCons (mVar 0)
    (mCons (mK (.int 3)) (mNil))))) (mSeq (mSet 3 (mCallF 2 c__law_of (mCons (mVar 0) (mCons (mLst (mCons (mSl (mVar 1) (mSome (mOp fAdd (mVar 2) (mK (.int 1)))) (mNone)) (mCons (mOp fMulA (mTup (mCons
    (mK .non) (mNil))) (mOp fSub (mK (.int 2)) (mVar 2))) (mNil)))) (mNil))))) (mRet (mTup (mCons (mOp fAdd (mOp fAdd (mSl (mVar 1) (mNone) (mSome (mVar 2))) (mTup (mCons (mCallF 2 c__law_bad (mCons
    (mVar 0) (mCons (mOp fIx (mVar 1) (mVar 2)) (mNil)))) (mNil)))) (mVar 3)) (mCons (mVar 2) (mNil))))))))
theorem w__law_bad_line {P : Program} {w : World} {K : PySem.W.Frag} {mg : Str → Option Value} {base : Heap} {ad : Nat → Addr} {fd : Nat → FuncData} {tb : Nat → Addr × Addr} (T : Tx P w K mg ad fd tb)
    {c__law_any : List D → AH → Res D} (G__law_any : FnD P w K mg base 1 (ad 17) (fd 17) ["_law_deal", "_law_bound"] c__law_any) {c__law_of : List D → AH → Res D} (G__law_of : FnD P w K mg base 2 (ad
    18) (fd 18) ["_law_deal", "_law_some"] c__law_of) {c__law_bad : List D → AH → Res D} (G__law_bad : FnD P w K mg base 3 (ad 25) (fd 25) ["_law_deal", "_law_node"] c__law_bad) :
    FnD P w K mg base 4 (ad 26) (fd 26) ["_law_deal", "_law_line"] (m__law_bad_line c__law_any c__law_of c__law_bad) :=
  have nd := sc__law_bad_line.nd
FnD.of T.F__law_bad_line sc__law_bad_line fun cdv hcd A outer s H E hr gd tk hp => s_cons (s_if (t_eq hr.units (d_call G__law_any (hr.mono (by decide)) gd tk T.g__law_any T.F__law_any.kp T.b__law_any
    (a_cons (d_var 0) (a_cons (d_int) (a_nil)))) (d_int)) (s_one (s_ret (d_tup (a_cons (d_call G__law_of (hr.mono (by decide)) gd tk T.g__law_of T.F__law_of.kp T.b__law_of (a_cons (d_var 0) (a_cons
    (d_lst (a_cons (d_non) (a_cons (d_list T.z_list (a_cons (d_var 1) (a_nil))) (a_cons (d_sl (d_var 1) (o_none) (o_some (d_int))) (a_cons (d_add (d_var 1) (d_tup (a_cons (d_ix (d_var 1) (d_int))
    (a_nil)))) (a_cons (d_tup (a_nil)) (a_cons (d_str) (a_cons (d_int) (a_cons (d_bl) (a_nil)))))))))) (a_nil)))) (a_cons (d_sub (d_int) (d_int)) (a_nil)))))) (s_nil)) (s_cons (s_set (i := 2) nd
    (d_call G__law_any (hr.mono (by decide)) gd tk T.g__law_any T.F__law_any.kp T.b__law_any (a_cons (d_var 0) (a_cons (d_int) (a_nil))))) (s_cons (s_set (i := 3) nd (d_call G__law_of (hr.mono
    (by decide)) gd tk T.g__law_of T.F__law_of.kp T.b__law_of (a_cons (d_var 0) (a_cons (d_lst (a_cons (d_sl (d_var 1) (o_some (d_add (d_var 2) (d_int))) (o_none)) (a_cons (d_mulA (d_tup (a_cons
    (d_non) (a_nil))) (d_sub (d_int) (d_var 2))) (a_nil)))) (a_nil))))) (s_one (s_ret (d_tup (a_cons (d_add (d_add (d_sl (d_var 1) (o_none) (o_some (d_var 2))) (d_tup (a_cons (d_call G__law_bad
    (hr.mono (by decide)) gd tk T.g__law_bad T.F__law_bad.kp T.b__law_bad (a_cons (d_var 0) (a_cons (d_ix (d_var 1) (d_var 2)) (a_nil)))) (a_nil)))) (d_var 3)) (a_cons (d_var 2) (a_nil))))))))
noncomputable def m__law_bad_graph (c__law_any : List D → AH → Res D) (c__law_of : List D → AH → Res D) (c__law_bad : List D → AH → Res D) (c__law_bad_line : List D → AH → Res D) : List D → AH → Res D
    := mFun 13 (mSeq (mPar2 4 5 (mCons (mCallF 2 c__law_any (mCons (mVar 0) (mCons (mK (.int 6)) (mNil)))) (mCons (mCall fLen (mCons (mVar 1) (mNil))) (mNil)))) (mSeq (mIfS (mOr (mTst (mOp (fEq false)
    (mVar 4) (mK (.int 0)))) (mTst (mOp (fEq false) (mVar 1) (mTup (mNil))))) (mSeq (mSet 11 (mNew (mCons (mK .non) (mCons (mLst (mCons (mVar 1) (mCons (mVar 2) (mNil)))) (mCons (mTup (mCons (mVar 1)
    (mNil))) (mCons (mTup (mCons (mVar 1) (mCons (mVar 2) (mCons (mTup (mNil)) (mNil))))) (mCons (mTup (mCons (mCall fList (mCons (mVar 1) (mNil))) (mCons (mVar 2) (mNil)))) (mCons (mTup (mCons (mVar
    1) (mCons (mCall fList (mCons (mVar 2) (mNil))) (mNil)))) (mCons (mK (.str "")) (mCons (mK (.int 0)) (mNil))))))))))) (mRet (mTup (mCons (mCallF 2 c__law_of (mCons (mVar 0) (mCons (mOp fAddR (mVar
    11) (mLst (mCons (mTup (mCons (mVar 1) (mCons (mK .non) (mNil)))) (mCons (mK (.bl true)) (mNil))))) (mNil)))) (mCons (mOp fSub (mK (.int 0)) (mK (.int 1))) (mNil)))))) (mNext)) (mSeq (mSet 6
    (mCallF 2 c__law_any (mCons (mVar 0) (mCons (mVar 5) (mNil))))) (mSeq (mIfS (mTst (mOp (fEq false) (mVar 4) (mK (.int 1)))) (mSeq (mSet 12 (mCallF 2 c__law_of (mCons (mVar 0) (mCons (mLst (mCons
    (mCallF 2 c__law_bad (mCons (mVar 0) (mCons (mOp fIx (mVar 1) (mVar 6)) (mNil)))) (mCons (mIf (mTst (mOp fGt (mVar 6) (mK (.int 0)))) (mOp fIx (mVar 1) (mOp fSub (mVar 6) (mK (.int 1)))) (mK .non))
    (mNil)))) (mNil))))) (mRet (mTup (mCons (mTup (mCons (mOp fAdd (mOp fAdd (mSl (mVar 1) (mNone) (mSome (mVar 6))) (mTup (mCons (mVar 12) (mNil)))) (mSl (mVar 1) (mSome (mOp fAdd (mVar 6) (mK (.int
    1)))) (mNone))) (mCons (mCallF 2 c__law_of (mCons (mVar 0) (mCons (mLst (mCons (mVar 2) (mCons (mTup (mCons (mK .non) (mNil))) (mNil)))) (mNil)))) (mNil)))) (mCons (mVar 6) (mNil)))))) (mNext))
    (mSeq (mIfS (mAnd (mTst (mOp (fEq false) (mVar 4) (mK (.int 2)))) (mTst (mOp fGt (mVar 6) (mK (.int 0))))) (mRet (mTup (mCons (mTup (mCons (mOp fAdd (mOp fAdd (mSl (mVar 1) (mNone) (mSome (mOp fSub
    (mVar 6) (mK (.int 1))))) (mTup (mCons (mOp fIx (mVar 1) (mVar 6)) (mCons (mOp fIx (mVar 1) (mOp fSub (mVar 6) (mK (.int 1)))) (mNil))))) (mSl (mVar 1) (mSome (mOp fAdd (mVar 6) (mK (.int 1))))
    (mNone))) (mCons (mVar 2) (mNil)))) (mCons (mVar 6) (mNil))))) (mNext)) (mSeq (mSet 7 (mLc false (mR1 (mCons (mCall fLen (mCons (mVar 2) (mNil))) (mNil))) (.nm 8) (mTst (mOp (fInD false) (mOp fIx
    (mVar 1) (mVar 6)) (mTup (mCons (mOp fIx (mOp fIx (mOp fIx (mVar 2) (mVar 8)) (mK (.int 0))) (mK (.int 0))) (mCons (mOp fIx (mOp fIx (mOp fIx (mVar 2) (mVar 8)) (mK (.int 0))) (mK (.int 2)))
    (mNil)))))) (mVar 8) [8])) (mSeq (mIfS (mAnd (mTst (mOp (fEq false) (mVar 4) (mK (.int 3)))) (mTst (mOp (fEq true) (mVar 7) (mLst (mNil))))) (mRet (mTup (mCons (mTup (mCons (mOp fAdd (mSl (mVar 1)
    (mNone) (mSome (mVar 6))) (mSl (mVar 1) (mSome (mOp fAdd (mVar 6) (mK (.int 1)))) (mNone))) (mCons (mVar 2) (mNil)))) (mCons (mOp fAdd (mOp fSub (mVar 5) (mK (.int 1))) (mOp fIx (mVar 7) (mK (.int
    0)))) (mNil))))) (mNext)) (mSeq (mIfS (mTst (mOp (fEq false) (mVar 2) (mTup (mNil)))) (mRet (mTup (mCons (mTup (mCons (mVar 1) (mCons (mTup (mCons (mCallF 2 c__law_of (mCons (mVar 0) (mCons (mLst
    (mCons (mK .non) (mCons (mTup (mNil)) (mCons (mK (.int 5)) (mCons (mK (.str "a")) (mNil)))))) (mNil)))) (mNil))) (mNil)))) (mCons (mVar 5) (mNil))))) (mNext)) (mSeq (mSet 8 (mCallF 2 c__law_any
    (mCons (mVar 0) (mCons (mCall fLen (mCons (mVar 2) (mNil))) (mNil))))) (mSeq (mAsg (.tp [.nm 9, .nm 10]) (mOp fIx (mVar 2) (mVar 8))) (mSeq (mSet 11 (mNew (mCons (mK .non) (mCons (mLst (mCons (mVar
    9) (mCons (mVar 10) (mNil)))) (mCons (mTup (mCons (mVar 9) (mNil))) (mCons (mTup (mCons (mVar 9) (mCons (mVar 10) (mCons (mK (.int 0)) (mNil))))) (mCons (mTup (mCons (mVar 9) (mCons (mOp fSub (mK
    (.int 0)) (mK (.int 1))) (mNil)))) (mCons (mTup (mCons (mVar 9) (mCons (mOp fAdd (mOp fPow (mK (.int 10)) (mK (.int 6))) (mK (.int 1))) (mNil)))) (mCons (mTup (mCons (mVar 9) (mCons (mK (.bl true))
    (mNil)))) (mCons (mTup (mCons (mVar 9) (mCons (mK .non) (mNil)))) (mNil))))))))))) (mSeq (mSet 11 (mOp fAddN (mVar 11) (mLst (mCons (mTup (mCons (mVar 9) (mCons (mK (.str "1")) (mNil)))) (mCons
    (mTup (mCons (mOp fIx (mCallF 2 c__law_bad_line (mCons (mVar 0) (mCons (mVar 9) (mNil)))) (mK (.int 0))) (mCons (mVar 10) (mNil)))) (mCons (mTup (mCons (mTup (mCons (mOp fIx (mVar 9) (mK (.int 0)))
    (mCons (mOp fIx (mVar 9) (mK (.int 1))) (mCons (mVar 3) (mNil))))) (mCons (mVar 10) (mNil)))) (mNil))))))) (mSeq (mDrop (mMet fApp (mVar 11) (mCons (mTup (mCons (mTup (mCons (mVar 3) (mCons (mOp
    fIx (mVar 9) (mK (.int 1))) (mCons (mOp fIx (mVar 9) (mK (.int 2))) (mNil))))) (mCons (mVar 10) (mNil)))) (mNil)))) (mSeq (mDrop (mMet fApp (mVar 11) (mCons (mIf (mTst (mOp fGt (mVar 8) (mK (.int
    0)))) (mOp fIx (mVar 2) (mCallF 2 c__law_any (mCons (mVar 0) (mCons (mVar 8) (mNil))))) (mTup (mNil))) (mNil)))) (mSeq (mSet 12 (mCallF 2 c__law_of (mCons (mVar 0) (mCons (mVar 11) (mNil))))) (mRet
    (mTup (mCons (mTup (mCons (mVar 1) (mCons (mOp fAdd (mOp fAdd (mSl (mVar 2) (mNone) (mSome (mVar 8))) (mTup (mCons (mVar 12) (mNil)))) (mCallF 2 c__law_of (mCons (mVar 0) (mCons (mLst (mCons (mSl
    (mVar 2) (mSome (mOp fAdd (mVar 8) (mK (.int 1)))) (mNone)) (mCons (mTup (mCons (mK .non) (mNil))) (mCons (mTup (mNil)) (mNil))))) (mNil))))) (mNil)))) (mCons (mOp fAdd (mVar 5) (mVar 8))
    (mNil))))))))))))))))))))
theorem w__law_bad_graph {P : Program} {w : World} {K : PySem.W.Frag} {mg : Str → Option Value} {base : Heap} {ad : Nat → Addr} {fd : Nat → FuncData} {tb : Nat → Addr × Addr} (T : Tx P w K mg ad fd tb)
    {c__law_any : List D → AH → Res D} (G__law_any : FnD P w K mg base 1 (ad 17) (fd 17) ["_law_deal", "_law_bound"] c__law_any) {c__law_of : List D → AH → Res D} (G__law_of : FnD P w K mg base 2 (ad
    18) (fd 18) ["_law_deal", "_law_some"] c__law_of) {c__law_bad : List D → AH → Res D} (G__law_bad : FnD P w K mg base 3 (ad 25) (fd 25) ["_law_deal", "_law_node"] c__law_bad) {c__law_bad_line : List
    D → AH → Res D} (G__law_bad_line : FnD P w K mg base 4 (ad 26) (fd 26) ["_law_deal", "_law_line"] c__law_bad_line) :
    FnD P w K mg base 5 (ad 27) (fd 27) ["_law_deal", "_law_nodes", "_law_lines", "_law_strange"] (m__law_bad_graph c__law_any c__law_of c__law_bad c__law_bad_line) :=
  have nd := sc__law_bad_graph.nd
FnD.of T.F__law_bad_graph sc__law_bad_graph fun cdv hcd A outer s H E hr gd tk hp => s_cons (s_par2 (i := 4) (j := 5) rfl nd rfl rfl (by decide) rfl rfl (a_cons (d_call G__law_any (hr.mono (by decide))
    gd tk T.g__law_any T.F__law_any.kp T.b__law_any (a_cons (d_var 0) (a_cons (d_int) (a_nil)))) (a_cons (d_len T.z_len (a_cons (d_var 1) (a_nil))) (a_nil))) (by rfl)) (s_cons (s_if (PW.pt (w_or (t_eq
    hr.units (d_var 4) (d_int)) (w_or1 (t_eq hr.units (d_var 1) (d_tup (a_nil)))))) (s_cons (s_set (i := 11) nd (d_new (a_cons (d_non) (a_cons (d_lst (a_cons (d_var 1) (a_cons (d_var 2) (a_nil))))
    (a_cons (d_tup (a_cons (d_var 1) (a_nil))) (a_cons (d_tup (a_cons (d_var 1) (a_cons (d_var 2) (a_cons (d_tup (a_nil)) (a_nil))))) (a_cons (d_tup (a_cons (d_list T.z_list (a_cons (d_var 1) (a_nil)))
    (a_cons (d_var 2) (a_nil)))) (a_cons (d_tup (a_cons (d_var 1) (a_cons (d_list T.z_list (a_cons (d_var 2) (a_nil))) (a_nil)))) (a_cons (d_str) (a_cons (d_int) (a_nil))))))))))) (s_one (s_ret (d_tup
    (a_cons (d_call G__law_of (hr.mono (by decide)) gd tk T.g__law_of T.F__law_of.kp T.b__law_of (a_cons (d_var 0) (a_cons (d_addR (d_var 11) (d_lst (a_cons (d_tup (a_cons (d_var 1) (a_cons (d_non)
    (a_nil)))) (a_cons (d_bl) (a_nil))))) (a_nil)))) (a_cons (d_sub (d_int) (d_int)) (a_nil))))))) (s_nil)) (s_cons (s_set (i := 6) nd (d_call G__law_any (hr.mono (by decide)) gd tk T.g__law_any
    T.F__law_any.kp T.b__law_any (a_cons (d_var 0) (a_cons (d_var 5) (a_nil))))) (s_cons (s_if (t_eq hr.units (d_var 4) (d_int)) (s_cons (s_set (i := 12) nd (d_call G__law_of (hr.mono (by decide)) gd
    tk T.g__law_of T.F__law_of.kp T.b__law_of (a_cons (d_var 0) (a_cons (d_lst (a_cons (d_call G__law_bad (hr.mono (by decide)) gd tk T.g__law_bad T.F__law_bad.kp T.b__law_bad (a_cons (d_var 0) (a_cons
    (d_ix (d_var 1) (d_var 6)) (a_nil)))) (a_cons (d_if (t_gt (d_var 6) (d_int)) (d_ix (d_var 1) (d_sub (d_var 6) (d_int))) (d_non)) (a_nil)))) (a_nil))))) (s_one (s_ret (d_tup (a_cons (d_tup (a_cons
    (d_add (d_add (d_sl (d_var 1) (o_none) (o_some (d_var 6))) (d_tup (a_cons (d_var 12) (a_nil)))) (d_sl (d_var 1) (o_some (d_add (d_var 6) (d_int))) (o_none))) (a_cons (d_call G__law_of (hr.mono
    (by decide)) gd tk T.g__law_of T.F__law_of.kp T.b__law_of (a_cons (d_var 0) (a_cons (d_lst (a_cons (d_var 2) (a_cons (d_tup (a_cons (d_non) (a_nil))) (a_nil)))) (a_nil)))) (a_nil)))) (a_cons (d_var
    6) (a_nil))))))) (s_nil)) (s_cons (s_if (PW.pt (w_and (t_eq hr.units (d_var 4) (d_int)) (w_and1 (t_gt (d_var 6) (d_int))))) (s_one (s_ret (d_tup (a_cons (d_tup (a_cons (d_add (d_add (d_sl (d_var 1)
    (o_none) (o_some (d_sub (d_var 6) (d_int)))) (d_tup (a_cons (d_ix (d_var 1) (d_var 6)) (a_cons (d_ix (d_var 1) (d_sub (d_var 6) (d_int))) (a_nil))))) (d_sl (d_var 1) (o_some (d_add (d_var 6)
    (d_int))) (o_none))) (a_cons (d_var 2) (a_nil)))) (a_cons (d_var 6) (a_nil)))))) (s_nil)) (s_cons (s_setLc (i := 7) (t := .nm 8) false [("_law_spot", 8)] rfl nd rfl rfl (sw_true rfl rfl rfl
    (by decide +kernel)) (i_r1 T.z_range (a_cons (d_len T.z_len (a_cons (d_var 2) (a_nil))) (a_nil))) (blkOk_by (N := nm__law_bad_graph) (sc := defScope x__law_bad_graph) (by decide +kernel)) (fun _ _
    _ _ _ => tg_nm (i := 8) nd) (fun _ _ _ _ _ => l_one (t_inD (units65 hr) (d_ix (d_var 1) (d_var 6)) (d_tup (a_cons (d_ix (d_ix (d_ix (d_var 2) (d_var 8)) (d_int)) (d_int)) (a_cons (d_ix (d_ix (d_ix
    (d_var 2) (d_var 8)) (d_int)) (d_int)) (a_nil)))))) (fun _ _ _ _ _ => d_var 8) (sl := [8]) (by decide)) (s_cons (s_if (PW.pt (w_and (t_eq hr.units (d_var 4) (d_int)) (w_and1 (t_ne hr.units (d_var
    7) (d_lst (a_nil)))))) (s_one (s_ret (d_tup (a_cons (d_tup (a_cons (d_add (d_sl (d_var 1) (o_none) (o_some (d_var 6))) (d_sl (d_var 1) (o_some (d_add (d_var 6) (d_int))) (o_none))) (a_cons (d_var
    2) (a_nil)))) (a_cons (d_add (d_sub (d_var 5) (d_int)) (d_ix (d_var 7) (d_int))) (a_nil)))))) (s_nil)) (s_cons (s_if (t_eq hr.units (d_var 2) (d_tup (a_nil))) (s_one (s_ret (d_tup (a_cons (d_tup
    (a_cons (d_var 1) (a_cons (d_tup (a_cons (d_call G__law_of (hr.mono (by decide)) gd tk T.g__law_of T.F__law_of.kp T.b__law_of (a_cons (d_var 0) (a_cons (d_lst (a_cons (d_non) (a_cons (d_tup
    (a_nil)) (a_cons (d_int) (a_cons (d_str) (a_nil)))))) (a_nil)))) (a_nil))) (a_nil)))) (a_cons (d_var 5) (a_nil)))))) (s_nil)) (s_cons (s_set (i := 8) nd (d_call G__law_any (hr.mono (by decide)) gd
    tk T.g__law_any T.F__law_any.kp T.b__law_any (a_cons (d_var 0) (a_cons (d_len T.z_len (a_cons (d_var 2) (a_nil))) (a_nil))))) (s_cons (s_asg (t := .tp [.nm 9, .nm 10]) (d_ix (d_var 2) (d_var 8))
    (tg_tp (ts := [.nm 9, .nm 10]) rfl (tgs_cons (tg_nm (i := 9) nd) (tgs_cons (tg_nm (i := 10) nd) (tgs_nil))))) (s_cons (s_set (i := 11) nd (d_new (a_cons (d_non) (a_cons (d_lst (a_cons (d_var 9)
    (a_cons (d_var 10) (a_nil)))) (a_cons (d_tup (a_cons (d_var 9) (a_nil))) (a_cons (d_tup (a_cons (d_var 9) (a_cons (d_var 10) (a_cons (d_int) (a_nil))))) (a_cons (d_tup (a_cons (d_var 9) (a_cons
    (d_sub (d_int) (d_int)) (a_nil)))) (a_cons (d_tup (a_cons (d_var 9) (a_cons (d_add (d_pow (d_int) (d_int)) (d_int)) (a_nil)))) (a_cons (d_tup (a_cons (d_var 9) (a_cons (d_bl) (a_nil)))) (a_cons
    (d_tup (a_cons (d_var 9) (a_cons (d_non) (a_nil)))) (a_nil))))))))))) (s_cons (s_set (i := 11) nd (d_addN (d_var 11) (d_lst (a_cons (d_tup (a_cons (d_var 9) (a_cons (d_str) (a_nil)))) (a_cons
    (d_tup (a_cons (d_ix (d_call G__law_bad_line (hr.mono (by decide)) gd tk T.g__law_bad_line T.F__law_bad_line.kp T.b__law_bad_line (a_cons (d_var 0) (a_cons (d_var 9) (a_nil)))) (d_int)) (a_cons
    (d_var 10) (a_nil)))) (a_cons (d_tup (a_cons (d_tup (a_cons (d_ix (d_var 9) (d_int)) (a_cons (d_ix (d_var 9) (d_int)) (a_cons (d_var 3) (a_nil))))) (a_cons (d_var 10) (a_nil)))) (a_nil)))))))
    (s_cons (s_expr (d_app (d_var 11) (a_cons (d_tup (a_cons (d_tup (a_cons (d_var 3) (a_cons (d_ix (d_var 9) (d_int)) (a_cons (d_ix (d_var 9) (d_int)) (a_nil))))) (a_cons (d_var 10) (a_nil))))
    (a_nil)))) (s_cons (s_expr (d_app (d_var 11) (a_cons (d_if (t_gt (d_var 8) (d_int)) (d_ix (d_var 2) (d_call G__law_any (hr.mono (by decide)) gd tk T.g__law_any T.F__law_any.kp T.b__law_any (a_cons
    (d_var 0) (a_cons (d_var 8) (a_nil))))) (d_tup (a_nil))) (a_nil)))) (s_cons (s_set (i := 12) nd (d_call G__law_of (hr.mono (by decide)) gd tk T.g__law_of T.F__law_of.kp T.b__law_of (a_cons (d_var
    0) (a_cons (d_var 11) (a_nil))))) (s_one (s_ret (d_tup (a_cons (d_tup (a_cons (d_var 1) (a_cons (d_add (d_add (d_sl (d_var 2) (o_none) (o_some (d_var 8))) (d_tup (a_cons (d_var 12) (a_nil))))
    (d_call G__law_of (hr.mono (by decide)) gd tk T.g__law_of T.F__law_of.kp T.b__law_of (a_cons (d_var 0) (a_cons (d_lst (a_cons (d_sl (d_var 2) (o_some (d_add (d_var 8) (d_int))) (o_none)) (a_cons
    (d_tup (a_cons (d_non) (a_nil))) (a_cons (d_tup (a_nil)) (a_nil))))) (a_nil))))) (a_nil)))) (a_cons (d_add (d_var 5) (d_var 8)) (a_nil))))))))))))))))))))
noncomputable def m__law_bad_deed (c__law_any : List D → AH → Res D) (c__law_of : List D → AH → Res D) (c__law_bad : List D → AH → Res D) (c__law_bad_line : List D → AH → Res D) : List D → AH → Res D
    := mFun 3 (mSeq (mIfS (mTst (mOp (fEq false) (mCallF 2 c__law_any (mCons (mVar 0) (mCons (mK (.int 3)) (mNil)))) (mK (.int 0)))) (mSeq (mSet 2 (mLst (mCons (mK .non) (mCons (mCall fList (mCons
    (mVar 1) (mNil))) (mCons (mSl (mVar 1) (mNone) (mSome (mK (.int 1)))) (mCons (mOp fAdd (mVar 1) (mTup (mCons (mK (.int 1)) (mNil)))) (mCons (mOp fAdd (mTup (mCons (mK (.str "go")) (mNil))) (mSl
    (mVar 1) (mSome (mK (.int 1))) (mNone))) (mCons (mOp fAdd (mTup (mCons (mK .non) (mNil))) (mSl (mVar 1) (mSome (mK (.int 1))) (mNone))) (mCons (mTup (mNil)) (mCons (mOp fIx (mVar 1) (mK (.int 0)))
    (mCons (mK (.int 1)) (mCons (mTup (mCons (mLst (mNil)) (mCons (mOp fIx (mVar 1) (mK (.int 1))) (mNil)))) (mNil))))))))))))) (mRet (mTup (mCons (mCallF 2 c__law_of (mCons (mVar 0) (mCons (mOp fAdd
    (mVar 2) (mLst (mCons (mOp fAdd (mTup (mCons (mK (.bl true)) (mNil))) (mSl (mVar 1) (mSome (mK (.int 1))) (mNone))) (mNil)))) (mNil)))) (mCons (mOp fSub (mK (.int 0)) (mK (.int 1))) (mNil))))))
    (mNext)) (mSeq (mIfS (mTst (mOp (fInD false) (mOp fIx (mVar 1) (mK (.int 0))) (mTup (mCons (mK (.str "node")) (mCons (mK (.str "drop")) (mNil)))))) (mRet (mTup (mCons (mTup (mCons (mOp fIx (mVar 1)
    (mK (.int 0))) (mCons (mCallF 2 c__law_bad (mCons (mVar 0) (mCons (mOp fIx (mVar 1) (mK (.int 1))) (mNil)))) (mNil)))) (mCons (mK (.int 1)) (mNil))))) (mNext)) (mSeq (mIfS (mAnd (mTst (mOp (fEq
    false) (mOp fIx (mVar 1) (mK (.int 0))) (mK (.str "line")))) (mTst (mOp (fEq false) (mCallF 2 c__law_any (mCons (mVar 0) (mCons (mK (.int 2)) (mNil)))) (mK (.int 0))))) (mRet (mTup (mCons (mOp fAdd
    (mSl (mVar 1) (mNone) (mSome (mK (.int 2)))) (mTup (mCons (mCallF 2 c__law_of (mCons (mVar 0) (mCons (mLst (mCons (mOp fSub (mK (.int 0)) (mK (.int 1))) (mCons (mOp fAdd (mOp fPow (mK (.int 10))
    (mK (.int 6))) (mK (.int 1))) (mCons (mK (.bl true)) (mCons (mK .non) (mCons (mK (.str "1")) (mCons (mTup (mCons (mK (.int 1)) (mNil))) (mNil)))))))) (mNil)))) (mNil)))) (mCons (mK (.int 2))
    (mNil))))) (mNext)) (mRet (mTup (mCons (mOp fAdd (mTup (mCons (mOp fIx (mVar 1) (mK (.int 0))) (mCons (mOp fIx (mCallF 2 c__law_bad_line (mCons (mVar 0) (mCons (mOp fIx (mVar 1) (mK (.int 1)))
    (mNil)))) (mK (.int 0))) (mNil)))) (mSl (mVar 1) (mSome (mK (.int 2))) (mNone))) (mCons (mK (.int 1)) (mNil))))))))
theorem w__law_bad_deed {P : Program} {w : World} {K : PySem.W.Frag} {mg : Str → Option Value} {base : Heap} {ad : Nat → Addr} {fd : Nat → FuncData} {tb : Nat → Addr × Addr} (T : Tx P w K mg ad fd tb)
    {c__law_any : List D → AH → Res D} (G__law_any : FnD P w K mg base 1 (ad 17) (fd 17) ["_law_deal", "_law_bound"] c__law_any) {c__law_of : List D → AH → Res D} (G__law_of : FnD P w K mg base 2 (ad
    18) (fd 18) ["_law_deal", "_law_some"] c__law_of) {c__law_bad : List D → AH → Res D} (G__law_bad : FnD P w K mg base 3 (ad 25) (fd 25) ["_law_deal", "_law_node"] c__law_bad) {c__law_bad_line : List
    D → AH → Res D} (G__law_bad_line : FnD P w K mg base 4 (ad 26) (fd 26) ["_law_deal", "_law_line"] c__law_bad_line) :
    FnD P w K mg base 5 (ad 28) (fd 28) ["_law_deal", "_law_deed_here"] (m__law_bad_deed c__law_any c__law_of c__law_bad c__law_bad_line) :=
  have nd := sc__law_bad_deed.nd
FnD.of T.F__law_bad_deed sc__law_bad_deed fun cdv hcd A outer s H E hr gd tk hp => s_cons (s_if (t_eq hr.units (d_call G__law_any (hr.mono (by decide)) gd tk T.g__law_any T.F__law_any.kp T.b__law_any
    (a_cons (d_var 0) (a_cons (d_int) (a_nil)))) (d_int)) (s_cons (s_set (i := 2) nd (d_lst (a_cons (d_non) (a_cons (d_list T.z_list (a_cons (d_var 1) (a_nil))) (a_cons (d_sl (d_var 1) (o_none) (o_some
    (d_int))) (a_cons (d_add (d_var 1) (d_tup (a_cons (d_int) (a_nil)))) (a_cons (d_add (d_tup (a_cons (d_str) (a_nil))) (d_sl (d_var 1) (o_some (d_int)) (o_none))) (a_cons (d_add (d_tup (a_cons
    (d_non) (a_nil))) (d_sl (d_var 1) (o_some (d_int)) (o_none))) (a_cons (d_tup (a_nil)) (a_cons (d_ix (d_var 1) (d_int)) (a_cons (d_int) (a_cons (d_tup (a_cons (d_lst (a_nil)) (a_cons (d_ix (d_var 1)
    (d_int)) (a_nil)))) (a_nil))))))))))))) (s_one (s_ret (d_tup (a_cons (d_call G__law_of (hr.mono (by decide)) gd tk T.g__law_of T.F__law_of.kp T.b__law_of (a_cons (d_var 0) (a_cons (d_add (d_var 2)
    (d_lst (a_cons (d_add (d_tup (a_cons (d_bl) (a_nil))) (d_sl (d_var 1) (o_some (d_int)) (o_none))) (a_nil)))) (a_nil)))) (a_cons (d_sub (d_int) (d_int)) (a_nil))))))) (s_nil)) (s_cons (s_if (t_inD
    (units65 hr) (d_ix (d_var 1) (d_int)) (d_tup (a_cons (d_str) (a_cons (d_str) (a_nil))))) (s_one (s_ret (d_tup (a_cons (d_tup (a_cons (d_ix (d_var 1) (d_int)) (a_cons (d_call G__law_bad (hr.mono
    (by decide)) gd tk T.g__law_bad T.F__law_bad.kp T.b__law_bad (a_cons (d_var 0) (a_cons (d_ix (d_var 1) (d_int)) (a_nil)))) (a_nil)))) (a_cons (d_int) (a_nil)))))) (s_nil)) (s_cons (s_if (PW.pt
    (w_and (t_eq hr.units (d_ix (d_var 1) (d_int)) (d_str)) (w_and1 (t_eq hr.units (d_call G__law_any (hr.mono (by decide)) gd tk T.g__law_any T.F__law_any.kp T.b__law_any (a_cons (d_var 0) (a_cons
    (d_int) (a_nil)))) (d_int))))) (s_one (s_ret (d_tup (a_cons (d_add (d_sl (d_var 1) (o_none) (o_some (d_int))) (d_tup (a_cons (d_call G__law_of (hr.mono (by decide)) gd tk T.g__law_of T.F__law_of.kp
    T.b__law_of (a_cons (d_var 0) (a_cons (d_lst (a_cons (d_sub (d_int) (d_int)) (a_cons (d_add (d_pow (d_int) (d_int)) (d_int)) (a_cons (d_bl) (a_cons (d_non) (a_cons (d_str) (a_cons (d_tup (a_cons
    (d_int) (a_nil))) (a_nil)))))))) (a_nil)))) (a_nil)))) (a_cons (d_int) (a_nil)))))) (s_nil)) (s_one (s_ret (d_tup (a_cons (d_add (d_tup (a_cons (d_ix (d_var 1) (d_int)) (a_cons (d_ix (d_call
    G__law_bad_line (hr.mono (by decide)) gd tk T.g__law_bad_line T.F__law_bad_line.kp T.b__law_bad_line (a_cons (d_var 0) (a_cons (d_ix (d_var 1) (d_int)) (a_nil)))) (d_int)) (a_nil)))) (d_sl (d_var
    1) (o_some (d_int)) (o_none))) (a_cons (d_int) (a_nil))))))))
noncomputable def mb__law_heard (mw : ME) : MS := mTry (mRet (mLst (mCons (mK (.str "told")) (mCons (mw) (mNil))))) [⟨"InvalidLine", ["InvalidLine"], ["InvalidGraph", "InvalidDeed"], some 1, fun C a d
    => mRet (mLst (mCons (mK (.str "line")) (mCons (mXf C ["InvalidLine"] a d "at" (mVar 1)) (mCons (mCall (fIsx C ["InvalidLine"] [] (.cl "StoreError") a d) (mCons (mVar 1) (mCons (mK (.cl
    "StoreError")) (mNil)))) (mNil)))))⟩, ⟨"InvalidGraph", ["InvalidGraph"], ["InvalidLine", "InvalidDeed"], some 1, fun C a d => mRet (mLst (mCons (mK (.str "graph")) (mCons (mXf C ["InvalidGraph"] a
    d "at" (mVar 1)) (mCons (mCall (fIsx C ["InvalidGraph"] [] (.cl "StoreError") a d) (mCons (mVar 1) (mCons (mK (.cl "StoreError")) (mNil)))) (mNil)))))⟩, ⟨"InvalidDeed", ["InvalidDeed"],
    ["InvalidGraph", "InvalidLine"], some 1, fun C a d => mRet (mLst (mCons (mK (.str "deed")) (mCons (mXf C ["InvalidDeed"] a d "at" (mVar 1)) (mCons (mCall (fIsx C ["InvalidDeed"] [] (.cl
    "StoreError") a d) (mCons (mVar 1) (mCons (mK (.cl "StoreError")) (mNil)))) (mNil)))))⟩]
theorem wb__law_heard {P : Program} {w : World} {K : PySem.W.Frag} {mg : Str → Option Value} {base : Heap} {ad : Nat → Addr} {fd : Nat → FuncData} {tb : Nat → Addr × Addr} (T : Tx P w K mg ad fd tb)
    (cdv : Value) (A : Around) (outer : List PySem.Env) (s : Shared) (H : Hp) (E : XK) (mw : ME) (tk : Takes (cxOf (L2.CX P w) P w K mg base nm__law_heard "_law_heard" (defScope x__law_heard) (ad 29)
    cdv A outer s H E) (fun c d _ H' => E c d H')) (hr : Room 0 (A.deeper (envOfC "_law_heard" (defScope x__law_heard) s.heap.objs.size (ad 29) cdv))) (gd : A.guards = some []) (work : ∀ (W : WX) (pn :
    List (Addr × Obj)) (xe : Value → Shared → Prop) (p1 p2 : Pos), Takes ((cxOf (L2.CX P w) P w K mg base nm__law_heard "_law_heard" (defScope x__law_heard) (ad 29) cdv A outer s H E).tr pn xe) W → DE
    ((cxOf (L2.CX P w) P w K mg base nm__law_heard "_law_heard" (defScope x__law_heard) (ad 29) cdv A outer s H E).tr pn xe) W (.Call (.Name "_law_ask" p1) [] [] p2) mw) :
DSs (cxOf (L2.CX P w) P w K mg base nm__law_heard "_law_heard" (defScope x__law_heard) (ad 29) cdv A outer s H E) (fun c d _ H' => E c d H') (defBody x__law_heard) (mb__law_heard mw) :=
  have nd := sc__law_heard.nd
s_one (s_try rfl rfl nd tk (fun W pn xe tk hp => s_one (s_ret (d_lst (a_cons (d_str) (a_cons (work _ _ _ _ _ tk) (a_nil)))))) (.cons (hdF_own T.K_InvalidLine (subF_cons T.K_InvalidLine
    T.u_InvalidLine_InvalidLine (subF_nil)) (subF_cons T.K_InvalidGraph T.u_InvalidGraph_InvalidLine (subF_cons T.K_InvalidDeed T.u_InvalidDeed_InvalidLine (subF_nil)))) (.cons (hdF_own
    T.K_InvalidGraph (subF_cons T.K_InvalidGraph T.u_InvalidGraph_InvalidGraph (subF_nil)) (subF_cons T.K_InvalidLine T.u_InvalidLine_InvalidGraph (subF_cons T.K_InvalidDeed
    T.u_InvalidDeed_InvalidGraph (subF_nil)))) (.cons (hdF_own T.K_InvalidDeed (subF_cons T.K_InvalidDeed T.u_InvalidDeed_InvalidDeed (subF_nil)) (subF_cons T.K_InvalidGraph
    T.u_InvalidGraph_InvalidDeed (subF_cons T.K_InvalidLine T.u_InvalidLine_InvalidDeed (subF_nil)))) (HsM.nil)))) (.named (i := 1) rfl rfl ⟨by rfl, by decide, .inl T.g_InvalidLine⟩ (suite_ok fun a oe
    cls d pn C hz hf hC => s_one (s_ret (d_lst (a_cons (d_str) (a_cons (d_xf (xfF_cons T.K_InvalidLine T.n_InvalidLine_at (xfF_nil)) hC hz hf (d_var 1)) (a_cons (d_isx (.inl ⟨_, rfl, T.K_StoreError.nm,
    _, rfl⟩) (subF_cons T.K_InvalidLine T.u_InvalidLine_StoreError (subF_nil)) (subF_nil) (fun _ _ h => T.K_StoreError.kit h) hC hz hf T.z_isinstance (a_cons (d_var 1) (a_cons (d_cl T.K_StoreError.nm
    T.g_StoreError) (a_nil)))) (a_nil))))))) (.named (i := 1) rfl rfl ⟨by rfl, by decide, .inl T.g_InvalidGraph⟩ (suite_ok fun a oe cls d pn C hz hf hC => s_one (s_ret (d_lst (a_cons (d_str) (a_cons
    (d_xf (xfF_cons T.K_InvalidGraph T.n_InvalidGraph_at (xfF_nil)) hC hz hf (d_var 1)) (a_cons (d_isx (.inl ⟨_, rfl, T.K_StoreError.nm, _, rfl⟩) (subF_cons T.K_InvalidGraph T.u_InvalidGraph_StoreError
    (subF_nil)) (subF_nil) (fun _ _ h => T.K_StoreError.kit h) hC hz hf T.z_isinstance (a_cons (d_var 1) (a_cons (d_cl T.K_StoreError.nm T.g_StoreError) (a_nil)))) (a_nil))))))) (.named (i := 1) rfl
    rfl ⟨by rfl, by decide, .inl T.g_InvalidDeed⟩ (suite_ok fun a oe cls d pn C hz hf hC => s_one (s_ret (d_lst (a_cons (d_str) (a_cons (d_xf (xfF_cons T.K_InvalidDeed T.n_InvalidDeed_at (xfF_nil)) hC
    hz hf (d_var 1)) (a_cons (d_isx (.inl ⟨_, rfl, T.K_StoreError.nm, _, rfl⟩) (subF_cons T.K_InvalidDeed T.u_InvalidDeed_StoreError (subF_nil)) (subF_nil) (fun _ _ h => T.K_StoreError.kit h) hC hz hf
    T.z_isinstance (a_cons (d_var 1) (a_cons (d_cl T.K_StoreError.nm T.g_StoreError) (a_nil)))) (a_nil))))))) (HsOk.nil)))))
noncomputable def m_law (P_law : Addr) (c__law_source : List D → AH → Res D) (c__law_of : List D → AH → Res D) (c__law_drawn : List D → AH → Res D) (c__law_graph : List D → AH → Res D)
    (c__law_bad_graph : List D → AH → Res D) (c__law_deed : List D → AH → Res D) (c__law_bad_line : List D → AH → Res D) (c__law_bad_deed : List D → AH → Res D) (c__law_any : List D → AH → Res D)
    (c__law_names : List D → AH → Res D) (c__law_bad : List D → AH → Res D) (c_is_node : List D → AH → Res D) (c_is_kind : List D → AH → Res D) (c_is_price : List D → AH → Res D) (c_is_graph : List D →
    AH → Res D) (c_is_line : List D → AH → Res D) (c_is_deed : List D → AH → Res D) (c_need_line : List D → AH → Res D) (c_need_deed : List D → AH → Res D) (c_need_batch : List D → AH → Res D)
    (c_need_graph : List D → AH → Res D) : List D → AH → Res D := mFun 25 (mSeq (mSet 1 (mCallF 2 c__law_source (mCons (mVar 0) (mCons (mK (.int 23)) (mNil))))) (mSeq (mSet 2 (mCallF 2 c__law_of (mCons
    (mVar 1) (mCons (mLst (mCons (mK (.int 2)) (mCons (mK (.int 3)) (mCons (mK (.int 6)) (mNil))))) (mNil))))) (mSeq (mAsg (.tp [.nm 3, .nm 4]) (mTup (mCons (mCallF 2 c__law_names (mCons (mVar 1)
    (mCons (mOp fAdd (mVar 2) (mK (.int 1))) (mNil)))) (mCons (mCallF 2 c__law_names (mCons (mVar 1) (mCons (mK (.int 3)) (mNil)))) (mNil))))) (mSeq (mPar2 5 6 (mCons (mOp fIx (mVar 3) (mNeg (mK (.int
    1)))) (mCons (mLst (mCons (mK (.str "told")) (mCons (mK .non) (mNil)))) (mNil)))) (mSeq (mAsg (.tp [.nm 7, .nm 8]) (mCallF 4 c__law_drawn (mCons (mVar 1) (mCons (mSl (mVar 3) (mNone) (mSome (mNeg
    (mK (.int 1))))) (mCons (mVar 4) (mCons (mCallF 2 c__law_of (mCons (mVar 1) (mCons (mLst (mCons (mK (.int 0)) (mCons (mK (.int 3)) (mCons (mK (.int 9)) (mCons (mK (.int 30)) (mNil)))))) (mNil))))
    (mNil))))))) (mSeq (mAsg (.tp [.nm 9, .nm 10]) (mCallF 2 c__law_graph (mCons (mVar 7) (mCons (mVar 8) (mNil))))) (mSeq (mIfS (mOr (mTst (mOp (fEq true) (mCall fRepr (mCons (mLam 0 P_law (lamQ
    "law") 2 (mb__law_heard) (mCallF 1 c_need_graph (mCons (mTup (mCons (mVar 9) (mCons (mVar 10) (mNil)))) (mNil)))) (mNil))) (mCall fRepr (mCons (mVar 6) (mNil))))) (mTst (mOp (fIsB true) (mCallF 1
    c_is_graph (mCons (mTup (mCons (mVar 9) (mCons (mVar 10) (mNil)))) (mNil))) (mK (.bl true))))) (mRet (mK (.bl false))) (mNext)) (mSeq (mAsg (.tp [.nm 11, .nm 12]) (mCallF 4 c__law_bad_graph (mCons
    (mVar 1) (mCons (mVar 9) (mCons (mVar 10) (mCons (mVar 5) (mNil))))))) (mSeq (mIfS (mOr (mTst (mOp (fEq true) (mCall fRepr (mCons (mLam 0 P_law (lamQ "law") 2 (mb__law_heard) (mCallK 0 1 1 [0]
    c_need_graph mNil (mCons (mVar 11) (mNil)))) (mNil))) (mCall fRepr (mCons (mLst (mCons (mK (.str "graph")) (mCons (mVar 12) (mCons (mK (.bl true)) (mNil))))) (mNil))))) (mTst (mOp (fIsB true)
    (mCallF 1 c_is_graph (mCons (mVar 11) (mNil))) (mK (.bl false))))) (mRet (mK (.bl false))) (mNext)) (mSeq (mSet 13 (mCallF 3 c__law_deed (mCons (mVar 1) (mCons (mVar 3) (mCons (mVar 4) (mNil))))))
    (mSeq (mSet 14 (mTup (mCons (mOp fIx (mVar 3) (mK (.int 0))) (mCons (mOp fIx (mVar 4) (mK (.int 0))) (mCons (mCallF 2 c__law_of (mCons (mVar 1) (mCons (mVar 3) (mNil)))) (mNil)))))) (mSeq (mSet 15
    (mNew (mCons (mLam 0 P_law (lamQ "law") 2 (mb__law_heard) (mCallK 0 1 1 [0] c_need_line mNil (mCons (mVar 14) (mNil)))) (mNil)))) (mSeq (mDrop (mMet fApp (mVar 15) (mCons (mLam 0 P_law (lamQ "law")
    2 (mb__law_heard) (mCallK 0 1 1 [0] c_need_deed mNil (mCons (mVar 13) (mNil)))) (mNil)))) (mSeq (mIfS (mOr (mTst (mOp (fEq true) (mCall fRepr (mCons (mVar 15) (mNil))) (mCall fRepr (mCons (mLst
    (mCons (mVar 6) (mCons (mVar 6) (mNil)))) (mNil))))) (mOr (mTst (mOp (fIsB true) (mCallF 1 c_is_line (mCons (mVar 14) (mNil))) (mK (.bl true)))) (mTst (mOp (fIsB true) (mCallK 0 1 1 [0] c_is_deed
    mNil (mCons (mVar 13) (mNil))) (mK (.bl true)))))) (mRet (mK (.bl false))) (mNext)) (mSeq (mAsg (.tp [.nm 16, .nm 17]) (mCallF 2 c__law_bad_line (mCons (mVar 1) (mCons (mVar 14) (mNil))))) (mSeq
    (mIfS (mOr (mTst (mOp (fEq true) (mCall fRepr (mCons (mLam 0 P_law (lamQ "law") 2 (mb__law_heard) (mCallF 1 c_need_line (mCons (mVar 16) (mNil)))) (mNil))) (mCall fRepr (mCons (mLst (mCons (mK
    (.str "line")) (mCons (mVar 17) (mCons (mK (.bl true)) (mNil))))) (mNil))))) (mTst (mOp (fIsB true) (mCallK 0 1 1 [0] c_is_line mNil (mCons (mVar 16) (mNil))) (mK (.bl false))))) (mRet (mK (.bl
    false))) (mNext)) (mSeq (mAsg (.tp [.nm 18, .nm 19]) (mCallF 2 c__law_bad_deed (mCons (mVar 1) (mCons (mVar 13) (mNil))))) (mSeq (mIfS (mOr (mTst (mOp (fEq true) (mCall fRepr (mCons (mLam 0 P_law
    (lamQ "law") 2 (mb__law_heard) (mCallF 1 c_need_deed (mCons (mVar 18) (mNil)))) (mNil))) (mCall fRepr (mCons (mLst (mCons (mK (.str "deed")) (mCons (mVar 19) (mCons (mK (.bl true)) (mNil)))))
    (mNil))))) (mTst (mOp (fIsB true) (mCallF 1 c_is_deed (mCons (mVar 18) (mNil))) (mK (.bl false))))) (mRet (mK (.bl false))) (mNext)) (mSeq (mSet 20 (mLc false (mR1 (mCons (mCallF 2 c__law_of (mCons
    (mVar 1) (mCons (mLst (mCons (mK (.int 0)) (mCons (mK (.int 1)) (mCons (mK (.int 3)) (mCons (mK (.int 9)) (mNil)))))) (mNil)))) (mNil))) (.nm 24) (mYes) (mCallF 3 c__law_deed (mCons (mVar 1) (mCons
    (mVar 3) (mCons (mVar 4) (mNil))))) [24])) (mSeq (mSet 15 (mNew (mCons (mLam 0 P_law (lamQ "law") 2 (mb__law_heard) (mCallF 1 c_need_batch (mCons (mVar 20) (mNil)))) (mNil)))) (mSeq (mDrop (mMet
    fApp (mVar 15) (mCons (mLam 0 P_law (lamQ "law") 2 (mb__law_heard) (mCallF 1 c_need_batch (mCons (mCall fTup (mCons (mVar 20) (mNil))) (mNil)))) (mNil)))) (mSeq (mIfS (mTst (mOp (fEq true) (mCall
    fRepr (mCons (mVar 15) (mNil))) (mCall fRepr (mCons (mLst (mCons (mVar 6) (mCons (mVar 6) (mNil)))) (mNil))))) (mRet (mK (.bl false))) (mNext)) (mSeq (mSet 12 (mCallF 2 c__law_any (mCons (mVar 1)
    (mCons (mOp fAdd (mCall fLen (mCons (mVar 20) (mNil))) (mK (.int 1))) (mNil))))) (mSeq (mSet 21 (mCallF 2 c__law_of (mCons (mVar 1) (mCons (mLst (mCons (mOp fAdd (mOp fAdd (mSl (mVar 20) (mNone)
    (mSome (mVar 12))) (mLst (mCons (mVar 18) (mNil)))) (mSl (mVar 20) (mSome (mVar 12)) (mNone))) (mCons (mCall fTup (mCons (mOp fAdd (mSl (mVar 20) (mNone) (mSome (mVar 12))) (mLst (mCons (mVar 18)
    (mCons (mK .non) (mNil))))) (mNil))) (mNil)))) (mNil))))) (mSeq (mIfS (mTst (mOp (fEq true) (mCall fRepr (mCons (mLam 0 P_law (lamQ "law") 2 (mb__law_heard) (mCallK 0 1 1 [0] c_need_batch mNil
    (mCons (mVar 21) (mNil)))) (mNil))) (mCall fRepr (mCons (mLst (mCons (mK (.str "deed")) (mCons (mVar 12) (mCons (mK (.bl true)) (mNil))))) (mNil))))) (mRet (mK (.bl false))) (mNext)) (mSeq (mSet 16
    (mCallF 2 c__law_of (mCons (mVar 1) (mCons (mLst (mCons (mK .non) (mCons (mK (.str "")) (mCons (mK (.int 0)) (mCons (mK (.str "node a")) (mCons (mK (.bl true)) (mNil))))))) (mNil))))) (mSeq (mIfS
    (mTst (mOp (fEq true) (mCall fRepr (mCons (mLam 0 P_law (lamQ "law") 2 (mb__law_heard) (mCallF 1 c_need_batch (mCons (mVar 16) (mNil)))) (mNil))) (mCall fRepr (mCons (mLst (mCons (mK (.str "deed"))
    (mCons (mOp fSub (mK (.int 0)) (mK (.int 1))) (mCons (mK (.bl true)) (mNil))))) (mNil))))) (mRet (mK (.bl false))) (mNext)) (mSeq (mPar2 22 23 (mCons (mCallF 2 c__law_bad (mCons (mVar 1) (mCons
    (mVar 5) (mNil)))) (mCons (mCallF 2 c__law_of (mCons (mVar 1) (mCons (mLst (mCons (mOp fSub (mK (.int 0)) (mK (.int 1))) (mCons (mOp fAdd (mOp fPow (mK (.int 10)) (mK (.int 6))) (mK (.int 1)))
    (mCons (mK (.bl true)) (mCons (mK .non) (mCons (mK (.str "0")) (mCons (mTup (mCons (mK (.int 0)) (mNil))) (mNil)))))))) (mNil)))) (mNil)))) (mSeq (mSet 15 (mNew (mCons (mCallK 0 1 1 [0] c_is_node
    mNil (mCons (mVar 5) (mNil))) (mCons (mCallK 0 1 1 [0] c_is_kind mNil (mCons (mOp fIx (mVar 4) (mK (.int 0))) (mNil))) (mCons (mCallK 0 1 1 [0] c_is_price mNil (mCons (mOp fPow (mK (.int 10)) (mK
    (.int 6))) (mNil))) (mCons (mCallF 1 c_is_price (mCons (mK (.int 0)) (mNil))) (mCons (mCallF 1 c_is_node (mCons (mVar 22) (mNil))) (mCons (mCallF 1 c_is_kind (mCons (mVar 22) (mNil))) (mCons
    (mCallF 1 c_is_price (mCons (mVar 23) (mNil))) (mNil)))))))))) (mRet (mOp (fEq false) (mCall fRepr (mCons (mVar 15) (mNil))) (mCall fRepr (mCons (mOp fAdd (mRep (mCons (mK (.bl true)) (mNil)) (mK
    (.int 4))) (mRep (mCons (mK (.bl false)) (mNil)) (mK (.int 3)))) (mNil))))))))))))))))))))))))))))))))))
theorem w_law {P : Program} {w : World} {K : PySem.W.Frag} {mg : Str → Option Value} {base : Heap} {ad : Nat → Addr} {fd : Nat → FuncData} {tb : Nat → Addr × Addr} (T : Tx P w K mg ad fd tb)
    {c__law_source : List D → AH → Res D} (G__law_source : FnD P w K mg base 1 (ad 16) (fd 16) ["_law_script", "_law_salt"] c__law_source) {c__law_of : List D → AH → Res D} (G__law_of : FnD P w K mg
    base 2 (ad 18) (fd 18) ["_law_deal", "_law_some"] c__law_of) {c__law_drawn : List D → AH → Res D} (G__law_drawn : FnD P w K mg base 5 (ad 24) (fd 24) ["_law_deal", "_law_names_here", "_law_kinds",
    "_law_many"] c__law_drawn) {c__law_graph : List D → AH → Res D} (G__law_graph : FnD P w K mg base 1 (ad 23) (fd 23) ["_law_nodes", "_law_prices"] c__law_graph) {c__law_bad_graph : List D → AH → Res
    D} (G__law_bad_graph : FnD P w K mg base 5 (ad 27) (fd 27) ["_law_deal", "_law_nodes", "_law_lines", "_law_strange"] c__law_bad_graph) {c__law_deed : List D → AH → Res D} (G__law_deed : FnD P w K
    mg base 4 (ad 21) (fd 21) ["_law_deal", "_law_names_here", "_law_kinds"] c__law_deed) {c__law_bad_line : List D → AH → Res D} (G__law_bad_line : FnD P w K mg base 4 (ad 26) (fd 26) ["_law_deal",
    "_law_line"] c__law_bad_line) {c__law_bad_deed : List D → AH → Res D} (G__law_bad_deed : FnD P w K mg base 5 (ad 28) (fd 28) ["_law_deal", "_law_deed_here"] c__law_bad_deed) {c__law_any : List D →
    AH → Res D} (G__law_any : FnD P w K mg base 1 (ad 17) (fd 17) ["_law_deal", "_law_bound"] c__law_any) {c__law_names : List D → AH → Res D} (G__law_names : FnD P w K mg base 3 (ad 19) (fd 19)
    ["_law_deal", "_law_many"] c__law_names) {c__law_bad : List D → AH → Res D} (G__law_bad : FnD P w K mg base 3 (ad 25) (fd 25) ["_law_deal", "_law_node"] c__law_bad) {c_is_node : List D → AH → Res
    D} (G_is_node : FnD P w K mg base 1 (ad 3) (fd 3) ["value"] c_is_node) {c_is_kind : List D → AH → Res D} (G_is_kind : FnD P w K mg base 2 (ad 4) (fd 4) ["value"] c_is_kind) {c_is_price : List D →
    AH → Res D} (G_is_price : FnD P w K mg base 2 (ad 5) (fd 5) ["value"] c_is_price) {c_is_graph : List D → AH → Res D} (G_is_graph : FnD P w K mg base 5 (ad 10) (fd 10) ["value"] c_is_graph)
    {c_is_line : List D → AH → Res D} (G_is_line : FnD P w K mg base 3 (ad 7) (fd 7) ["value"] c_is_line) {c_is_deed : List D → AH → Res D} (G_is_deed : FnD P w K mg base 5 (ad 13) (fd 13) ["value"]
    c_is_deed) {c_need_line : List D → AH → Res D} (G_need_line : FnD P w K mg base 3 (ad 8) (fd 8) ["value"] c_need_line) {c_need_deed : List D → AH → Res D} (G_need_deed : FnD P w K mg base 5 (ad 14)
    (fd 14) ["value"] c_need_deed) {c_need_batch : List D → AH → Res D} (G_need_batch : FnD P w K mg base 6 (ad 15) (fd 15) ["value"] c_need_batch) {c_need_graph : List D → AH → Res D} (G_need_graph :
    FnD P w K mg base 5 (ad 11) (fd 11) ["value"] c_need_graph) (tb_law : LamX.TabB base mg (tb 0).1 (tb 0).2) :
    FnD P w K mg base 9 (ad 30) (fd 30) ["_law_script"] (m_law (tb 0).2 c__law_source c__law_of c__law_drawn c__law_graph c__law_bad_graph c__law_deed c__law_bad_line c__law_bad_deed c__law_any c__law_names c__law_bad c_is_node c_is_kind c_is_price c_is_graph c_is_line c_is_deed c_need_line c_need_deed c_need_batch c_need_graph) :=
  have nd := sc_law.nd
FnD.of T.F_law sc_law fun cdv hcd A outer s H E hr gd tk hp => s_cons (s_set (i := 1) nd (d_call G__law_source (hr.mono (by decide)) gd tk T.g__law_source T.F__law_source.kp T.b__law_source (a_cons
    (d_var 0) (a_cons (d_int) (a_nil))))) (s_cons (s_set (i := 2) nd (d_call G__law_of (hr.mono (by decide)) gd tk T.g__law_of T.F__law_of.kp T.b__law_of (a_cons (d_var 1) (a_cons (d_lst (a_cons
    (d_int) (a_cons (d_int) (a_cons (d_int) (a_nil))))) (a_nil))))) (s_cons (s_asg (t := .tp [.nm 3, .nm 4]) (d_tup (a_cons (d_call G__law_names (hr.mono (by decide)) gd tk T.g__law_names
    T.F__law_names.kp T.b__law_names (a_cons (d_var 1) (a_cons (d_add (d_var 2) (d_int)) (a_nil)))) (a_cons (d_call G__law_names (hr.mono (by decide)) gd tk T.g__law_names T.F__law_names.kp
    T.b__law_names (a_cons (d_var 1) (a_cons (d_int) (a_nil)))) (a_nil)))) (tg_tp (ts := [.nm 3, .nm 4]) rfl (tgs_cons (tg_nm (i := 3) nd) (tgs_cons (tg_nm (i := 4) nd) (tgs_nil))))) (s_cons (s_par2 (i
    := 5) (j := 6) rfl nd rfl rfl (by decide) rfl rfl (a_cons (d_ix (d_var 3) (d_neg (d_int))) (a_cons (d_lst (a_cons (d_str) (a_cons (d_non) (a_nil)))) (a_nil))) (by rfl)) (s_cons (s_asg (t := .tp
    [.nm 7, .nm 8]) (d_call G__law_drawn (hr.mono (by decide)) gd tk T.g__law_drawn T.F__law_drawn.kp T.b__law_drawn (a_cons (d_var 1) (a_cons (d_sl (d_var 3) (o_none) (o_some (d_neg (d_int)))) (a_cons
    (d_var 4) (a_cons (d_call G__law_of (hr.mono (by decide)) gd tk T.g__law_of T.F__law_of.kp T.b__law_of (a_cons (d_var 1) (a_cons (d_lst (a_cons (d_int) (a_cons (d_int) (a_cons (d_int) (a_cons
    (d_int) (a_nil)))))) (a_nil)))) (a_nil)))))) (tg_tp (ts := [.nm 7, .nm 8]) rfl (tgs_cons (tg_nm (i := 7) nd) (tgs_cons (tg_nm (i := 8) nd) (tgs_nil))))) (s_cons (s_asg (t := .tp [.nm 9, .nm 10])
    (d_call G__law_graph (hr.mono (by decide)) gd tk T.g__law_graph T.F__law_graph.kp T.b__law_graph (a_cons (d_var 7) (a_cons (d_var 8) (a_nil)))) (tg_tp (ts := [.nm 9, .nm 10]) rfl (tgs_cons (tg_nm
    (i := 9) nd) (tgs_cons (tg_nm (i := 10) nd) (tgs_nil))))) (s_cons (s_if (PW.pt (w_or (t_ne hr.units (d_repr gd hr.units T.z_repr (a_cons (d_lam (k := 5) T.F__law_heard T.g__law_heard
    T.F__law_heard.kp T.b__law_heard sc__law_heard (hr.mono (by decide)) gd tk (fun cdv s H E mw tk hr work => wb__law_heard T  cdv _ _ s H E mw tk (hr.mono (by decide)) gd work) tb_law (hcd.symm.trans
    T.o_law) (LamX.lamS_by (sc := defScope x_law) (by decide +kernel)) rfl (fun _ _ _ _ _ => rfl) (fun A outer s H E f c hr gd tk => d_call G_need_graph (hr.mono (by decide)) gd tk T.g_need_graph
    T.F_need_graph.kp T.b_need_graph (a_cons (d_tup (a_cons (d_var 9) (a_cons (d_var 10) (a_nil)))) (a_nil))) rfl (.inl rfl) rfl) (a_nil))) (d_repr gd hr.units T.z_repr (a_cons (d_var 6) (a_nil))))
    (w_or1 (t_isntB (d_call G_is_graph (hr.mono (by decide)) gd tk T.g_is_graph T.F_is_graph.kp T.b_is_graph (a_cons (d_tup (a_cons (d_var 9) (a_cons (d_var 10) (a_nil)))) (a_nil))) (d_bl))))) (s_one
    (s_ret (d_bl))) (s_nil)) (s_cons (s_asg (t := .tp [.nm 11, .nm 12]) (d_call G__law_bad_graph (hr.mono (by decide)) gd tk T.g__law_bad_graph T.F__law_bad_graph.kp T.b__law_bad_graph (a_cons (d_var
    1) (a_cons (d_var 9) (a_cons (d_var 10) (a_cons (d_var 5) (a_nil)))))) (tg_tp (ts := [.nm 11, .nm 12]) rfl (tgs_cons (tg_nm (i := 11) nd) (tgs_cons (tg_nm (i := 12) nd) (tgs_nil))))) (s_cons (s_if
    (PW.pt (w_or (t_ne hr.units (d_repr gd hr.units T.z_repr (a_cons (d_lam (k := 5) T.F__law_heard T.g__law_heard T.F__law_heard.kp T.b__law_heard sc__law_heard (hr.mono (by decide)) gd tk (fun cdv s
    H E mw tk hr work => wb__law_heard T  cdv _ _ s H E mw tk (hr.mono (by decide)) gd work) tb_law (hcd.symm.trans T.o_law) (LamX.lamS_by (sc := defScope x_law) (by decide +kernel)) rfl (fun _ _ _ _ _
    => rfl) (fun A outer s H E f c hr gd tk => d_callK0 (ks := ["value"]) (pm := [0]) G_need_graph (hr.mono (by decide)) gd tk T.g_need_graph T.F_need_graph.kp T.k_need_graph_value (k_cons (d_var 11)
    (k_nil))) rfl (.inl rfl) rfl) (a_nil))) (d_repr gd hr.units T.z_repr (a_cons (d_lst (a_cons (d_str) (a_cons (d_var 12) (a_cons (d_bl) (a_nil))))) (a_nil)))) (w_or1 (t_isntB (d_call G_is_graph
    (hr.mono (by decide)) gd tk T.g_is_graph T.F_is_graph.kp T.b_is_graph (a_cons (d_var 11) (a_nil))) (d_bl))))) (s_one (s_ret (d_bl))) (s_nil)) (s_cons (s_set (i := 13) nd (d_call G__law_deed
    (hr.mono (by decide)) gd tk T.g__law_deed T.F__law_deed.kp T.b__law_deed (a_cons (d_var 1) (a_cons (d_var 3) (a_cons (d_var 4) (a_nil)))))) (s_cons (s_set (i := 14) nd (d_tup (a_cons (d_ix (d_var
    3) (d_int)) (a_cons (d_ix (d_var 4) (d_int)) (a_cons (d_call G__law_of (hr.mono (by decide)) gd tk T.g__law_of T.F__law_of.kp T.b__law_of (a_cons (d_var 1) (a_cons (d_var 3) (a_nil)))) (a_nil))))))
    (s_cons (s_set (i := 15) nd (d_new (a_cons (d_lam (k := 3) T.F__law_heard T.g__law_heard T.F__law_heard.kp T.b__law_heard sc__law_heard (hr.mono (by decide)) gd tk (fun cdv s H E mw tk hr work =>
    wb__law_heard T  cdv _ _ s H E mw tk (hr.mono (by decide)) gd work) tb_law (hcd.symm.trans T.o_law) (LamX.lamS_by (sc := defScope x_law) (by decide +kernel)) rfl (fun _ _ _ _ _ => rfl) (fun A outer
    s H E f c hr gd tk => d_callK0 (ks := ["value"]) (pm := [0]) G_need_line (hr.mono (by decide)) gd tk T.g_need_line T.F_need_line.kp T.k_need_line_value (k_cons (d_var 14) (k_nil))) rfl (.inl rfl)
    rfl) (a_nil)))) (s_cons (s_expr (d_app (d_var 15) (a_cons (d_lam (k := 5) T.F__law_heard T.g__law_heard T.F__law_heard.kp T.b__law_heard sc__law_heard (hr.mono (by decide)) gd tk (fun cdv s H E mw
    tk hr work => wb__law_heard T  cdv _ _ s H E mw tk (hr.mono (by decide)) gd work) tb_law (hcd.symm.trans T.o_law) (LamX.lamS_by (sc := defScope x_law) (by decide +kernel)) rfl (fun _ _ _ _ _ =>
    rfl) (fun A outer s H E f c hr gd tk => d_callK0 (ks := ["value"]) (pm := [0]) G_need_deed (hr.mono (by decide)) gd tk T.g_need_deed T.F_need_deed.kp T.k_need_deed_value (k_cons (d_var 13)
    (k_nil))) rfl (.inl rfl) rfl) (a_nil)))) (s_cons (s_if (PW.pt (w_or (t_ne hr.units (d_repr gd hr.units T.z_repr (a_cons (d_var 15) (a_nil))) (d_repr gd hr.units T.z_repr (a_cons (d_lst (a_cons
    (d_var 6) (a_cons (d_var 6) (a_nil)))) (a_nil)))) (w_or (t_isntB (d_call G_is_line (hr.mono (by decide)) gd tk T.g_is_line T.F_is_line.kp T.b_is_line (a_cons (d_var 14) (a_nil))) (d_bl)) (w_or1
    (t_isntB (d_callK0 (ks := ["value"]) (pm := [0]) G_is_deed (hr.mono (by decide)) gd tk T.g_is_deed T.F_is_deed.kp T.k_is_deed_value (k_cons (d_var 13) (k_nil))) (d_bl)))))) (s_one (s_ret (d_bl)))
    (s_nil)) (s_cons (s_asg (t := .tp [.nm 16, .nm 17]) (d_call G__law_bad_line (hr.mono (by decide)) gd tk T.g__law_bad_line T.F__law_bad_line.kp T.b__law_bad_line (a_cons (d_var 1) (a_cons (d_var 14)
    (a_nil)))) (tg_tp (ts := [.nm 16, .nm 17]) rfl (tgs_cons (tg_nm (i := 16) nd) (tgs_cons (tg_nm (i := 17) nd) (tgs_nil))))) (s_cons (s_if (PW.pt (w_or (t_ne hr.units (d_repr gd hr.units T.z_repr
    (a_cons (d_lam (k := 3) T.F__law_heard T.g__law_heard T.F__law_heard.kp T.b__law_heard sc__law_heard (hr.mono (by decide)) gd tk (fun cdv s H E mw tk hr work => wb__law_heard T  cdv _ _ s H E mw tk
    (hr.mono (by decide)) gd work) tb_law (hcd.symm.trans T.o_law) (LamX.lamS_by (sc := defScope x_law) (by decide +kernel)) rfl (fun _ _ _ _ _ => rfl) (fun A outer s H E f c hr gd tk => d_call
    G_need_line (hr.mono (by decide)) gd tk T.g_need_line T.F_need_line.kp T.b_need_line (a_cons (d_var 16) (a_nil))) rfl (.inl rfl) rfl) (a_nil))) (d_repr gd hr.units T.z_repr (a_cons (d_lst (a_cons
    (d_str) (a_cons (d_var 17) (a_cons (d_bl) (a_nil))))) (a_nil)))) (w_or1 (t_isntB (d_callK0 (ks := ["value"]) (pm := [0]) G_is_line (hr.mono (by decide)) gd tk T.g_is_line T.F_is_line.kp
    T.k_is_line_value (k_cons (d_var 16) (k_nil))) (d_bl))))) (s_one (s_ret (d_bl))) (s_nil)) (s_cons (s_asg (t := .tp [.nm 18, .nm 19]) (d_call G__law_bad_deed (hr.mono (by decide)) gd tk
    T.g__law_bad_deed T.F__law_bad_deed.kp T.b__law_bad_deed (a_cons (d_var 1) (a_cons (d_var 13) (a_nil)))) (tg_tp (ts := [.nm 18, .nm 19]) rfl (tgs_cons (tg_nm (i := 18) nd) (tgs_cons (tg_nm (i :=
    19) nd) (tgs_nil))))) (s_cons (s_if (PW.pt (w_or (t_ne hr.units (d_repr gd hr.units T.z_repr (a_cons (d_lam (k := 5) T.F__law_heard T.g__law_heard T.F__law_heard.kp T.b__law_heard sc__law_heard
    (hr.mono (by decide)) gd tk (fun cdv s H E mw tk hr work => wb__law_heard T  cdv _ _ s H E mw tk (hr.mono (by decide)) gd work) tb_law (hcd.symm.trans T.o_law) (LamX.lamS_by (sc := defScope x_law)
    (by decide +kernel)) rfl (fun _ _ _ _ _ => rfl) (fun A outer s H E f c hr gd tk => d_call G_need_deed (hr.mono (by decide)) gd tk T.g_need_deed T.F_need_deed.kp T.b_need_deed (a_cons (d_var 18)
    (a_nil))) rfl (.inl rfl) rfl) (a_nil))) (d_repr gd hr.units T.z_repr (a_cons (d_lst (a_cons (d_str) (a_cons (d_var 19) (a_cons (d_bl) (a_nil))))) (a_nil)))) (w_or1 (t_isntB (d_call G_is_deed
    (hr.mono (by decide)) gd tk T.g_is_deed T.F_is_deed.kp T.b_is_deed (a_cons (d_var 18) (a_nil))) (d_bl))))) (s_one (s_ret (d_bl))) (s_nil)) (s_cons (s_set (i := 20) nd (d_lc (t := .nm 24) false
    [("_law_turn", 24)] rfl nd (i_r1 T.z_range (a_cons (d_call G__law_of (hr.mono (by decide)) gd tk T.g__law_of T.F__law_of.kp T.b__law_of (a_cons (d_var 1) (a_cons (d_lst (a_cons (d_int) (a_cons
    (d_int) (a_cons (d_int) (a_cons (d_int) (a_nil)))))) (a_nil)))) (a_nil))) (blkOk_by (N := nm_law) (sc := defScope x_law) (by decide +kernel)) (fun _ _ _ _ _ => tg_nm (i := 24) nd) (fun _ _ _ _ _ =>
    l_nil) (fun _ _ _ _ _ => d_call G__law_deed (hr.mono (by decide)) gd takes0 T.g__law_deed T.F__law_deed.kp T.b__law_deed (a_cons (d_var 1) (a_cons (d_var 3) (a_cons (d_var 4) (a_nil))))) (sl :=
    [24]) (by decide))) (s_cons (s_set (i := 15) nd (d_new (a_cons (d_lam (k := 6) T.F__law_heard T.g__law_heard T.F__law_heard.kp T.b__law_heard sc__law_heard (hr.mono (by decide)) gd tk (fun cdv s H
    E mw tk hr work => wb__law_heard T  cdv _ _ s H E mw tk (hr.mono (by decide)) gd work) tb_law (hcd.symm.trans T.o_law) (LamX.lamS_by (sc := defScope x_law) (by decide +kernel)) rfl (fun _ _ _ _ _
    => rfl) (fun A outer s H E f c hr gd tk => d_call G_need_batch (hr.mono (by decide)) gd tk T.g_need_batch T.F_need_batch.kp T.b_need_batch (a_cons (d_var 20) (a_nil))) rfl (.inl rfl) rfl)
    (a_nil)))) (s_cons (s_expr (d_app (d_var 15) (a_cons (d_lam (k := 6) T.F__law_heard T.g__law_heard T.F__law_heard.kp T.b__law_heard sc__law_heard (hr.mono (by decide)) gd tk (fun cdv s H E mw tk hr
    work => wb__law_heard T  cdv _ _ s H E mw tk (hr.mono (by decide)) gd work) tb_law (hcd.symm.trans T.o_law) (LamX.lamS_by (sc := defScope x_law) (by decide +kernel)) rfl (fun _ _ _ _ _ => rfl) (fun
    A outer s H E f c hr gd tk => d_call G_need_batch (hr.mono (by decide)) gd tk T.g_need_batch T.F_need_batch.kp T.b_need_batch (a_cons (d_tuple T.z_tuple (a_cons (d_var 20) (a_nil))) (a_nil))) rfl
    (.inl rfl) rfl) (a_nil)))) (s_cons (s_if (t_ne hr.units (d_repr gd hr.units T.z_repr (a_cons (d_var 15) (a_nil))) (d_repr gd hr.units T.z_repr (a_cons (d_lst (a_cons (d_var 6) (a_cons (d_var 6)
    (a_nil)))) (a_nil)))) (s_one (s_ret (d_bl))) (s_nil)) (s_cons (s_set (i := 12) nd (d_call G__law_any (hr.mono (by decide)) gd tk T.g__law_any T.F__law_any.kp T.b__law_any (a_cons (d_var 1) (a_cons
    (d_add (d_len T.z_len (a_cons (d_var 20) (a_nil))) (d_int)) (a_nil))))) (s_cons (s_set (i := 21) nd (d_call G__law_of (hr.mono (by decide)) gd tk T.g__law_of T.F__law_of.kp T.b__law_of (a_cons
    (d_var 1) (a_cons (d_lst (a_cons (d_add (d_add (d_sl (d_var 20) (o_none) (o_some (d_var 12))) (d_lst (a_cons (d_var 18) (a_nil)))) (d_sl (d_var 20) (o_some (d_var 12)) (o_none))) (a_cons (d_tuple
    T.z_tuple (a_cons (d_add (d_sl (d_var 20) (o_none) (o_some (d_var 12))) (d_lst (a_cons (d_var 18) (a_cons (d_non) (a_nil))))) (a_nil))) (a_nil)))) (a_nil))))) (s_cons (s_if (t_ne hr.units (d_repr
    gd hr.units T.z_repr (a_cons (d_lam (k := 6) T.F__law_heard T.g__law_heard T.F__law_heard.kp T.b__law_heard sc__law_heard (hr.mono (by decide)) gd tk (fun cdv s H E mw tk hr work => wb__law_heard T
     cdv _ _ s H E mw tk (hr.mono (by decide)) gd work) tb_law (hcd.symm.trans T.o_law) (LamX.lamS_by (sc := defScope x_law) (by decide +kernel)) rfl (fun _ _ _ _ _ => rfl) (fun A outer s H E f c hr gd
    tk => d_callK0 (ks := ["value"]) (pm := [0]) G_need_batch (hr.mono (by decide)) gd tk T.g_need_batch T.F_need_batch.kp T.k_need_batch_value (k_cons (d_var 21) (k_nil))) rfl (.inl rfl) rfl)
    (a_nil))) (d_repr gd hr.units T.z_repr (a_cons (d_lst (a_cons (d_str) (a_cons (d_var 12) (a_cons (d_bl) (a_nil))))) (a_nil)))) (s_one (s_ret (d_bl))) (s_nil)) (s_cons (s_set (i := 16) nd (d_call
    G__law_of (hr.mono (by decide)) gd tk T.g__law_of T.F__law_of.kp T.b__law_of (a_cons (d_var 1) (a_cons (d_lst (a_cons (d_non) (a_cons (d_str) (a_cons (d_int) (a_cons (d_str) (a_cons (d_bl)
    (a_nil))))))) (a_nil))))) (s_cons (s_if (t_ne hr.units (d_repr gd hr.units T.z_repr (a_cons (d_lam (k := 6) T.F__law_heard T.g__law_heard T.F__law_heard.kp T.b__law_heard sc__law_heard (hr.mono
    (by decide)) gd tk (fun cdv s H E mw tk hr work => wb__law_heard T  cdv _ _ s H E mw tk (hr.mono (by decide)) gd work) tb_law (hcd.symm.trans T.o_law) (LamX.lamS_by (sc := defScope x_law)
    (by decide +kernel)) rfl (fun _ _ _ _ _ => rfl) (fun A outer s H E f c hr gd tk => d_call G_need_batch (hr.mono (by decide)) gd tk T.g_need_batch T.F_need_batch.kp T.b_need_batch (a_cons (d_var 16)
    (a_nil))) rfl (.inl rfl) rfl) (a_nil))) (d_repr gd hr.units T.z_repr (a_cons (d_lst (a_cons (d_str) (a_cons (d_sub (d_int) (d_int)) (a_cons (d_bl) (a_nil))))) (a_nil)))) (s_one (s_ret (d_bl)))
    (s_nil)) (s_cons (s_par2 (i := 22) (j := 23) rfl nd rfl rfl (by decide) rfl rfl (a_cons (d_call G__law_bad (hr.mono (by decide)) gd tk T.g__law_bad T.F__law_bad.kp T.b__law_bad (a_cons (d_var 1)
    (a_cons (d_var 5) (a_nil)))) (a_cons (d_call G__law_of (hr.mono (by decide)) gd tk T.g__law_of T.F__law_of.kp T.b__law_of (a_cons (d_var 1) (a_cons (d_lst (a_cons (d_sub (d_int) (d_int)) (a_cons
    (d_add (d_pow (d_int) (d_int)) (d_int)) (a_cons (d_bl) (a_cons (d_non) (a_cons (d_str) (a_cons (d_tup (a_cons (d_int) (a_nil))) (a_nil)))))))) (a_nil)))) (a_nil))) (by rfl)) (s_cons (s_set (i :=
    15) nd (d_new (a_cons (d_callK0 (ks := ["value"]) (pm := [0]) G_is_node (hr.mono (by decide)) gd tk T.g_is_node T.F_is_node.kp T.k_is_node_value (k_cons (d_var 5) (k_nil))) (a_cons (d_callK0 (ks :=
    ["value"]) (pm := [0]) G_is_kind (hr.mono (by decide)) gd tk T.g_is_kind T.F_is_kind.kp T.k_is_kind_value (k_cons (d_ix (d_var 4) (d_int)) (k_nil))) (a_cons (d_callK0 (ks := ["value"]) (pm := [0])
    G_is_price (hr.mono (by decide)) gd tk T.g_is_price T.F_is_price.kp T.k_is_price_value (k_cons (d_pow (d_int) (d_int)) (k_nil))) (a_cons (d_call G_is_price (hr.mono (by decide)) gd tk T.g_is_price
    T.F_is_price.kp T.b_is_price (a_cons (d_int) (a_nil))) (a_cons (d_call G_is_node (hr.mono (by decide)) gd tk T.g_is_node T.F_is_node.kp T.b_is_node (a_cons (d_var 22) (a_nil))) (a_cons (d_call
    G_is_kind (hr.mono (by decide)) gd tk T.g_is_kind T.F_is_kind.kp T.b_is_kind (a_cons (d_var 22) (a_nil))) (a_cons (d_call G_is_price (hr.mono (by decide)) gd tk T.g_is_price T.F_is_price.kp
    T.b_is_price (a_cons (d_var 23) (a_nil))) (a_nil)))))))))) (s_one (s_ret (d_eq hr.units (d_repr gd hr.units T.z_repr (a_cons (d_var 15) (a_nil))) (d_repr gd hr.units T.z_repr (a_cons (d_add (d_rep
    (a_cons (d_bl) (a_nil)) (d_int)) (d_rep (a_cons (d_bl) (a_nil)) (d_int))) (a_nil))))))))))))))))))))))))))))))))))
/-! ### the facts, gathered -/
theorem tx_mk {P : Program} {w : World} {K : PySem.W.Frag} {h : Heap} {mg : Str → Option Value} (X : K.In h) (G : h.Ns mainGlobals mg) {f0 f1 f2 f3 f4 f5 f6 f7 f8 f9 f10 f11 f12 f13 f14 f15 f16 f17 f18 f19 f20 f21 f22 f23 f24 f25 f26 f27 f28 f29 f30 f31 f32 f33 f34 f36 f37 f38 : Addr} {P0 : Addr}
    {oc0 kV0 dc0 pm0 cd0 ct0 : Value} {od0 an0 : Option Addr} {sl0 : Array (Option Value)}
    (a0 : PySem.W.nsIn K mainGlobals "is_integer" = some (some (.ref f0)))
    (l0 : K.lookup f0 = some ⟨oc0, od0, .func (PySem.W.fnOf "is_integer" "is_integer" (defArgs x_is_integer) (defBody x_is_integer) (defScope x_is_integer) .none kV0 dc0 pm0 an0 cd0 ct0), sl0⟩)
    (c0 : PySem.W.codeIn K cd0 "is_integer" = true)
    (k0 : PySem.W.keepIn K (.ref f0) = true)
    {oc1 kV1 dc1 pm1 cd1 ct1 : Value} {od1 an1 : Option Addr} {sl1 : Array (Option Value)}
    (a1 : PySem.W.nsIn K mainGlobals "is_sequence" = some (some (.ref f1)))
    (l1 : K.lookup f1 = some ⟨oc1, od1, .func (PySem.W.fnOf "is_sequence" "is_sequence" (defArgs x_is_sequence) (defBody x_is_sequence) (defScope x_is_sequence) .none kV1 dc1 pm1 an1 cd1 ct1), sl1⟩)
    (c1 : PySem.W.codeIn K cd1 "is_sequence" = true)
    (k1 : PySem.W.keepIn K (.ref f1) = true)
    {oc2 kV2 dc2 pm2 cd2 ct2 : Value} {od2 an2 : Option Addr} {sl2 : Array (Option Value)}
    (a2 : PySem.W.nsIn K mainGlobals "is_tuple_of" = some (some (.ref f2)))
    (l2 : K.lookup f2 = some ⟨oc2, od2, .func (PySem.W.fnOf "is_tuple_of" "is_tuple_of" (defArgs x_is_tuple_of) (defBody x_is_tuple_of) (defScope x_is_tuple_of) .none kV2 dc2 pm2 an2 cd2 ct2), sl2⟩)
    (c2 : PySem.W.codeIn K cd2 "is_tuple_of" = true)
    (k2 : PySem.W.keepIn K (.ref f2) = true)
    {oc3 kV3 dc3 pm3 cd3 ct3 : Value} {od3 an3 : Option Addr} {sl3 : Array (Option Value)}
    (a3 : PySem.W.nsIn K mainGlobals "is_node" = some (some (.ref f3)))
    (l3 : K.lookup f3 = some ⟨oc3, od3, .func (PySem.W.fnOf "is_node" "is_node" (defArgs x_is_node) (defBody x_is_node) (defScope x_is_node) .none kV3 dc3 pm3 an3 cd3 ct3), sl3⟩)
    (c3 : PySem.W.codeIn K cd3 "is_node" = true)
    (k3 : PySem.W.keepIn K (.ref f3) = true)
    {oc4 kV4 dc4 pm4 cd4 ct4 : Value} {od4 an4 : Option Addr} {sl4 : Array (Option Value)}
    (a4 : PySem.W.nsIn K mainGlobals "is_kind" = some (some (.ref f4)))
    (l4 : K.lookup f4 = some ⟨oc4, od4, .func (PySem.W.fnOf "is_kind" "is_kind" (defArgs x_is_kind) (defBody x_is_kind) (defScope x_is_kind) .none kV4 dc4 pm4 an4 cd4 ct4), sl4⟩)
    (c4 : PySem.W.codeIn K cd4 "is_kind" = true)
    (k4 : PySem.W.keepIn K (.ref f4) = true)
    {oc5 kV5 dc5 pm5 cd5 ct5 : Value} {od5 an5 : Option Addr} {sl5 : Array (Option Value)}
    (a5 : PySem.W.nsIn K mainGlobals "is_price" = some (some (.ref f5)))
    (l5 : K.lookup f5 = some ⟨oc5, od5, .func (PySem.W.fnOf "is_price" "is_price" (defArgs x_is_price) (defBody x_is_price) (defScope x_is_price) .none kV5 dc5 pm5 an5 cd5 ct5), sl5⟩)
    (c5 : PySem.W.codeIn K cd5 "is_price" = true)
    (k5 : PySem.W.keepIn K (.ref f5) = true)
    {oc6 kV6 dc6 pm6 cd6 ct6 : Value} {od6 an6 : Option Addr} {sl6 : Array (Option Value)}
    (a6 : PySem.W.nsIn K mainGlobals "line_fault" = some (some (.ref f6)))
    (l6 : K.lookup f6 = some ⟨oc6, od6, .func (PySem.W.fnOf "line_fault" "line_fault" (defArgs x_line_fault) (defBody x_line_fault) (defScope x_line_fault) .none kV6 dc6 pm6 an6 cd6 ct6), sl6⟩)
    (c6 : PySem.W.codeIn K cd6 "line_fault" = true)
    (k6 : PySem.W.keepIn K (.ref f6) = true)
    {oc7 kV7 dc7 pm7 cd7 ct7 : Value} {od7 an7 : Option Addr} {sl7 : Array (Option Value)}
    (a7 : PySem.W.nsIn K mainGlobals "is_line" = some (some (.ref f7)))
    (l7 : K.lookup f7 = some ⟨oc7, od7, .func (PySem.W.fnOf "is_line" "is_line" (defArgs x_is_line) (defBody x_is_line) (defScope x_is_line) .none kV7 dc7 pm7 an7 cd7 ct7), sl7⟩)
    (c7 : PySem.W.codeIn K cd7 "is_line" = true)
    (k7 : PySem.W.keepIn K (.ref f7) = true)
    {oc8 kV8 dc8 pm8 cd8 ct8 : Value} {od8 an8 : Option Addr} {sl8 : Array (Option Value)}
    (a8 : PySem.W.nsIn K mainGlobals "need_line" = some (some (.ref f8)))
    (l8 : K.lookup f8 = some ⟨oc8, od8, .func (PySem.W.fnOf "need_line" "need_line" (defArgs x_need_line) (defBody x_need_line) (defScope x_need_line) .none kV8 dc8 pm8 an8 cd8 ct8), sl8⟩)
    (c8 : PySem.W.codeIn K cd8 "need_line" = true)
    (k8 : PySem.W.keepIn K (.ref f8) = true)
    {oc9 kV9 dc9 pm9 cd9 ct9 : Value} {od9 an9 : Option Addr} {sl9 : Array (Option Value)}
    (a9 : PySem.W.nsIn K mainGlobals "graph_fault" = some (some (.ref f9)))
    (l9 : K.lookup f9 = some ⟨oc9, od9, .func (PySem.W.fnOf "graph_fault" "graph_fault" (defArgs x_graph_fault) (defBody x_graph_fault) (defScope x_graph_fault) .none kV9 dc9 pm9 an9 cd9 ct9), sl9⟩)
    (c9 : PySem.W.codeIn K cd9 "graph_fault" = true)
    (k9 : PySem.W.keepIn K (.ref f9) = true)
    {oc10 kV10 dc10 pm10 cd10 ct10 : Value} {od10 an10 : Option Addr} {sl10 : Array (Option Value)}
    (a10 : PySem.W.nsIn K mainGlobals "is_graph" = some (some (.ref f10)))
    (l10 : K.lookup f10 = some ⟨oc10, od10, .func (PySem.W.fnOf "is_graph" "is_graph" (defArgs x_is_graph) (defBody x_is_graph) (defScope x_is_graph) .none kV10 dc10 pm10 an10 cd10 ct10), sl10⟩)
    (c10 : PySem.W.codeIn K cd10 "is_graph" = true)
    (k10 : PySem.W.keepIn K (.ref f10) = true)
    {oc11 kV11 dc11 pm11 cd11 ct11 : Value} {od11 an11 : Option Addr} {sl11 : Array (Option Value)}
    (a11 : PySem.W.nsIn K mainGlobals "need_graph" = some (some (.ref f11)))
    (l11 : K.lookup f11 = some ⟨oc11, od11, .func (PySem.W.fnOf "need_graph" "need_graph" (defArgs x_need_graph) (defBody x_need_graph) (defScope x_need_graph) .none kV11 dc11 pm11 an11 cd11 ct11), sl11⟩)
    (c11 : PySem.W.codeIn K cd11 "need_graph" = true)
    (k11 : PySem.W.keepIn K (.ref f11) = true)
    {oc12 kV12 dc12 pm12 cd12 ct12 : Value} {od12 an12 : Option Addr} {sl12 : Array (Option Value)}
    (a12 : PySem.W.nsIn K mainGlobals "deed_fault" = some (some (.ref f12)))
    (l12 : K.lookup f12 = some ⟨oc12, od12, .func (PySem.W.fnOf "deed_fault" "deed_fault" (defArgs x_deed_fault) (defBody x_deed_fault) (defScope x_deed_fault) .none kV12 dc12 pm12 an12 cd12 ct12), sl12⟩)
    (c12 : PySem.W.codeIn K cd12 "deed_fault" = true)
    (k12 : PySem.W.keepIn K (.ref f12) = true)
    {oc13 kV13 dc13 pm13 cd13 ct13 : Value} {od13 an13 : Option Addr} {sl13 : Array (Option Value)}
    (a13 : PySem.W.nsIn K mainGlobals "is_deed" = some (some (.ref f13)))
    (l13 : K.lookup f13 = some ⟨oc13, od13, .func (PySem.W.fnOf "is_deed" "is_deed" (defArgs x_is_deed) (defBody x_is_deed) (defScope x_is_deed) .none kV13 dc13 pm13 an13 cd13 ct13), sl13⟩)
    (c13 : PySem.W.codeIn K cd13 "is_deed" = true)
    (k13 : PySem.W.keepIn K (.ref f13) = true)
    {oc14 kV14 dc14 pm14 cd14 ct14 : Value} {od14 an14 : Option Addr} {sl14 : Array (Option Value)}
    (a14 : PySem.W.nsIn K mainGlobals "need_deed" = some (some (.ref f14)))
    (l14 : K.lookup f14 = some ⟨oc14, od14, .func (PySem.W.fnOf "need_deed" "need_deed" (defArgs x_need_deed) (defBody x_need_deed) (defScope x_need_deed) .none kV14 dc14 pm14 an14 cd14 ct14), sl14⟩)
    (c14 : PySem.W.codeIn K cd14 "need_deed" = true)
    (k14 : PySem.W.keepIn K (.ref f14) = true)
    {oc15 kV15 dc15 pm15 cd15 ct15 : Value} {od15 an15 : Option Addr} {sl15 : Array (Option Value)}
    (a15 : PySem.W.nsIn K mainGlobals "need_batch" = some (some (.ref f15)))
    (l15 : K.lookup f15 = some ⟨oc15, od15, .func (PySem.W.fnOf "need_batch" "need_batch" (defArgs x_need_batch) (defBody x_need_batch) (defScope x_need_batch) .none kV15 dc15 pm15 an15 cd15 ct15), sl15⟩)
    (c15 : PySem.W.codeIn K cd15 "need_batch" = true)
    (k15 : PySem.W.keepIn K (.ref f15) = true)
    {oc16 kV16 dc16 pm16 cd16 ct16 : Value} {od16 an16 : Option Addr} {sl16 : Array (Option Value)}
    (a16 : PySem.W.nsIn K mainGlobals "_law_source" = some (some (.ref f16)))
    (l16 : K.lookup f16 = some ⟨oc16, od16, .func (PySem.W.fnOf "_law_source" "_law_source" (defArgs x__law_source) (defBody x__law_source) (defScope x__law_source) .none kV16 dc16 pm16 an16 cd16 ct16), sl16⟩)
    (c16 : PySem.W.codeIn K cd16 "_law_source" = true)
    (k16 : PySem.W.keepIn K (.ref f16) = true)
    {oc17 kV17 dc17 pm17 cd17 ct17 : Value} {od17 an17 : Option Addr} {sl17 : Array (Option Value)}
    (a17 : PySem.W.nsIn K mainGlobals "_law_any" = some (some (.ref f17)))
    (l17 : K.lookup f17 = some ⟨oc17, od17, .func (PySem.W.fnOf "_law_any" "_law_any" (defArgs x__law_any) (defBody x__law_any) (defScope x__law_any) .none kV17 dc17 pm17 an17 cd17 ct17), sl17⟩)
    (c17 : PySem.W.codeIn K cd17 "_law_any" = true)
    (k17 : PySem.W.keepIn K (.ref f17) = true)
    {oc18 kV18 dc18 pm18 cd18 ct18 : Value} {od18 an18 : Option Addr} {sl18 : Array (Option Value)}
    (a18 : PySem.W.nsIn K mainGlobals "_law_of" = some (some (.ref f18)))
    (l18 : K.lookup f18 = some ⟨oc18, od18, .func (PySem.W.fnOf "_law_of" "_law_of" (defArgs x__law_of) (defBody x__law_of) (defScope x__law_of) .none kV18 dc18 pm18 an18 cd18 ct18), sl18⟩)
    (c18 : PySem.W.codeIn K cd18 "_law_of" = true)
    (k18 : PySem.W.keepIn K (.ref f18) = true)
    {oc19 kV19 dc19 pm19 cd19 ct19 : Value} {od19 an19 : Option Addr} {sl19 : Array (Option Value)}
    (a19 : PySem.W.nsIn K mainGlobals "_law_names" = some (some (.ref f19)))
    (l19 : K.lookup f19 = some ⟨oc19, od19, .func (PySem.W.fnOf "_law_names" "_law_names" (defArgs x__law_names) (defBody x__law_names) (defScope x__law_names) .none kV19 dc19 pm19 an19 cd19 ct19), sl19⟩)
    (c19 : PySem.W.codeIn K cd19 "_law_names" = true)
    (k19 : PySem.W.keepIn K (.ref f19) = true)
    {oc20 kV20 dc20 pm20 cd20 ct20 : Value} {od20 an20 : Option Addr} {sl20 : Array (Option Value)}
    (a20 : PySem.W.nsIn K mainGlobals "_law_price" = some (some (.ref f20)))
    (l20 : K.lookup f20 = some ⟨oc20, od20, .func (PySem.W.fnOf "_law_price" "_law_price" (defArgs x__law_price) (defBody x__law_price) (defScope x__law_price) .none kV20 dc20 pm20 an20 cd20 ct20), sl20⟩)
    (c20 : PySem.W.codeIn K cd20 "_law_price" = true)
    (k20 : PySem.W.keepIn K (.ref f20) = true)
    {oc21 kV21 dc21 pm21 cd21 ct21 : Value} {od21 an21 : Option Addr} {sl21 : Array (Option Value)}
    (a21 : PySem.W.nsIn K mainGlobals "_law_deed" = some (some (.ref f21)))
    (l21 : K.lookup f21 = some ⟨oc21, od21, .func (PySem.W.fnOf "_law_deed" "_law_deed" (defArgs x__law_deed) (defBody x__law_deed) (defScope x__law_deed) .none kV21 dc21 pm21 an21 cd21 ct21), sl21⟩)
    (c21 : PySem.W.codeIn K cd21 "_law_deed" = true)
    (k21 : PySem.W.keepIn K (.ref f21) = true)
    {oc22 kV22 dc22 pm22 cd22 ct22 : Value} {od22 an22 : Option Addr} {sl22 : Array (Option Value)}
    (a22 : PySem.W.nsIn K mainGlobals "_law_do" = some (some (.ref f22)))
    (l22 : K.lookup f22 = some ⟨oc22, od22, .func (PySem.W.fnOf "_law_do" "_law_do" (defArgs x__law_do) (defBody x__law_do) (defScope x__law_do) .none kV22 dc22 pm22 an22 cd22 ct22), sl22⟩)
    (c22 : PySem.W.codeIn K cd22 "_law_do" = true)
    (k22 : PySem.W.keepIn K (.ref f22) = true)
    {oc23 kV23 dc23 pm23 cd23 ct23 : Value} {od23 an23 : Option Addr} {sl23 : Array (Option Value)}
    (a23 : PySem.W.nsIn K mainGlobals "_law_graph" = some (some (.ref f23)))
    (l23 : K.lookup f23 = some ⟨oc23, od23, .func (PySem.W.fnOf "_law_graph" "_law_graph" (defArgs x__law_graph) (defBody x__law_graph) (defScope x__law_graph) .none kV23 dc23 pm23 an23 cd23 ct23), sl23⟩)
    (c23 : PySem.W.codeIn K cd23 "_law_graph" = true)
    (k23 : PySem.W.keepIn K (.ref f23) = true)
    {oc24 kV24 dc24 pm24 cd24 ct24 : Value} {od24 an24 : Option Addr} {sl24 : Array (Option Value)}
    (a24 : PySem.W.nsIn K mainGlobals "_law_drawn" = some (some (.ref f24)))
    (l24 : K.lookup f24 = some ⟨oc24, od24, .func (PySem.W.fnOf "_law_drawn" "_law_drawn" (defArgs x__law_drawn) (defBody x__law_drawn) (defScope x__law_drawn) .none kV24 dc24 pm24 an24 cd24 ct24), sl24⟩)
    (c24 : PySem.W.codeIn K cd24 "_law_drawn" = true)
    (k24 : PySem.W.keepIn K (.ref f24) = true)
    {oc25 kV25 dc25 pm25 cd25 ct25 : Value} {od25 an25 : Option Addr} {sl25 : Array (Option Value)}
    (a25 : PySem.W.nsIn K mainGlobals "_law_bad" = some (some (.ref f25)))
    (l25 : K.lookup f25 = some ⟨oc25, od25, .func (PySem.W.fnOf "_law_bad" "_law_bad" (defArgs x__law_bad) (defBody x__law_bad) (defScope x__law_bad) .none kV25 dc25 pm25 an25 cd25 ct25), sl25⟩)
    (c25 : PySem.W.codeIn K cd25 "_law_bad" = true)
    (k25 : PySem.W.keepIn K (.ref f25) = true)
    {oc26 kV26 dc26 pm26 cd26 ct26 : Value} {od26 an26 : Option Addr} {sl26 : Array (Option Value)}
    (a26 : PySem.W.nsIn K mainGlobals "_law_bad_line" = some (some (.ref f26)))
    (l26 : K.lookup f26 = some ⟨oc26, od26, .func (PySem.W.fnOf "_law_bad_line" "_law_bad_line" (defArgs x__law_bad_line) (defBody x__law_bad_line) (defScope x__law_bad_line) .none kV26 dc26 pm26 an26 cd26 ct26), sl26⟩)
    (c26 : PySem.W.codeIn K cd26 "_law_bad_line" = true)
    (k26 : PySem.W.keepIn K (.ref f26) = true)
    {oc27 kV27 dc27 pm27 cd27 ct27 : Value} {od27 an27 : Option Addr} {sl27 : Array (Option Value)}
    (a27 : PySem.W.nsIn K mainGlobals "_law_bad_graph" = some (some (.ref f27)))
    (l27 : K.lookup f27 = some ⟨oc27, od27, .func (PySem.W.fnOf "_law_bad_graph" "_law_bad_graph" (defArgs x__law_bad_graph) (defBody x__law_bad_graph) (defScope x__law_bad_graph) .none kV27 dc27 pm27 an27 cd27 ct27), sl27⟩)
    (c27 : PySem.W.codeIn K cd27 "_law_bad_graph" = true)
    (k27 : PySem.W.keepIn K (.ref f27) = true)
    {oc28 kV28 dc28 pm28 cd28 ct28 : Value} {od28 an28 : Option Addr} {sl28 : Array (Option Value)}
    (a28 : PySem.W.nsIn K mainGlobals "_law_bad_deed" = some (some (.ref f28)))
    (l28 : K.lookup f28 = some ⟨oc28, od28, .func (PySem.W.fnOf "_law_bad_deed" "_law_bad_deed" (defArgs x__law_bad_deed) (defBody x__law_bad_deed) (defScope x__law_bad_deed) .none kV28 dc28 pm28 an28 cd28 ct28), sl28⟩)
    (c28 : PySem.W.codeIn K cd28 "_law_bad_deed" = true)
    (k28 : PySem.W.keepIn K (.ref f28) = true)
    {oc29 kV29 dc29 pm29 cd29 ct29 : Value} {od29 an29 : Option Addr} {sl29 : Array (Option Value)}
    (a29 : PySem.W.nsIn K mainGlobals "_law_heard" = some (some (.ref f29)))
    (l29 : K.lookup f29 = some ⟨oc29, od29, .func (PySem.W.fnOf "_law_heard" "_law_heard" (defArgs x__law_heard) (defBody x__law_heard) (defScope x__law_heard) .none kV29 dc29 pm29 an29 cd29 ct29), sl29⟩)
    (c29 : PySem.W.codeIn K cd29 "_law_heard" = true)
    (k29 : PySem.W.keepIn K (.ref f29) = true)
    {oc30 kV30 dc30 pm30 ct30 : Value} {od30 an30 : Option Addr} {sl30 : Array (Option Value)} {cc30 : Addr}
    (a30 : PySem.W.nsIn K mainGlobals "law" = some (some (.ref f30)))
    (l30 : K.lookup f30 = some ⟨oc30, od30, .func (PySem.W.fnOf "law" "law" (defArgs x_law) (defBody x_law) (defScope x_law) .none kV30 dc30 pm30 an30 (.ref cc30) ct30), sl30⟩)
    (c30 : PySem.W.codeIn K (.ref cc30) "law" = true)
    (k30 : PySem.W.keepIn K (.ref f30) = true)
    (sp : PySem.W.specialIn K (.builtin "object.__class__") "__get__" = some (some (.builtin "getset_descriptor.__get__")))
    (tp : PySem.W.takesIn K (.builtin "object.__class__") = some true)
    (tq : PySem.W.nsIn K cStatics "thirdparty.any" = some none)
    (tr : (P.main.scope.names.lookup ("super" : Str)).isSome = false)
    (ea31 : PySem.W.nsIn K mainGlobals "StoreError" = some (some (.ref f31)))
    (eb31 : PySem.W.findIn K (.ref f31) "__getattribute__" = some (some (.builtin "BaseException.__getattribute__")))
    (ec31 : PySem.W.findIn K (.ref f31) "__getattr__" = some none)
    (ed31 : PySem.W.subIn K (.ref f31) (.type "BaseException") = some true)
    (ee31 : PySem.W.hasDictIn K f31 = true)
    (ef31 : PySem.W.findIn K (.ref f31) "__class__" = some (some (.builtin "object.__class__")))
    (eg31 : PySem.W.mroIn K f31 (.type "object") = some true)
    (eh31 : PySem.W.typeIn K (.ref f31) = some (.type "type"))
    (ei31 : PySem.W.keepIn K (.ref f31) = true)
    (ej31 : PySem.W.subIn K (.ref f31) (.ref f31) = some true)
    (ea32 : PySem.W.nsIn K mainGlobals "InvalidGraph" = some (some (.ref f32)))
    (eb32 : PySem.W.findIn K (.ref f32) "__getattribute__" = some (some (.builtin "BaseException.__getattribute__")))
    (ec32 : PySem.W.findIn K (.ref f32) "__getattr__" = some none)
    (ed32 : PySem.W.subIn K (.ref f32) (.type "BaseException") = some true)
    (ee32 : PySem.W.hasDictIn K f32 = true)
    (ef32 : PySem.W.findIn K (.ref f32) "__class__" = some (some (.builtin "object.__class__")))
    (eg32 : PySem.W.mroIn K f32 (.type "object") = some true)
    (eh32 : PySem.W.typeIn K (.ref f32) = some (.type "type"))
    (ei32 : PySem.W.keepIn K (.ref f32) = true)
    (ej32 : PySem.W.subIn K (.ref f32) (.ref f32) = some true)
    (ea33 : PySem.W.nsIn K mainGlobals "InvalidLine" = some (some (.ref f33)))
    (eb33 : PySem.W.findIn K (.ref f33) "__getattribute__" = some (some (.builtin "BaseException.__getattribute__")))
    (ec33 : PySem.W.findIn K (.ref f33) "__getattr__" = some none)
    (ed33 : PySem.W.subIn K (.ref f33) (.type "BaseException") = some true)
    (ee33 : PySem.W.hasDictIn K f33 = true)
    (ef33 : PySem.W.findIn K (.ref f33) "__class__" = some (some (.builtin "object.__class__")))
    (eg33 : PySem.W.mroIn K f33 (.type "object") = some true)
    (eh33 : PySem.W.typeIn K (.ref f33) = some (.type "type"))
    (ei33 : PySem.W.keepIn K (.ref f33) = true)
    (ej33 : PySem.W.subIn K (.ref f33) (.ref f33) = some true)
    (ea34 : PySem.W.nsIn K mainGlobals "InvalidDeed" = some (some (.ref f34)))
    (eb34 : PySem.W.findIn K (.ref f34) "__getattribute__" = some (some (.builtin "BaseException.__getattribute__")))
    (ec34 : PySem.W.findIn K (.ref f34) "__getattr__" = some none)
    (ed34 : PySem.W.subIn K (.ref f34) (.type "BaseException") = some true)
    (ee34 : PySem.W.hasDictIn K f34 = true)
    (ef34 : PySem.W.findIn K (.ref f34) "__class__" = some (some (.builtin "object.__class__")))
    (eg34 : PySem.W.mroIn K f34 (.type "object") = some true)
    (eh34 : PySem.W.typeIn K (.ref f34) = some (.type "type"))
    (ei34 : PySem.W.keepIn K (.ref f34) = true)
    (ej34 : PySem.W.subIn K (.ref f34) (.ref f34) = some true)
    (en34_at : PySem.W.findIn K (.ref f34) "at" = some none)
    (en32_at : PySem.W.findIn K (.ref f32) "at" = some none)
    (en33_at : PySem.W.findIn K (.ref f33) "at" = some none)
    (eu34_34 : PySem.W.subIn K (.ref f34) (.ref f34) = some true)
    (eu34_32 : PySem.W.subIn K (.ref f34) (.ref f32) = some false)
    (eu34_33 : PySem.W.subIn K (.ref f34) (.ref f33) = some false)
    (eu34_31 : PySem.W.subIn K (.ref f34) (.ref f31) = some true)
    (eu32_34 : PySem.W.subIn K (.ref f32) (.ref f34) = some false)
    (eu32_32 : PySem.W.subIn K (.ref f32) (.ref f32) = some true)
    (eu32_33 : PySem.W.subIn K (.ref f32) (.ref f33) = some false)
    (eu32_31 : PySem.W.subIn K (.ref f32) (.ref f31) = some true)
    (eu33_34 : PySem.W.subIn K (.ref f33) (.ref f34) = some false)
    (eu33_32 : PySem.W.subIn K (.ref f33) (.ref f32) = some false)
    (eu33_33 : PySem.W.subIn K (.ref f33) (.ref f33) = some true)
    (eu33_31 : PySem.W.subIn K (.ref f33) (.ref f31) = some true)
    {nm32 qn32 : Str} {N32 : Addr} {bs32 bm32 : List Value} {sn32 : List Str} {sb32 : List Value} {ab32 : Bool} {cl32 : Option Bool} {dd32 : Option Addr} {ka32 kb32 kc32 kd32 ke32 : Option Value}
    {oc32 kV32 dc32 pm32 ct32 ccl32 cel32 : Value} {od32 an32 cdd32 cld32 : Option Addr} {sl32 ccs32 csl32 : Array (Option Value)} {qual32 file32 : Str} {cda32 cc32 : Addr} {vs32 : Array Value} {tf32 : Tok}
    (xa32 : K.lookup f32 = some (excClassObj nm32 qn32 f32 N32 bs32 bm32 true sn32 sb32 ab32 cl32 dd32 ka32 kb32 kc32 kd32 ke32 "Exception.__new__"))
    (xb32 : ErE.Line [.type "Exception", .type "BaseException", .type "object"] bm32)
    (xc32 : PySem.W.findIn K (.ref f32) "__setattr__" = some (some (.builtin "object.__setattr__")))
    (xd32 : PySem.W.findIn K (.ref f32) "__init__" = some (some (.ref f36)))
    (xe32 : PySem.W.typeIn K (.ref f36) = some (.type "function"))
    (xf32 : PySem.W.ks_superIn K f32 f32 "__init__" = some (some (.builtin "Exception.__init__")))
    (xg32 : PySem.W.subIn K (.ref f32) (.type "Exception") = some true)
    (xh32 : K.lookup f36 = some ⟨oc32, od32, .func (PySem.W.ksFn "__init__" qual32 (defArgs (methAt x_InvalidGraph 0)) (defBody (methAt x_InvalidGraph 0)) (defScope (methAt x_InvalidGraph 0)) .none kV32 dc32 pm32 an32 (.ref cda32) ct32 cc32), sl32⟩)
    (xi32 : PySem.W.codeIn K (.ref cda32) qual32 = true)
    (xj32 : K.lookup cda32 = some ⟨ccl32, cdd32, .fields vs32, ccs32⟩)
    (xk32 : vs32[2]? = some (.str file32 tf32))
    (xl32 : ((P.main.file : Str) == file32) = true)
    (xm32 : K.lookup cc32 = some ⟨cel32, cld32, .cell (some (.ref f32)), csl32⟩)
    {nm33 qn33 : Str} {N33 : Addr} {bs33 bm33 : List Value} {sn33 : List Str} {sb33 : List Value} {ab33 : Bool} {cl33 : Option Bool} {dd33 : Option Addr} {ka33 kb33 kc33 kd33 ke33 : Option Value}
    {oc33 kV33 dc33 pm33 ct33 ccl33 cel33 : Value} {od33 an33 cdd33 cld33 : Option Addr} {sl33 ccs33 csl33 : Array (Option Value)} {qual33 file33 : Str} {cda33 cc33 : Addr} {vs33 : Array Value} {tf33 : Tok}
    (xa33 : K.lookup f33 = some (excClassObj nm33 qn33 f33 N33 bs33 bm33 true sn33 sb33 ab33 cl33 dd33 ka33 kb33 kc33 kd33 ke33 "Exception.__new__"))
    (xb33 : ErE.Line [.type "Exception", .type "BaseException", .type "object"] bm33)
    (xc33 : PySem.W.findIn K (.ref f33) "__setattr__" = some (some (.builtin "object.__setattr__")))
    (xd33 : PySem.W.findIn K (.ref f33) "__init__" = some (some (.ref f37)))
    (xe33 : PySem.W.typeIn K (.ref f37) = some (.type "function"))
    (xf33 : PySem.W.ks_superIn K f33 f33 "__init__" = some (some (.builtin "Exception.__init__")))
    (xg33 : PySem.W.subIn K (.ref f33) (.type "Exception") = some true)
    (xh33 : K.lookup f37 = some ⟨oc33, od33, .func (PySem.W.ksFn "__init__" qual33 (defArgs (methAt x_InvalidLine 0)) (defBody (methAt x_InvalidLine 0)) (defScope (methAt x_InvalidLine 0)) .none kV33 dc33 pm33 an33 (.ref cda33) ct33 cc33), sl33⟩)
    (xi33 : PySem.W.codeIn K (.ref cda33) qual33 = true)
    (xj33 : K.lookup cda33 = some ⟨ccl33, cdd33, .fields vs33, ccs33⟩)
    (xk33 : vs33[2]? = some (.str file33 tf33))
    (xl33 : ((P.main.file : Str) == file33) = true)
    (xm33 : K.lookup cc33 = some ⟨cel33, cld33, .cell (some (.ref f33)), csl33⟩)
    {nm34 qn34 : Str} {N34 : Addr} {bs34 bm34 : List Value} {sn34 : List Str} {sb34 : List Value} {ab34 : Bool} {cl34 : Option Bool} {dd34 : Option Addr} {ka34 kb34 kc34 kd34 ke34 : Option Value}
    {oc34 kV34 dc34 pm34 ct34 ccl34 cel34 : Value} {od34 an34 cdd34 cld34 : Option Addr} {sl34 ccs34 csl34 : Array (Option Value)} {qual34 file34 : Str} {cda34 cc34 : Addr} {vs34 : Array Value} {tf34 : Tok}
    (xa34 : K.lookup f34 = some (excClassObj nm34 qn34 f34 N34 bs34 bm34 true sn34 sb34 ab34 cl34 dd34 ka34 kb34 kc34 kd34 ke34 "Exception.__new__"))
    (xb34 : ErE.Line [.type "Exception", .type "BaseException", .type "object"] bm34)
    (xc34 : PySem.W.findIn K (.ref f34) "__setattr__" = some (some (.builtin "object.__setattr__")))
    (xd34 : PySem.W.findIn K (.ref f34) "__init__" = some (some (.ref f38)))
    (xe34 : PySem.W.typeIn K (.ref f38) = some (.type "function"))
    (xf34 : PySem.W.ks_superIn K f34 f34 "__init__" = some (some (.builtin "Exception.__init__")))
    (xg34 : PySem.W.subIn K (.ref f34) (.type "Exception") = some true)
    (xh34 : K.lookup f38 = some ⟨oc34, od34, .func (PySem.W.ksFn "__init__" qual34 (defArgs (methAt x_InvalidDeed 0)) (defBody (methAt x_InvalidDeed 0)) (defScope (methAt x_InvalidDeed 0)) .none kV34 dc34 pm34 an34 (.ref cda34) ct34 cc34), sl34⟩)
    (xi34 : PySem.W.codeIn K (.ref cda34) qual34 = true)
    (xj34 : K.lookup cda34 = some ⟨ccl34, cdd34, .fields vs34, ccs34⟩)
    (xk34 : vs34[2]? = some (.str file34 tf34))
    (xl34 : ((P.main.file : Str) == file34) = true)
    (xm34 : K.lookup cc34 = some ⟨cel34, cld34, .cell (some (.ref f34)), csl34⟩)
    (z0 : PySem.W.nsIn K mainGlobals "abs" = some none)
    (z1 : PySem.W.nsIn K mainGlobals "all" = some none)
    (z2 : PySem.W.nsIn K mainGlobals "bool" = some none)
    (z3 : PySem.W.nsIn K mainGlobals "enumerate" = some none)
    (z4 : PySem.W.nsIn K mainGlobals "int" = some none)
    (z5 : PySem.W.nsIn K mainGlobals "isinstance" = some none)
    (z6 : PySem.W.nsIn K mainGlobals "len" = some none)
    (z7 : PySem.W.nsIn K mainGlobals "list" = some none)
    (z8 : PySem.W.nsIn K mainGlobals "range" = some none)
    (z9 : PySem.W.nsIn K mainGlobals "repr" = some none)
    (z10 : PySem.W.nsIn K mainGlobals "sorted" = some none)
    (z11 : PySem.W.nsIn K mainGlobals "str" = some none)
    (z12 : PySem.W.nsIn K mainGlobals "super" = some none)
    (z13 : PySem.W.nsIn K mainGlobals "tuple" = some none)
    {t0 : Tok} (u0 : PySem.W.nsIn K mainGlobals "SIGNS" = some (some (.str "0123456789abcdefghijklmnopqrstuvwxyz" t0)))
    {t1 : Tok} (u1 : PySem.W.nsIn K mainGlobals "GREATEST_PRICE" = some (some (.int 1000000 t1)))
    (hpw : pw = (P, w))
    : Tx P w K mg (fun i => [f0, f1, f2, f3, f4, f5, f6, f7, f8, f9, f10, f11, f12, f13, f14, f15, f16, f17, f18, f19, f20, f21, f22, f23, f24, f25, f26, f27, f28, f29, f30, f31, f32, f33, f34, 0, f36, f37, f38].getD i 0) (fun i => [PySem.W.fnOf "is_integer" "is_integer" (defArgs x_is_integer) (defBody x_is_integer) (defScope x_is_integer) .none kV0 dc0 pm0 an0 cd0 ct0,
      PySem.W.fnOf "is_sequence" "is_sequence" (defArgs x_is_sequence) (defBody x_is_sequence) (defScope x_is_sequence) .none kV1 dc1 pm1 an1 cd1 ct1,
      PySem.W.fnOf "is_tuple_of" "is_tuple_of" (defArgs x_is_tuple_of) (defBody x_is_tuple_of) (defScope x_is_tuple_of) .none kV2 dc2 pm2 an2 cd2 ct2,
      PySem.W.fnOf "is_node" "is_node" (defArgs x_is_node) (defBody x_is_node) (defScope x_is_node) .none kV3 dc3 pm3 an3 cd3 ct3,
      PySem.W.fnOf "is_kind" "is_kind" (defArgs x_is_kind) (defBody x_is_kind) (defScope x_is_kind) .none kV4 dc4 pm4 an4 cd4 ct4,
      PySem.W.fnOf "is_price" "is_price" (defArgs x_is_price) (defBody x_is_price) (defScope x_is_price) .none kV5 dc5 pm5 an5 cd5 ct5,
      PySem.W.fnOf "line_fault" "line_fault" (defArgs x_line_fault) (defBody x_line_fault) (defScope x_line_fault) .none kV6 dc6 pm6 an6 cd6 ct6,
      PySem.W.fnOf "is_line" "is_line" (defArgs x_is_line) (defBody x_is_line) (defScope x_is_line) .none kV7 dc7 pm7 an7 cd7 ct7,
      PySem.W.fnOf "need_line" "need_line" (defArgs x_need_line) (defBody x_need_line) (defScope x_need_line) .none kV8 dc8 pm8 an8 cd8 ct8,
      PySem.W.fnOf "graph_fault" "graph_fault" (defArgs x_graph_fault) (defBody x_graph_fault) (defScope x_graph_fault) .none kV9 dc9 pm9 an9 cd9 ct9,
      PySem.W.fnOf "is_graph" "is_graph" (defArgs x_is_graph) (defBody x_is_graph) (defScope x_is_graph) .none kV10 dc10 pm10 an10 cd10 ct10,
      PySem.W.fnOf "need_graph" "need_graph" (defArgs x_need_graph) (defBody x_need_graph) (defScope x_need_graph) .none kV11 dc11 pm11 an11 cd11 ct11,
      PySem.W.fnOf "deed_fault" "deed_fault" (defArgs x_deed_fault) (defBody x_deed_fault) (defScope x_deed_fault) .none kV12 dc12 pm12 an12 cd12 ct12,
      PySem.W.fnOf "is_deed" "is_deed" (defArgs x_is_deed) (defBody x_is_deed) (defScope x_is_deed) .none kV13 dc13 pm13 an13 cd13 ct13,
      PySem.W.fnOf "need_deed" "need_deed" (defArgs x_need_deed) (defBody x_need_deed) (defScope x_need_deed) .none kV14 dc14 pm14 an14 cd14 ct14,
      PySem.W.fnOf "need_batch" "need_batch" (defArgs x_need_batch) (defBody x_need_batch) (defScope x_need_batch) .none kV15 dc15 pm15 an15 cd15 ct15,
      PySem.W.fnOf "_law_source" "_law_source" (defArgs x__law_source) (defBody x__law_source) (defScope x__law_source) .none kV16 dc16 pm16 an16 cd16 ct16,
      PySem.W.fnOf "_law_any" "_law_any" (defArgs x__law_any) (defBody x__law_any) (defScope x__law_any) .none kV17 dc17 pm17 an17 cd17 ct17,
      PySem.W.fnOf "_law_of" "_law_of" (defArgs x__law_of) (defBody x__law_of) (defScope x__law_of) .none kV18 dc18 pm18 an18 cd18 ct18,
      PySem.W.fnOf "_law_names" "_law_names" (defArgs x__law_names) (defBody x__law_names) (defScope x__law_names) .none kV19 dc19 pm19 an19 cd19 ct19,
      PySem.W.fnOf "_law_price" "_law_price" (defArgs x__law_price) (defBody x__law_price) (defScope x__law_price) .none kV20 dc20 pm20 an20 cd20 ct20,
      PySem.W.fnOf "_law_deed" "_law_deed" (defArgs x__law_deed) (defBody x__law_deed) (defScope x__law_deed) .none kV21 dc21 pm21 an21 cd21 ct21,
      PySem.W.fnOf "_law_do" "_law_do" (defArgs x__law_do) (defBody x__law_do) (defScope x__law_do) .none kV22 dc22 pm22 an22 cd22 ct22,
      PySem.W.fnOf "_law_graph" "_law_graph" (defArgs x__law_graph) (defBody x__law_graph) (defScope x__law_graph) .none kV23 dc23 pm23 an23 cd23 ct23,
      PySem.W.fnOf "_law_drawn" "_law_drawn" (defArgs x__law_drawn) (defBody x__law_drawn) (defScope x__law_drawn) .none kV24 dc24 pm24 an24 cd24 ct24,
      PySem.W.fnOf "_law_bad" "_law_bad" (defArgs x__law_bad) (defBody x__law_bad) (defScope x__law_bad) .none kV25 dc25 pm25 an25 cd25 ct25,
      PySem.W.fnOf "_law_bad_line" "_law_bad_line" (defArgs x__law_bad_line) (defBody x__law_bad_line) (defScope x__law_bad_line) .none kV26 dc26 pm26 an26 cd26 ct26,
      PySem.W.fnOf "_law_bad_graph" "_law_bad_graph" (defArgs x__law_bad_graph) (defBody x__law_bad_graph) (defScope x__law_bad_graph) .none kV27 dc27 pm27 an27 cd27 ct27,
      PySem.W.fnOf "_law_bad_deed" "_law_bad_deed" (defArgs x__law_bad_deed) (defBody x__law_bad_deed) (defScope x__law_bad_deed) .none kV28 dc28 pm28 an28 cd28 ct28,
      PySem.W.fnOf "_law_heard" "_law_heard" (defArgs x__law_heard) (defBody x__law_heard) (defScope x__law_heard) .none kV29 dc29 pm29 an29 cd29 ct29,
      PySem.W.fnOf "law" "law" (defArgs x_law) (defBody x_law) (defScope x_law) .none kV30 dc30 pm30 an30 (.ref cc30) ct30].getD i default) (fun i => [(cc30, P0)].getD i (0, 0)) where
  hpw := hpw
  g_is_integer := PySem.W.mg_of X G a0
  F_is_integer := fun_mk (st := x_is_integer) l0 c0 k0
  b_is_integer := (fun_mk (st := x_is_integer) l0 c0 k0).binds (ps := ["value"]) fun _ _ _ _ _ _ us hl => match us, hl with | [_], _ => rfl
  g_is_sequence := PySem.W.mg_of X G a1
  F_is_sequence := fun_mk (st := x_is_sequence) l1 c1 k1
  b_is_sequence := (fun_mk (st := x_is_sequence) l1 c1 k1).binds (ps := ["value"]) fun _ _ _ _ _ _ us hl => match us, hl with | [_], _ => rfl
  g_is_tuple_of := PySem.W.mg_of X G a2
  F_is_tuple_of := fun_mk (st := x_is_tuple_of) l2 c2 k2
  b_is_tuple_of := (fun_mk (st := x_is_tuple_of) l2 c2 k2).binds (ps := ["value", "size"]) fun _ _ _ _ _ _ us hl => match us, hl with | [_, _], _ => rfl
  g_is_node := PySem.W.mg_of X G a3
  F_is_node := fun_mk (st := x_is_node) l3 c3 k3
  b_is_node := (fun_mk (st := x_is_node) l3 c3 k3).binds (ps := ["value"]) fun _ _ _ _ _ _ us hl => match us, hl with | [_], _ => rfl
  g_is_kind := PySem.W.mg_of X G a4
  F_is_kind := fun_mk (st := x_is_kind) l4 c4 k4
  b_is_kind := (fun_mk (st := x_is_kind) l4 c4 k4).binds (ps := ["value"]) fun _ _ _ _ _ _ us hl => match us, hl with | [_], _ => rfl
  g_is_price := PySem.W.mg_of X G a5
  F_is_price := fun_mk (st := x_is_price) l5 c5 k5
  b_is_price := (fun_mk (st := x_is_price) l5 c5 k5).binds (ps := ["value"]) fun _ _ _ _ _ _ us hl => match us, hl with | [_], _ => rfl
  g_line_fault := PySem.W.mg_of X G a6
  F_line_fault := fun_mk (st := x_line_fault) l6 c6 k6
  b_line_fault := (fun_mk (st := x_line_fault) l6 c6 k6).binds (ps := ["value"]) fun _ _ _ _ _ _ us hl => match us, hl with | [_], _ => rfl
  g_is_line := PySem.W.mg_of X G a7
  F_is_line := fun_mk (st := x_is_line) l7 c7 k7
  b_is_line := (fun_mk (st := x_is_line) l7 c7 k7).binds (ps := ["value"]) fun _ _ _ _ _ _ us hl => match us, hl with | [_], _ => rfl
  g_need_line := PySem.W.mg_of X G a8
  F_need_line := fun_mk (st := x_need_line) l8 c8 k8
  b_need_line := (fun_mk (st := x_need_line) l8 c8 k8).binds (ps := ["value"]) fun _ _ _ _ _ _ us hl => match us, hl with | [_], _ => rfl
  g_graph_fault := PySem.W.mg_of X G a9
  F_graph_fault := fun_mk (st := x_graph_fault) l9 c9 k9
  b_graph_fault := (fun_mk (st := x_graph_fault) l9 c9 k9).binds (ps := ["value"]) fun _ _ _ _ _ _ us hl => match us, hl with | [_], _ => rfl
  g_is_graph := PySem.W.mg_of X G a10
  F_is_graph := fun_mk (st := x_is_graph) l10 c10 k10
  b_is_graph := (fun_mk (st := x_is_graph) l10 c10 k10).binds (ps := ["value"]) fun _ _ _ _ _ _ us hl => match us, hl with | [_], _ => rfl
  g_need_graph := PySem.W.mg_of X G a11
  F_need_graph := fun_mk (st := x_need_graph) l11 c11 k11
  b_need_graph := (fun_mk (st := x_need_graph) l11 c11 k11).binds (ps := ["value"]) fun _ _ _ _ _ _ us hl => match us, hl with | [_], _ => rfl
  g_deed_fault := PySem.W.mg_of X G a12
  F_deed_fault := fun_mk (st := x_deed_fault) l12 c12 k12
  b_deed_fault := (fun_mk (st := x_deed_fault) l12 c12 k12).binds (ps := ["value"]) fun _ _ _ _ _ _ us hl => match us, hl with | [_], _ => rfl
  g_is_deed := PySem.W.mg_of X G a13
  F_is_deed := fun_mk (st := x_is_deed) l13 c13 k13
  b_is_deed := (fun_mk (st := x_is_deed) l13 c13 k13).binds (ps := ["value"]) fun _ _ _ _ _ _ us hl => match us, hl with | [_], _ => rfl
  g_need_deed := PySem.W.mg_of X G a14
  F_need_deed := fun_mk (st := x_need_deed) l14 c14 k14
  b_need_deed := (fun_mk (st := x_need_deed) l14 c14 k14).binds (ps := ["value"]) fun _ _ _ _ _ _ us hl => match us, hl with | [_], _ => rfl
  g_need_batch := PySem.W.mg_of X G a15
  F_need_batch := fun_mk (st := x_need_batch) l15 c15 k15
  b_need_batch := (fun_mk (st := x_need_batch) l15 c15 k15).binds (ps := ["value"]) fun _ _ _ _ _ _ us hl => match us, hl with | [_], _ => rfl
  g__law_source := PySem.W.mg_of X G a16
  F__law_source := fun_mk (st := x__law_source) l16 c16 k16
  b__law_source := (fun_mk (st := x__law_source) l16 c16 k16).binds (ps := ["_law_script", "_law_salt"]) fun _ _ _ _ _ _ us hl => match us, hl with | [_, _], _ => rfl
  g__law_any := PySem.W.mg_of X G a17
  F__law_any := fun_mk (st := x__law_any) l17 c17 k17
  b__law_any := (fun_mk (st := x__law_any) l17 c17 k17).binds (ps := ["_law_deal", "_law_bound"]) fun _ _ _ _ _ _ us hl => match us, hl with | [_, _], _ => rfl
  g__law_of := PySem.W.mg_of X G a18
  F__law_of := fun_mk (st := x__law_of) l18 c18 k18
  b__law_of := (fun_mk (st := x__law_of) l18 c18 k18).binds (ps := ["_law_deal", "_law_some"]) fun _ _ _ _ _ _ us hl => match us, hl with | [_, _], _ => rfl
  g__law_names := PySem.W.mg_of X G a19
  F__law_names := fun_mk (st := x__law_names) l19 c19 k19
  b__law_names := (fun_mk (st := x__law_names) l19 c19 k19).binds (ps := ["_law_deal", "_law_many"]) fun _ _ _ _ _ _ us hl => match us, hl with | [_, _], _ => rfl
  g__law_price := PySem.W.mg_of X G a20
  F__law_price := fun_mk (st := x__law_price) l20 c20 k20
  b__law_price := (fun_mk (st := x__law_price) l20 c20 k20).binds (ps := ["_law_deal"]) fun _ _ _ _ _ _ us hl => match us, hl with | [_], _ => rfl
  g__law_deed := PySem.W.mg_of X G a21
  F__law_deed := fun_mk (st := x__law_deed) l21 c21 k21
  b__law_deed := (fun_mk (st := x__law_deed) l21 c21 k21).binds (ps := ["_law_deal", "_law_names_here", "_law_kinds"]) fun _ _ _ _ _ _ us hl => match us, hl with | [_, _, _], _ => rfl
  g__law_do := PySem.W.mg_of X G a22
  F__law_do := fun_mk (st := x__law_do) l22 c22 k22
  b__law_do := (fun_mk (st := x__law_do) l22 c22 k22).binds (ps := ["_law_nodes", "_law_prices", "_law_deed_here"]) fun _ _ _ _ _ _ us hl => match us, hl with | [_, _, _], _ => rfl
  g__law_graph := PySem.W.mg_of X G a23
  F__law_graph := fun_mk (st := x__law_graph) l23 c23 k23
  b__law_graph := (fun_mk (st := x__law_graph) l23 c23 k23).binds (ps := ["_law_nodes", "_law_prices"]) fun _ _ _ _ _ _ us hl => match us, hl with | [_, _], _ => rfl
  g__law_drawn := PySem.W.mg_of X G a24
  F__law_drawn := fun_mk (st := x__law_drawn) l24 c24 k24
  b__law_drawn := (fun_mk (st := x__law_drawn) l24 c24 k24).binds (ps := ["_law_deal", "_law_names_here", "_law_kinds", "_law_many"]) fun _ _ _ _ _ _ us hl => match us, hl with | [_, _, _, _], _ => rfl
  g__law_bad := PySem.W.mg_of X G a25
  F__law_bad := fun_mk (st := x__law_bad) l25 c25 k25
  b__law_bad := (fun_mk (st := x__law_bad) l25 c25 k25).binds (ps := ["_law_deal", "_law_node"]) fun _ _ _ _ _ _ us hl => match us, hl with | [_, _], _ => rfl
  g__law_bad_line := PySem.W.mg_of X G a26
  F__law_bad_line := fun_mk (st := x__law_bad_line) l26 c26 k26
  b__law_bad_line := (fun_mk (st := x__law_bad_line) l26 c26 k26).binds (ps := ["_law_deal", "_law_line"]) fun _ _ _ _ _ _ us hl => match us, hl with | [_, _], _ => rfl
  g__law_bad_graph := PySem.W.mg_of X G a27
  F__law_bad_graph := fun_mk (st := x__law_bad_graph) l27 c27 k27
  b__law_bad_graph := (fun_mk (st := x__law_bad_graph) l27 c27 k27).binds (ps := ["_law_deal", "_law_nodes", "_law_lines", "_law_strange"]) fun _ _ _ _ _ _ us hl => match us, hl with | [_, _, _, _], _ => rfl
  g__law_bad_deed := PySem.W.mg_of X G a28
  F__law_bad_deed := fun_mk (st := x__law_bad_deed) l28 c28 k28
  b__law_bad_deed := (fun_mk (st := x__law_bad_deed) l28 c28 k28).binds (ps := ["_law_deal", "_law_deed_here"]) fun _ _ _ _ _ _ us hl => match us, hl with | [_, _], _ => rfl
  g__law_heard := PySem.W.mg_of X G a29
  F__law_heard := fun_mk (st := x__law_heard) l29 c29 k29
  b__law_heard := (fun_mk (st := x__law_heard) l29 c29 k29).binds (ps := ["_law_ask"]) fun _ _ _ _ _ _ us hl => match us, hl with | [_], _ => rfl
  g_law := PySem.W.mg_of X G a30
  F_law := fun_mk (st := x_law) l30 c30 k30
  b_law := (fun_mk (st := x_law) l30 c30 k30).binds (ps := ["_law_script"]) fun _ _ _ _ _ _ us hl => match us, hl with | [_], _ => rfl
  o_law := rfl
  g_StoreError := PySem.W.mg_of X G ea31
  K_StoreError := excK_mk ea31 eb31 ec31 ed31 ee31 ef31 sp tp eg31 eh31 ei31 ej31
  g_InvalidGraph := PySem.W.mg_of X G ea32
  K_InvalidGraph := excK_mk ea32 eb32 ec32 ed32 ee32 ef32 sp tp eg32 eh32 ei32 ej32
  E_InvalidGraph := errC_mk (st := methAt x_InvalidGraph 0) (x := "at") ErE.base_Exception xa32 xb32 xc32 xd32 xe32 en32_at xf32 xg32 tq xh32 xi32 xj32 xk32 xl32 xm32 tr rfl (by decide +kernel) rfl (fun _ _ _ _ _ _ _ _ _ _ _ _ h => by subst h; exact .of_eq rfl) rfl
  g_InvalidLine := PySem.W.mg_of X G ea33
  K_InvalidLine := excK_mk ea33 eb33 ec33 ed33 ee33 ef33 sp tp eg33 eh33 ei33 ej33
  E_InvalidLine := errC_mk (st := methAt x_InvalidLine 0) (x := "at") ErE.base_Exception xa33 xb33 xc33 xd33 xe33 en33_at xf33 xg33 tq xh33 xi33 xj33 xk33 xl33 xm33 tr rfl (by decide +kernel) rfl (fun _ _ _ _ _ _ _ _ _ _ _ _ h => by subst h; exact .of_eq rfl) rfl
  g_InvalidDeed := PySem.W.mg_of X G ea34
  K_InvalidDeed := excK_mk ea34 eb34 ec34 ed34 ee34 ef34 sp tp eg34 eh34 ei34 ej34
  E_InvalidDeed := errC_mk (st := methAt x_InvalidDeed 0) (x := "at") ErE.base_Exception xa34 xb34 xc34 xd34 xe34 en34_at xf34 xg34 tq xh34 xi34 xj34 xk34 xl34 xm34 tr rfl (by decide +kernel) rfl (fun _ _ _ _ _ _ _ _ _ _ _ _ h => by subst h; exact .of_eq rfl) rfl
  n_InvalidDeed_at := en34_at
  n_InvalidGraph_at := en32_at
  n_InvalidLine_at := en33_at
  u_InvalidDeed_InvalidDeed := eu34_34
  u_InvalidDeed_InvalidGraph := eu34_32
  u_InvalidDeed_InvalidLine := eu34_33
  u_InvalidDeed_StoreError := eu34_31
  u_InvalidGraph_InvalidDeed := eu32_34
  u_InvalidGraph_InvalidGraph := eu32_32
  u_InvalidGraph_InvalidLine := eu32_33
  u_InvalidGraph_StoreError := eu32_31
  u_InvalidLine_InvalidDeed := eu33_34
  u_InvalidLine_InvalidGraph := eu33_32
  u_InvalidLine_InvalidLine := eu33_33
  u_InvalidLine_StoreError := eu33_31
  k_is_deed_value := fun s us ws _ hu hw => match us, ws, hu, hw with | [], [_], _, _ => BindsTo.of_eq (by first | rfl | with_unfolding_all rfl)
  k_is_kind_value := fun s us ws _ hu hw => match us, ws, hu, hw with | [], [_], _, _ => BindsTo.of_eq (by first | rfl | with_unfolding_all rfl)
  k_is_line_value := fun s us ws _ hu hw => match us, ws, hu, hw with | [], [_], _, _ => BindsTo.of_eq (by first | rfl | with_unfolding_all rfl)
  k_is_node_value := fun s us ws _ hu hw => match us, ws, hu, hw with | [], [_], _, _ => BindsTo.of_eq (by first | rfl | with_unfolding_all rfl)
  k_is_price_value := fun s us ws _ hu hw => match us, ws, hu, hw with | [], [_], _, _ => BindsTo.of_eq (by first | rfl | with_unfolding_all rfl)
  k_need_batch_value := fun s us ws _ hu hw => match us, ws, hu, hw with | [], [_], _, _ => BindsTo.of_eq (by first | rfl | with_unfolding_all rfl)
  k_need_deed_value := fun s us ws _ hu hw => match us, ws, hu, hw with | [], [_], _, _ => BindsTo.of_eq (by first | rfl | with_unfolding_all rfl)
  k_need_graph_value := fun s us ws _ hu hw => match us, ws, hu, hw with | [], [_], _, _ => BindsTo.of_eq (by first | rfl | with_unfolding_all rfl)
  k_need_line_value := fun s us ws _ hu hw => match us, ws, hu, hw with | [], [_], _, _ => BindsTo.of_eq (by first | rfl | with_unfolding_all rfl)
  z_abs := PySem.W.mg_none_of X G z0
  z_all := PySem.W.mg_none_of X G z1
  z_bool := PySem.W.mg_none_of X G z2
  z_enumerate := PySem.W.mg_none_of X G z3
  z_int := PySem.W.mg_none_of X G z4
  z_isinstance := PySem.W.mg_none_of X G z5
  z_len := PySem.W.mg_none_of X G z6
  z_list := PySem.W.mg_none_of X G z7
  z_range := PySem.W.mg_none_of X G z8
  z_repr := PySem.W.mg_none_of X G z9
  z_sorted := PySem.W.mg_none_of X G z10
  z_str := PySem.W.mg_none_of X G z11
  z_super := PySem.W.mg_none_of X G z12
  z_tuple := PySem.W.mg_none_of X G z13
  c_SIGNS := ⟨_, PySem.W.mg_of X G u0⟩
  c_GREATEST_PRICE := ⟨_, PySem.W.mg_of X G u1⟩
end K23
end
section
set_option maxHeartbeats 4000000
namespace K23
open PySem PySem.Spec PyProof.Rows L2 DM SR GR
variable [HasPW] {A B A1 : AH} {ρ : DM.Env} {h q c n : Nat} {P : Addr} {qq : Str} {me me2 : ME}
/-! ### what is heard -/
theorem heard_told {d : D} (hT : A[n]? = some (.tab P qq)) (h : me ρ A = .ok d A1) : mLam n P qq 2 mb__law_heard me ρ A = .ok (.lst [.str "told", d]) A1 := by
  refine lam_at hT fun x => ?_
  refine fun_rt ?_
  refine try_rt ?_
  have hw : mWork x qq me 0 [some (.fnv x.1 x.2.1 qq x.2.2 ρ), none] A = .ok d A1 := by rw [work_at]; exact h
  exact ret_at (lst_at (cons_at rfl (cons_at hw nil_at)) (by simp))
theorem cons_exc {mc : MA} {C : Str} {fs : List (Str × D)} {d : D} (h1 : me2 ρ A = .ok d A) (h : me ρ A = .exc C fs A1) : mCons me2 (mCons me mc) ρ A = .exc C fs A1 := by
  rw [ev_cons, h1, bind_ok, ev_cons, h, bind_exc, bind_exc]
theorem told_exc {C : Str} {fs : List (Str × D)} (h : me ρ A = .exc C fs A1) : mRet (mLst (mCons (mK (.str "told")) (mCons me (mNil)))) ρ A = .exc C fs ρ A1 := by
  rw [ev_ret, ev_lst, cons_exc rfl h, bind_exc]
  rfl
theorem suite_at {C : Str} {a dd : Addr} {w : Str} {i : Int} {ρ : DM.Env} (h1 : ρ[1]? = some (some (.exv a (some dd) ["at"] [.int i]))) : mRet (mLst (mCons (mK (.str w)) (mCons (mXf C [C] a (some dd) "at" (mVar 1)) (mCons (mCall (fIsx C [C] [] (.cl "StoreError") a (some dd)) (mCons (mVar 1) (mCons (mK (.cl "StoreError")) (mNil)))) (mNil))))) ρ A = .rt (.lst [.str w, .int i, .bl true]) A := by
  have e1 : mXf C [C] a (some dd) "at" (mVar 1) ρ A = .ok (.int i) A := xf_at (var_at h1) List.mem_cons_self rfl
  have e2 : mCall (fIsx C [C] [] (.cl "StoreError") a (some dd)) (mCons (mVar 1) (mCons (mK (.cl "StoreError")) (mNil))) ρ A = .ok (.bl true) A := call_at (cons_at (var_at h1) (cons_at rfl nil_at)) (isx_yes List.mem_cons_self)
  exact ret_at (lst_at (cons_at rfl (cons_at e1 (cons_at e2 nil_at))) (by simp))
def toldW (w : Str) : Option Int → D
  | none => .lst [.str "told", .non]
  | some i => .lst [.str w, .int i, .bl true]
def needR (C : Str) (o : Option Int) (A : AH) : Res D := match o with
  | none => .ok .non A
  | some i => .exc C [("at", .int i)] A
theorem heard_line {o : Option Int} (hT : A[n]? = some (.tab P qq)) (h : me ρ A = needR "InvalidLine" o A) : mLam n P qq 2 mb__law_heard me ρ A = .ok (toldW "line" o) A := by
  cases o with
  | none => exact heard_told hT h
  | some i =>
    refine lam_at hT fun x => fun_rt ?_
    have hw : mWork x qq me 0 [some (.fnv x.1 x.2.1 qq x.2.2 ρ), none] A = .exc "InvalidLine" [("at", .int i)] A := by rw [work_at]; exact h
    refine (try_exc (told_exc hw)).trans ?_
    refine exc_yes (by decide +kernel) fun a d => ?_
    rw [if_neg (by simp)]
    show goneM (some 1) (mRet _ (enterM (some 1) a (some d) [("at", .int i)] _) A) = _
    rw [suite_at (C := "InvalidLine") (i := i) rfl]
    rfl
theorem heard_graph {o : Option Int} (hT : A[n]? = some (.tab P qq)) (h : me ρ A = needR "InvalidGraph" o A) : mLam n P qq 2 mb__law_heard me ρ A = .ok (toldW "graph" o) A := by
  cases o with
  | none => exact heard_told hT h
  | some i =>
    refine lam_at hT fun x => fun_rt ?_
    have hw : mWork x qq me 0 [some (.fnv x.1 x.2.1 qq x.2.2 ρ), none] A = .exc "InvalidGraph" [("at", .int i)] A := by rw [work_at]; exact h
    refine (try_exc (told_exc hw)).trans ((exc_no (by decide +kernel) (by decide +kernel)).trans ?_)
    refine exc_yes (by decide +kernel) fun a d => ?_
    rw [if_neg (by simp)]
    show goneM (some 1) (mRet _ (enterM (some 1) a (some d) [("at", .int i)] _) A) = _
    rw [suite_at (C := "InvalidGraph") (i := i) rfl]
    rfl
theorem heard_deed {o : Option Int} (hT : A[n]? = some (.tab P qq)) (h : me ρ A = needR "InvalidDeed" o A) : mLam n P qq 2 mb__law_heard me ρ A = .ok (toldW "deed" o) A := by
  cases o with
  | none => exact heard_told hT h
  | some i =>
    refine lam_at hT fun x => fun_rt ?_
    have hw : mWork x qq me 0 [some (.fnv x.1 x.2.1 qq x.2.2 ρ), none] A = .exc "InvalidDeed" [("at", .int i)] A := by rw [work_at]; exact h
    refine (try_exc (told_exc hw)).trans ((exc_no (by decide +kernel) (by decide +kernel)).trans ((exc_no (by decide +kernel) (by decide +kernel)).trans ?_))
    refine exc_yes (by decide +kernel) fun a d => ?_
    rw [if_neg (by simp)]
    show goneM (some 1) (mRet _ (enterM (some 1) a (some d) [("at", .int i)] _) A) = _
    rw [suite_at (C := "InvalidDeed") (i := i) rfl]
    rfl
def Wds (w : Str) : Prop := w = "line" ∨ w = "graph" ∨ w = "deed"
theorem told_vl {w : Str} {o : Option Int} (hw : Wds w) (ho : ∀ i, o = some i → i.natAbs ≤ 100000) : Vl 1 1000 (toldW w o) := by
  cases o with
  | none =>
    exact (vl_lst (k := 0) (w := 64) (n := 2) (fun z hz => by
      rcases List.mem_cons.mp hz with rfl | hz
      · exact vl_str (pl_lit (by decide +kernel) (by decide +kernel))
      · rw [List.mem_singleton.mp hz]; exact vl_non) (by simp)).mono (by decide) (by decide)
  | some i =>
    have := ho i rfl
    exact (vl_lst (k := 0) (w := 64) (n := 3) (fun z hz => by
      rcases List.mem_cons.mp hz with rfl | hz
      · rcases hw with rfl | rfl | rfl <;> exact vl_str (pl_lit (by decide +kernel) (by decide +kernel))
      · rcases List.mem_cons.mp hz with rfl | hz
        · exact vl_int (by omega)
        · rw [List.mem_singleton.mp hz]; exact vl_bl) (by simp)).mono (by decide) (by decide)
/-- shown alike -/
theorem same_vl {d : D} {k w : Nat} (v : Vl k w d) (hk : k ≤ 32) (hw : w ≤ 100000) (h1 : me ρ A = .ok d A) (h2 : me2 ρ A = .ok d A) : mTst (mOp (fEq true) (mCall fRepr (mCons me (mNil))) (mCall fRepr (mCons me2 (mNil)))) ρ A = .ok false A := by
  obtain ⟨p, s⟩ := v.1.sh
  have := v.2.1
  have := v.2.2
  exact rep_no h1 h2 s (by omega) (by omega)
mutual
theorem toG_of (g : Nat → Option PyData) : ∀ (d : D) (p : PyData), toPy d = some p → toPyG g d = some p
  | .non, p, h => h
  | .bl _, p, h => h
  | .int _, p, h => h
  | .str _, p, h => h
  | .tup xs, p, h => by
    simp only [toPy, Option.map_eq_some_iff] at h
    obtain ⟨ps, h1, rfl⟩ := h
    simp only [toPyG, toGs_of g xs ps h1, Option.map_some]
  | .qtup xs, p, h => by
    simp only [toPy, Option.map_eq_some_iff] at h
    obtain ⟨ps, h1, rfl⟩ := h
    simp only [toPyG, toGs_of g xs ps h1, Option.map_some]
  | .lst xs, p, h => by
    simp only [toPy, Option.map_eq_some_iff] at h
    obtain ⟨ps, h1, rfl⟩ := h
    simp only [toPyG, toGs_of g xs ps h1, Option.map_some]
  | .ref _, p, h => nomatch h
  | .ty _, p, h => nomatch h
  | .abs _, p, h => nomatch h
  | .cl _, p, h => nomatch h
  | .exv _ _ _ _, p, h => nomatch h
  | .fnv _ _ _ _ _, p, h => nomatch h
  | .fno _, p, h => nomatch h
theorem toGs_of (g : Nat → Option PyData) : ∀ (ds : List D) (ps : List PyData), toPys ds = some ps → toPysG g ds = some ps
  | [], ps, h => h
  | d :: ds, ps, h => by
    unfold toPys at h
    split at h
    · rename_i p qs h1 h2
      cases h
      unfold toPysG
      rw [toG_of g d p h1, toGs_of g ds qs h2]
    · cases h
end
/-- a list that changes shows as the list that it holds -/
theorem same_ref {xs : List D} {k w m : Nat} (v : Vl k w (.lst xs)) (hk : k ≤ 32) (hw : w ≤ 100000) (h1 : me ρ A = .ok (.ref m) A) (hx : A[m]? = some (.lst xs)) (h2 : me2 ρ A = .ok (.lst xs) A) {neg : Bool} : mOp (fEq neg) (mCall fRepr (mCons me (mNil))) (mCall fRepr (mCons me2 (mNil))) ρ A = .ok (.bl (!neg)) A := by
  obtain ⟨p, s⟩ := v.1.sh
  have k1 := v.2.1
  have w1 := v.2.2
  obtain ⟨qs, e1, rfl⟩ := Option.map_eq_some_iff.mp (show (toPys xs).map PyData.list = some p from s.1)
  have tp : toPyA A (.ref m) = some (.list qs) := by
    unfold toPyA
    simp only [toPy, toPyG, refPy, hx, toGs_of _ _ _ e1, Option.map_some]
  have c1 : mCall fRepr (mCons me (mNil)) ρ A = .ok (.str (PyData.list qs).shown) A := call_at (cons_at h1 nil_at) (repr_fewB tp s.2 (by omega) (by decide) (by omega))
  have c2 : mCall fRepr (mCons me2 (mNil)) ρ A = .ok (.str (PyData.list qs).shown) A := call_at (cons_at h2 nil_at) (repr_fewB (toPyA_of s.1) s.2 (by omega) (by decide) (by omega))
  refine op_at c1 c2 ?_
  rw [SR.eq_ss, decide_eq_true rfl]
  cases neg <;> rfl
theorem isB_no {b : Bool} (h : me ρ A = .ok (.bl b) A) : mTst (mOp (fIsB true) me (mK (.bl b))) ρ A = .ok false A := tst_at (op_at h rfl (by show Res.ok (D.bl (if true = true then !decide (b = b) else decide (b = b))) A = _; rw [if_pos rfl, decide_eq_true rfl]; rfl))
/-! ### to the end: True -/
def Dw (P : Addr) (qq : Str) (h q : Nat) (s : MS) (ρ : DM.Env) : Prop := ∀ A, HS h q A → A[0]? = some (.tab P qq) → ∃ A', s ρ A = .rt (.bl true) A'
variable {s : MS} {mt : MT} {ms : MA} {Q : D → Prop}
theorem dw_set {i : Nat} (h0 : h ≠ 0) (q0 : q ≠ 0) (x : Dr h q me ρ Q) (y : ∀ d, Q d → Dw P qq h q s (ρ.set i (some d))) : Dw P qq h q (mSeq (mSet i me) s) ρ := fun A hs hT =>
  let ⟨d, A1, e1, g1, p⟩ := x A hs
  let ⟨A2, e2⟩ := y d p A1 g1.1 (g1.keep hT (Ne.symm h0) (Ne.symm q0))
  ⟨A2, (seq_nx (set_at e1)).trans e2⟩
theorem dw_asg2 {i j : Nat} {R : D → D → Prop} (h0 : h ≠ 0) (q0 : q ≠ 0) (x : Dr h q me ρ fun d => ∃ a b, d = .tup [a, b] ∧ R a b) (y : ∀ a b, R a b → Dw P qq h q s ((ρ.set i (some a)).set j (some b))) : Dw P qq h q (mSeq (mAsg (.tp [.nm i, .nm j]) me) s) ρ := fun A hs hT =>
  let ⟨_, A1, e1, g1, a, b, hd, p⟩ := x A hs
  let ⟨A2, e2⟩ := y a b p A1 g1.1 (g1.keep hT (Ne.symm h0) (Ne.symm q0))
  ⟨A2, (seq_nx (asg2_at (by rw [e1, hd]))).trans e2⟩
theorem dw_par2 {i j : Nat} {R : D → D → Prop} (h0 : h ≠ 0) (q0 : q ≠ 0) (x : Da h q ms ρ fun ds => ∃ a b, ds = [a, b] ∧ R a b) (y : ∀ a b, R a b → Dw P qq h q s ((ρ.set i (some a)).set j (some b))) : Dw P qq h q (mSeq (mPar2 i j ms) s) ρ := fun A hs hT =>
  let ⟨_, A1, e1, g1, a, b, hd, p⟩ := x A hs
  let ⟨A2, e2⟩ := y a b p A1 g1.1 (g1.keep hT (Ne.symm h0) (Ne.symm q0))
  ⟨A2, (seq_nx (by rw [ev_par2, e1, lift_ok, hd])).trans e2⟩
theorem dw_no (x : ∀ A, A[0]? = some (.tab P qq) → mt ρ A = .ok false A) (y : Dw P qq h q s ρ) : Dw P qq h q (mSeq (mIfS mt (mRet (mK (.bl false))) (mNext)) s) ρ := fun A hs hT =>
  let ⟨A2, e2⟩ := y A hs hT
  ⟨A2, (seq_nx (no_if (x A hT))).trans e2⟩
theorem or_no {mt mu : MT} (h1 : mt ρ A = .ok false A) (h2 : mu ρ A = .ok false A) : mOr mt mu ρ A = .ok false A := or_nn h1 h2
/-- two that are heard, one after the other -/
theorem dw_two {i : Nat} {m1 m2 : ME} {d1 d2 : D} (h0 : h ≠ 0) (q0 : q ≠ 0) (x1 : ∀ A, A[0]? = some (.tab P qq) → m1 ρ A = .ok d1 A) (hi : i < ρ.length)
    (x2 : ∀ n A, A[0]? = some (.tab P qq) → m2 (ρ.set i (some (.ref n))) A = .ok d2 A) (x3 : ∀ n A, A[0]? = some (.tab P qq) → A[n]? = some (.lst [d1, d2]) → mt (ρ.set i (some (.ref n))) A = .ok false A)
    (y : ∀ n, Dw P qq h q s (ρ.set i (some (.ref n)))) : Dw P qq h q (mSeq (mSet i (mNew (mCons m1 (mNil)))) (mSeq (mDrop (mMet fApp (mVar i) (mCons m2 (mNil)))) (mSeq (mIfS mt (mRet (mK (.bl false))) (mNext)) s))) ρ := fun A hs hT => by
  have hl := hs_lt hs
  have a0 : 0 < A.length := (List.getElem?_eq_some_iff.mp hT).1
  have e1 := set_at (i := i) (new_at (cons_at (x1 A hT) nil_at) (by simp))
  obtain ⟨A1, hA1⟩ : ∃ A1, A1 = A ++ [AO.lst [d1]] := ⟨_, rfl⟩
  rw [← hA1] at e1
  have t1 : A1[0]? = some (.tab P qq) := by rw [hA1, List.getElem?_append_left a0]; exact hT
  have n1 : A1[A.length]? = some (.lst [d1]) := by rw [hA1, List.getElem?_append_right (Nat.le_refl _), Nat.sub_self]; rfl
  have v : ∀ B, mVar i (ρ.set i (some (.ref A.length))) B = .ok (.ref A.length) B := fun B => var_at (List.getElem?_set_self hi)
  have e2 := app_at (v A1) n1 (x2 A.length A1 t1) (by simp)
  obtain ⟨A2, hA2⟩ : ∃ A2, A2 = A1.set A.length (.lst ([d1] ++ [d2])) := ⟨_, rfl⟩
  rw [← hA2] at e2
  have t2 : A2[0]? = some (.tab P qq) := by rw [hA2, List.getElem?_set_ne (by omega)]; exact t1
  have n2 : A2[A.length]? = some (.lst [d1, d2]) := by rw [hA2]; exact List.getElem?_set_self (List.getElem?_eq_some_iff.mp n1).1
  have hs2 : HS h q A2 := by rw [hA2]; exact hs_set (by rw [hA1]; exact hs_push hs _) (by omega) (by omega)
  obtain ⟨A3, e3⟩ := y A.length A2 hs2 t2
  exact ⟨A3, (seq_nx e1).trans ((seq_nx e2).trans ((seq_nx (no_if (x3 A.length A2 t2 n2))).trans e3))⟩
end K23
end
section
set_option maxHeartbeats 1000000
namespace K23
open PySem PySem.Spec PyProof.Rows L2 DM SR GR
variable [HasPW] {A B A1 : AH} {ρ : DM.Env} {h q c n : Nat} {P : Addr} {qq : Str} {me me2 : ME} {s : MS} {mt : MT} {ms : MA} {Q : D → Prop}
noncomputable abbrev lawM (P0 : Addr) : List D → AH → Res D := m_law P0 f__law_source f__law_of f__law_drawn f__law_graph f__law_bad_graph f__law_deed f__law_bad_line f__law_bad_deed f__law_any f__law_names f__law_bad f_is_node f_is_kind f_is_price f_is_graph f_is_line f_is_deed f_need_line f_need_deed f_need_batch f_need_graph
theorem start {ns : List Int} {rest : MS} (M : ∀ h q, h ≠ 0 → q ≠ 0 → Dw P qq h q rest ((([D.lst (ns.map D.int)] : List D).map some ++ List.replicate 24 none).set 1 (some (.ref h)))) :
    ∃ AE, mFun 25 (mSeq (mSet 1 (mCallF 2 f__law_source (mCons (mVar 0) (mCons (mK (.int 23)) (mNil))))) rest) [.lst (ns.map D.int)] [.tab P qq] = .ok (.bl true) AE := by
  obtain ⟨h, q, A1, e1, hs, l1, hh, hq, kp⟩ := dealG_ok (A := [.tab P qq]) (ns := ns) (b := 23) (by decide) (by decide)
  obtain ⟨AE, e⟩ := M h q (by rw [hh]; simp) (by rw [hq]; simp) A1 hs (by rw [kp 0 (by simp)]; rfl)
  refine ⟨AE, fun_rt ((seq_nx (set_at (callF_at (n := 2) (cons_at (var_at rfl) (cons_at rfl nil_at)) rfl ?_))).trans e)⟩
  exact e1
theorem callK1 {d : D} {f : List D → AH → Res D} {r : Res D} (he : me ρ A = .ok d A) (hg : f [d] A = r) : mCallK 0 1 1 [0] f (mNil) (mCons me (mNil)) ρ A = r := callK_at nil_at (cons_at he nil_at) rfl rfl rfl rfl hg
theorem dw_drawn {N K : List Str} {j1 j2 j3 j4 : Nat} (h0 : h ≠ 0) (q0 : q ≠ 0) (n0 : 0 < N.length) (nl : N.length ≤ 1000) (k0 : 0 < K.length) (kl : K.length ≤ 1000) (pN : ∀ x ∈ N, Pl (.str x)) (hj : j1 ≠ j2 ∧ j1 < ρ.length ∧ j2 < ρ.length)
    (x : Da h q ms ρ fun ds => ∃ k : Nat, ds = [.ref h, .lst (N.map D.str), .lst (K.map D.str), .int (k : Int)] ∧ k ≤ 30)
    (y : ∀ n1 n2 NS es, GOk N K NS es → NS.length ≤ 60 → es.length ≤ 30 → Dw P qq h q s ((((ρ.set j1 (some (.ref n1))).set j2 (some (.ref n2))).set j3 (some (.tup (NS.map D.str)))).set j4 (some (.tup (es.map enE))))) :
    Dw P qq h q (mSeq (mAsg (.tp [.nm j1, .nm j2]) (mCallF 4 f__law_drawn ms)) (mSeq (mAsg (.tp [.nm j3, .nm j4]) (mCallF 2 f__law_graph (mCons (mVar j1) (mCons (mVar j2) (mNil))))) s)) ρ := fun A hs hT => by
  obtain ⟨_, A1, e1, g1, k, rfl, hk⟩ := x A hs
  obtain ⟨n1, n2, A2, ns, ps, e2, g2, H, _, _, _, _, st, m1, m2⟩ := drawn_ok (h := h) (q := q) (N := N) (K := K) n0 nl k0 kl pN hk g1.1
  obtain ⟨NS, es, e3, g, l1, l2⟩ := graph_ok H st m1 m2
  obtain ⟨A3, e4⟩ := y n1 n2 NS es g l1 l2 A2 g2.1 ((g1.trans g2).keep hT (Ne.symm h0) (Ne.symm q0))
  refine ⟨A3, (seq_nx (asg2_at (callF_at e1 rfl e2))).trans ((seq_nx (asg2_at (callF_at (cons_at (var_at ?_) (cons_at (var_at ?_) nil_at)) rfl e3))).trans e4)⟩
  · rw [List.getElem?_set_ne (Ne.symm hj.1)]
    exact List.getElem?_set_self hj.2.1
  · exact List.getElem?_set_self (by rw [List.length_set]; exact hj.2.2)
theorem is_kind_at {d : D} (o : Pl d) : f_is_kind [d] A = .ok (.bl (nodeB d)) A := by
  unfold f_is_kind
  exact fun_rt (ret_at (callF_at (cons_at (var_at rfl) nil_at) rfl (is_node_at o)))
theorem atI_last {α : Type} {xs : List α} {y : α} : atI (xs ++ [y]) (-1) = some y := by
  have e : ixN (xs ++ [y]).length (-1) = some xs.length := by
    unfold ixN
    rw [if_neg (by decide), if_pos (by rw [List.length_append]; simp only [List.length_cons, List.length_nil]; omega), List.length_append]
    congr 1
    simp only [List.length_cons, List.length_nil]
    omega
  unfold atI
  rw [e]
  simp
theorem cut_last {xs : List D} {y : D} : DM.cutD (xs ++ [y]) none (some (-1)) = xs := by
  unfold DM.cutD
  have e : HT.sIx (xs ++ [y]).length (xs ++ [y]).length (some (-1)) = xs.length := by
    show (if (-1 : Int) < 0 then ((-1 : Int) + ((xs ++ [y]).length : Int)).toNat else min (-1 : Int).toNat (xs ++ [y]).length) = _
    rw [if_pos (show (-1 : Int) < 0 by decide), List.length_append]
    simp only [List.length_cons, List.length_nil]
    omega
  rw [HT.sIx_none, e]
  simp
theorem deedsF_app : ∀ {xs : List D} {i : Nat} {d : D} {ys : List D}, (∀ x ∈ xs, deedF x = none) → deedF d ≠ none → deedsF i (xs ++ d :: ys) = some (i + xs.length)
  | [], i, d, ys, _, hd => by
    show (if (deedF d).isNone = true then _ else some i) = _
    rw [if_neg (by cases z : deedF d with | none => exact absurd z hd | some _ => exact Bool.false_ne_true)]
    rfl
  | x :: xs, i, d, ys, hx, hd => by
    show (if (deedF x).isNone = true then deedsF (i + 1) (xs ++ d :: ys) else some i) = _
    rw [if_pos (by rw [hx x List.mem_cons_self]; rfl), deedsF_app (fun y hy => hx y (List.mem_cons_of_mem _ hy)) hd, List.length_cons]
    congr 1
    omega
theorem deedsF_all : ∀ {xs : List D} {i : Nat}, (∀ x ∈ xs, deedF x = none) → deedsF i xs = none
  | [], _, _ => rfl
  | x :: xs, i, hx => by
    show (if (deedF x).isNone = true then deedsF (i + 1) xs else some i) = _
    rw [if_pos (by rw [hx x List.mem_cons_self]; rfl), deedsF_all fun y hy => hx y (List.mem_cons_of_mem _ hy)]
theorem vl_list2 {w1 w2 : Str} (h1 : Wds w1) (h2 : Wds w2) : Vl 2 5000 (.lst [toldW w1 none, toldW w2 none]) := (vl_lst (k := 1) (w := 1000) (n := 2) (fun z hz => by
  rcases List.mem_cons.mp hz with rfl | hz
  · exact told_vl h1 fun _ h => nomatch h
  · rw [List.mem_singleton.mp hz]; exact told_vl h2 fun _ h => nomatch h) (by simp)).mono (by decide) (by decide)
theorem law_holds (ns : List Int) (P0 : Addr) : ∃ AE, lawM P0 [.lst (ns.map D.int)] [.tab P0 (lamQ "law")] = .ok (.bl true) AE := by
  have wl : Wds "line" := .inl rfl
  have wg : Wds "graph" := .inr (.inl rfl)
  have wd : Wds "deed" := .inr (.inr rfl)
  unfold lawM m_law
  refine start fun h q h0 q0 => ?_
  -- how many nodes
  refine dw_set h0 q0 (Q := fun d => ∃ m : Nat, d = .int (m : Int) ∧ 0 < m ∧ m ≤ 6) (dr_of rfl (dr_lst (n := 2) (all_cons (dr_ok (fun _ => rfl) ⟨2, rfl, by decide, by decide⟩) (all_cons (dr_ok (fun _ => rfl) ⟨3, rfl, by decide, by decide⟩) (all_cons (dr_ok (fun _ => rfl) ⟨6, rfl, by decide, by decide⟩) all_nil))) (by decide))) ?_
  rintro d ⟨m, rfl, m0, m6⟩
  -- the names
  have nam : ∀ {k : Nat} {me : ME} {ρ : DM.Env}, k ≤ 7 → ρ[1]? = some (some (.ref h)) → (∀ A, me ρ A = .ok (.int (k : Int)) A) → Dr h q (mCallF 2 f__law_names (mCons (mVar 1) (mCons me (mNil)))) ρ fun d => ∃ N : List Str, d = .lst (N.map D.str) ∧ N.length = k ∧ Nm N := fun {k me ρ} hk h1 hm =>
    dr_call (da_cons (P := fun e => e = .ref h) (dr_ok (fun _ => var_at h1) rfl) fun e he => da_cons (P := fun e => e = .int (k : Int)) (dr_ok hm rfl) fun e2 he2 => da_nil ⟨rfl, by rw [he, he2]; exact names_ok hk⟩)
  refine dw_asg2 h0 q0 (R := fun a b => ∃ N K : List Str, a = .lst (N.map D.str) ∧ N.length = m + 1 ∧ Nm N ∧ b = .lst (K.map D.str) ∧ K.length = 3 ∧ Nm K) (dr_tup (R := fun ds => ∃ a b, ds = [a, b] ∧ ∃ N K : List Str, a = .lst (N.map D.str) ∧ N.length = m + 1 ∧ Nm N ∧ b = .lst (K.map D.str) ∧ K.length = 3 ∧ Nm K) (da_cons (nam (k := m + 1) (by omega) rfl fun A => op_at (var_at rfl) rfl (by rw [add_ii]; congr 2)) fun d hd => da_cons (nam (k := 3) (by decide) rfl fun A => rfl) fun e he => da_nil ?_) ?_) ?_
  · obtain ⟨N, rfl, a1, a2⟩ := hd
    obtain ⟨K, rfl, b1, b2⟩ := he
    exact ⟨_, _, rfl, N, K, rfl, a1, a2, rfl, b1, b2⟩
  · rintro ds ⟨a, b, rfl, hab⟩
    exact ⟨by simp, a, b, rfl, hab⟩
  rintro a b ⟨N, K, rfl, lN, okN, rfl, lK, okK⟩
  obtain ⟨N', t, rfl⟩ : ∃ N' t, N = N' ++ [t] := ⟨N.dropLast, N.getLast (by intro z; rw [z] at lN; simp at lN), (List.dropLast_concat_getLast _).symm⟩
  have lN' : N'.length = m := by rw [List.length_append] at lN; simpa using lN
  have hN := okN.2
  have hK := okK.2
  have hN' : ∀ x ∈ N', nodeB (.str x) = true := fun x hx => hN x (List.mem_append.mpr (.inl hx))
  have ht : nodeB (.str t) = true := hN t (List.mem_append.mpr (.inr List.mem_cons_self))
  have tN' : t ∉ N' := fun hm => (List.nodup_append.mp okN.1).2.2 t hm t List.mem_cons_self rfl
  -- the strange name, what is right
  refine dw_par2 h0 q0 (R := fun a b => a = .str t ∧ b = toldW "line" none) (da_cons (P := fun e => e = .str t) (dr_ok (fun A => op_at (var_at rfl) (neg_at rfl) (DM.ix_lst (by rw [List.map_append]; exact atI_last))) rfl) fun d hd => da_cons (P := fun e => e = toldW "line" none) (dr_ok (fun A => lst_at (cons_at rfl (cons_at rfl nil_at)) (by simp)) rfl) fun e he => da_nil ⟨d, e, rfl, hd, he⟩) ?_
  rintro a b ⟨rfl, rfl⟩
  -- the graph
  refine dw_drawn (N := N') (K := K) h0 q0 (by omega) (by omega) (by omega) (by omega) (fun x hx => pl_node (hN' x hx)) ⟨by decide, by simp, by simp⟩ (da_cons (P := fun e => e = .ref h) (dr_ok (fun _ => var_at rfl) rfl) fun d1 hd1 => da_cons (P := fun e => e = .lst (N'.map D.str)) (dr_ok (fun A => ?_) rfl) fun d2 hd2 => da_cons (P := fun e => e = .lst (K.map D.str)) (dr_ok (fun _ => var_at rfl) rfl) fun d3 hd3 => da_cons (P := fun e => ∃ k : Nat, e = .int (k : Int) ∧ k ≤ 30) (dr_of rfl (dr_lst (n := 3) (all_cons (dr_ok (fun _ => rfl) ⟨0, rfl, by decide⟩) (all_cons (dr_ok (fun _ => rfl) ⟨3, rfl, by decide⟩) (all_cons (dr_ok (fun _ => rfl) ⟨9, rfl, by decide⟩) (all_cons (dr_ok (fun _ => rfl) ⟨30, rfl, by decide⟩) all_nil)))) (by decide))) fun d4 hd4 => da_nil ?_) ?_
  · rw [ev_sl, var_at (d := .lst ((N' ++ [t]).map D.str)) rfl, bind_ok, ev_none, bind_ok, ev_some, neg_at (i := 1) rfl, bind_ok, bind_ok, List.map_append]
    show Res.ok (D.lst (DM.cutD _ none (some (-1)))) A = _
    rw [show ([t].map D.str) = [D.str t] from rfl, cut_last]
  · obtain ⟨k, rfl, hk⟩ := hd4
    exact ⟨k, by rw [hd1, hd2, hd3], hk⟩
  intro n1 n2 NS es g l1 l2
  show Dw P0 (lamQ "law") h q _ [some (.lst (ns.map D.int)), some (.ref h), some (.int (m : Int)), some (.lst ((N' ++ [t]).map D.str)), some (.lst (K.map D.str)), some (.str t), some (toldW "line" none), some (.ref n1), some (.ref n2), some (.tup (NS.map D.str)), some (.tup (es.map enE)), none, none, none, none, none, none, none, none, none, none, none, none, none, none]
  have vG : Vl 6 500000 (.tup [.tup (NS.map D.str), .tup (es.map enE)]) := two_v (ns_v (fun y hy => by
    obtain ⟨x, hx, rfl⟩ := List.mem_map.mp hy
    exact (vl_node (g.nd hN' x hx)).mono (by decide) (by decide)) (by rw [List.length_map]; omega)) (ls_v (fun y hy => by
    obtain ⟨x, hx, rfl⟩ := List.mem_map.mp hy
    exact (vl_e (g.nl hN' hK x hx) (g.ends x hx).2.2.2).mono (by decide) (by decide)) (by rw [List.length_map]; omega))
  have gG := g.good hN' hK
  -- the graph is one
  refine dw_no (fun A hT => or_no (same_vl (told_vl (o := none) wl fun _ h => nomatch h) (by decide) (by decide) (heard_graph (o := none) hT (callF_at (cons_at (tup_at (cons_at (var_at rfl) (cons_at (var_at rfl) nil_at)) (by simp)) nil_at) rfl ?_)) (var_at rfl)) (isB_no (callF_at (cons_at (tup_at (cons_at (var_at rfl) (cons_at (var_at rfl) nil_at)) (by simp)) nil_at) rfl ?_))) ?_
  · rw [need_graph_at vG.1 (Nat.le_trans vG.2.2 (by decide)), gG]
    rfl
  · rw [is_graph_at vG.1 (Nat.le_trans vG.2.2 (by decide)), gG]
    rfl
  -- a bent graph
  refine dw_asg2 h0 q0 (R := fun a b => BadG (.tup [a, b])) ((dr_call (P := BadG) (da_cons (P := fun e => e = .ref h) (dr_ok (fun _ => var_at rfl) rfl) fun d1 hd1 => da_cons (P := fun e => e = .tup (NS.map D.str)) (dr_ok (fun _ => var_at rfl) rfl) fun d2 hd2 => da_cons (P := fun e => e = .tup (es.map enE)) (dr_ok (fun _ => var_at rfl) rfl) fun d3 hd3 => da_cons (P := fun e => e = .str t) (dr_ok (fun _ => var_at rfl) rfl) fun d4 hd4 => da_nil ⟨rfl, by rw [hd1, hd2, hd3, hd4]; exact bad_graph_ok g hN' hK l1 l2 ht fun hm => tN' (g.n t hm)⟩)).imp fun d hd => by
      have hd' := hd
      obtain ⟨v, i, rfl, _⟩ := hd
      exact ⟨_, _, rfl, hd'⟩) ?_
  rintro a b ⟨v, i, eab, gv, hi, pv, wv⟩
  injection eab with eab
  injection eab with e1 eab
  injection eab with e2 _
  have e1 := e1.symm
  subst e1
  subst e2
  show Dw P0 (lamQ "law") h q _ [some (.lst (ns.map D.int)), some (.ref h), some (.int (m : Int)), some (.lst ((N' ++ [t]).map D.str)), some (.lst (K.map D.str)), some (.str t), some (toldW "line" none), some (.ref n1), some (.ref n2), some (.tup (NS.map D.str)), some (.tup (es.map enE)), some (v), some (.int i), none, none, none, none, none, none, none, none, none, none, none, none]
  refine dw_no (fun A hT => or_no (same_vl (told_vl (o := some i) wg fun j hj => by cases hj; omega) (by decide) (by decide) (heard_graph (o := some i) hT (callK1 (var_at rfl) ?_)) (lst_at (cons_at rfl (cons_at (var_at rfl) (cons_at rfl nil_at))) (by simp))) (isB_no (callF_at (cons_at (var_at rfl) nil_at) rfl ?_))) ?_
  · rw [need_graph_at pv wv, gv]
    rfl
  · rw [is_graph_at pv wv, gv]
    rfl
  -- a deed, a line
  have dd : ∀ {i j k : Nat} {ρ : DM.Env}, ρ[i]? = some (some (.ref h)) → ρ[j]? = some (some (.lst ((N' ++ [t]).map D.str))) → ρ[k]? = some (some (.lst (K.map D.str))) → Dr h q (mCallF 3 f__law_deed (mCons (mVar i) (mCons (mVar j) (mCons (mVar k) (mNil))))) ρ (Deed (N' ++ [t]) K) := fun h1 h2 h3 =>
    dr_call (da_cons (P := fun e => e = .ref h) (dr_ok (fun _ => var_at h1) rfl) fun d1 hd1 => da_cons (P := fun e => e = .lst ((N' ++ [t]).map D.str)) (dr_ok (fun _ => var_at h2) rfl) fun d2 hd2 => da_cons (P := fun e => e = .lst (K.map D.str)) (dr_ok (fun _ => var_at h3) rfl) fun d3 hd3 => da_nil ⟨rfl, by rw [hd1, hd2, hd3]; exact deed_ok (by omega) (by omega) (by omega) (by omega)⟩)
  refine dw_set h0 q0 (dd rfl rfl rfl) ?_
  intro dE hE
  show Dw P0 (lamQ "law") h q _ [some (.lst (ns.map D.int)), some (.ref h), some (.int (m : Int)), some (.lst ((N' ++ [t]).map D.str)), some (.lst (K.map D.str)), some (.str t), some (toldW "line" none), some (.ref n1), some (.ref n2), some (.tup (NS.map D.str)), some (.tup (es.map enE)), some (v), some (.int i), some (dE), none, none, none, none, none, none, none, none, none, none, none]
  have fE := deed_F hN hK hE
  have vE : Vl 3 10000 dE := by
    obtain ⟨w, y, r, rfl, vs, _, hr⟩ := deed_form hN hK hE
    exact (vl_tup (n := 3) vs (by simp only [List.length_cons]; omega)).mono (by decide) (by decide)
  obtain ⟨x0, N0, eN⟩ : ∃ x0 N0, N' ++ [t] = x0 :: N0 := by
    cases z : N' ++ [t] with
    | nil => simp at z
    | cons a b => exact ⟨a, b, rfl⟩
  obtain ⟨k0, K0, rfl⟩ : ∃ k0 K0, K = k0 :: K0 := by
    cases K with
    | nil => simp at lK
    | cons a b => exact ⟨a, b, rfl⟩
  refine dw_set h0 q0 (Q := fun d => ∃ l : L3, d = lnD l ∧ Nd l) (dr_tup (R := fun ds => ∃ l : L3, ds = [.str l.1, .str l.2.1, .str l.2.2] ∧ Nd l) (da_cons (P := fun e => e = .str x0) (dr_ok (fun A => op_at (var_at rfl) rfl (by rw [eN]; exact DM.ix_lst (SR.atI_nat (j := 0) rfl))) rfl) fun d1 hd1 => da_cons (P := fun e => e = .str k0) (dr_ok (fun A => op_at (var_at rfl) rfl (DM.ix_lst (SR.atI_nat (j := 0) rfl))) rfl) fun d2 hd2 => da_cons (dr_nm (N := N' ++ [t]) rfl rfl (by omega) (by omega)) fun d3 hd3 => da_nil ?_) ?_) ?_
  · obtain ⟨y, hy, rfl⟩ := hd3
    exact ⟨(x0, k0, y), by rw [hd1, hd2], hN x0 (by rw [eN]; exact List.mem_cons_self), hK k0 List.mem_cons_self, hN y hy⟩
  · rintro ds ⟨l, rfl, hl⟩
    exact ⟨by simp, l, rfl, hl⟩
  rintro d ⟨l, rfl, nl⟩
  show Dw P0 (lamQ "law") h q _ [some (.lst (ns.map D.int)), some (.ref h), some (.int (m : Int)), some (.lst ((N' ++ [t]).map D.str)), some (.lst ((k0 :: K0).map D.str)), some (.str t), some (toldW "line" none), some (.ref n1), some (.ref n2), some (.tup (NS.map D.str)), some (.tup (es.map enE)), some (v), some (.int i), some (dE), some (lnD l), none, none, none, none, none, none, none, none, none, none]
  have vl := vl_ln nl
  have fl : lineF (lnD l) = none := by
    show (if nodeB (.str l.1) = true then (if nodeB (.str l.2.1) = true then (if nodeB (.str l.2.2) = true then none else some 2) else some 1) else some 0) = none
    rw [if_pos nl.1, if_pos nl.2.1, if_pos nl.2.2]
  refine dw_two (d1 := toldW "line" none) (d2 := toldW "deed" none) h0 q0 (fun A hT => heard_line (o := none) hT (callK1 (var_at rfl) ?_)) (by simp) (fun n A hT => heard_deed (o := none) hT (callK1 (var_at rfl) ?_)) (fun n A hT hn => or_no (tst_at (same_ref (vl_list2 wl wd) (by decide) (by decide) (var_at rfl) hn (lst_at (cons_at (var_at rfl) (cons_at (var_at rfl) nil_at)) (by simp)))) (or_no (isB_no (callF_at (cons_at (var_at rfl) nil_at) rfl ?_)) (isB_no (callK1 (var_at rfl) ?_)))) fun n => ?_
  · rw [need_line_at vl.1, fl]
    rfl
  · rw [need_deed_at vE.1 (Nat.le_trans vE.2.1 (by decide)), fE]
    rfl
  · rw [is_line_at vl.1, lineB, fl]
    rfl
  · rw [is_deed_at vE.1 (Nat.le_trans vE.2.1 (by decide)), fE]
    rfl
  -- a bent line
  show Dw P0 (lamQ "law") h q _ [some (.lst (ns.map D.int)), some (.ref h), some (.int (m : Int)), some (.lst ((N' ++ [t]).map D.str)), some (.lst ((k0 :: K0).map D.str)), some (.str t), some (toldW "line" none), some (.ref n1), some (.ref n2), some (.tup (NS.map D.str)), some (.tup (es.map enE)), some (v), some (.int i), some (dE), some (lnD l), some (.ref n), none, none, none, none, none, none, none, none, none]
  refine dw_asg2 h0 q0 (R := fun a b => BadL (.tup [a, b])) ((dr_call (P := BadL) (da_cons (P := fun e => e = .ref h) (dr_ok (fun _ => var_at rfl) rfl) fun d1 hd1 => da_cons (P := fun e => e = lnD l) (dr_ok (fun _ => var_at rfl) rfl) fun d2 hd2 => da_nil ⟨rfl, by rw [hd1, hd2]; exact bad_line_ok nl⟩)).imp fun d hd => by
      have hd' := hd
      obtain ⟨v, i, rfl, _⟩ := hd
      exact ⟨_, _, rfl, hd'⟩) ?_
  rintro a b ⟨v2, i2, eab, fv2, i2a, i2b, vv2⟩
  injection eab with eab
  injection eab with e1 eab
  injection eab with e2 _
  have e1 := e1.symm
  subst e1
  subst e2
  show Dw P0 (lamQ "law") h q _ [some (.lst (ns.map D.int)), some (.ref h), some (.int (m : Int)), some (.lst ((N' ++ [t]).map D.str)), some (.lst ((k0 :: K0).map D.str)), some (.str t), some (toldW "line" none), some (.ref n1), some (.ref n2), some (.tup (NS.map D.str)), some (.tup (es.map enE)), some (v), some (.int i), some (dE), some (lnD l), some (.ref n), some (v2), some (.int i2), none, none, none, none, none, none, none]
  refine dw_no (fun A hT => or_no (same_vl (told_vl (o := some i2) wl fun j hj => by cases hj; omega) (by decide) (by decide) (heard_line (o := some i2) hT (callF_at (cons_at (var_at rfl) nil_at) rfl ?_)) (lst_at (cons_at rfl (cons_at (var_at rfl) (cons_at rfl nil_at))) (by simp))) (isB_no (callK1 (var_at rfl) ?_))) ?_
  · rw [need_line_at vv2.1, fv2]
    rfl
  · rw [is_line_at vv2.1, lineB, fv2]
    rfl
  -- a bent deed
  refine dw_asg2 h0 q0 (R := fun a b => BadD (.tup [a, b])) ((dr_call (P := BadD) (da_cons (P := fun e => e = .ref h) (dr_ok (fun _ => var_at rfl) rfl) fun d1 hd1 => da_cons (P := fun e => e = dE) (dr_ok (fun _ => var_at rfl) rfl) fun d2 hd2 => da_nil ⟨rfl, by rw [hd1, hd2]; exact bad_deed_ok hN hK hE⟩)).imp fun d hd => by
      have hd' := hd
      obtain ⟨v, i, rfl, _⟩ := hd
      exact ⟨_, _, rfl, hd'⟩) ?_
  rintro a b ⟨v3, i3, eab, fv3, i3a, i3b, vv3⟩
  injection eab with eab
  injection eab with e1 eab
  injection eab with e2 _
  have e1 := e1.symm
  subst e1
  subst e2
  show Dw P0 (lamQ "law") h q _ [some (.lst (ns.map D.int)), some (.ref h), some (.int (m : Int)), some (.lst ((N' ++ [t]).map D.str)), some (.lst ((k0 :: K0).map D.str)), some (.str t), some (toldW "line" none), some (.ref n1), some (.ref n2), some (.tup (NS.map D.str)), some (.tup (es.map enE)), some (v), some (.int i), some (dE), some (lnD l), some (.ref n), some (v2), some (.int i2), some (v3), some (.int i3), none, none, none, none, none]
  refine dw_no (fun A hT => or_no (same_vl (told_vl (o := some i3) wd fun j hj => by cases hj; omega) (by decide) (by decide) (heard_deed (o := some i3) hT (callF_at (cons_at (var_at rfl) nil_at) rfl ?_)) (lst_at (cons_at rfl (cons_at (var_at rfl) (cons_at rfl nil_at))) (by simp))) (isB_no (callF_at (cons_at (var_at rfl) nil_at) rfl ?_))) ?_
  · rw [need_deed_at vv3.1 (Nat.le_trans vv3.2.1 (by decide)), fv3]
    rfl
  · rw [is_deed_at vv3.1 (Nat.le_trans vv3.2.1 (by decide)), fv3]
    rfl
  -- a batch
  refine dw_set h0 q0 (dr_many (R := fun k => k ≤ 9) (P := Deed (N' ++ [t]) (k0 :: K0)) (dr_of rfl (dr_lst (n := 3) (all_cons (dr_ok (fun _ => rfl) ⟨0, rfl, by decide⟩) (all_cons (dr_ok (fun _ => rfl) ⟨1, rfl, by decide⟩) (all_cons (dr_ok (fun _ => rfl) ⟨3, rfl, by decide⟩) (all_cons (dr_ok (fun _ => rfl) ⟨9, rfl, by decide⟩) all_nil)))) (by decide))) (fun k hk => Nat.le_trans hk (by decide)) (by simp) fun z => dd rfl rfl rfl) ?_
  rintro d ⟨ds, rfl, lds, hds⟩
  show Dw P0 (lamQ "law") h q _ [some (.lst (ns.map D.int)), some (.ref h), some (.int (m : Int)), some (.lst ((N' ++ [t]).map D.str)), some (.lst ((k0 :: K0).map D.str)), some (.str t), some (toldW "line" none), some (.ref n1), some (.ref n2), some (.tup (NS.map D.str)), some (.tup (es.map enE)), some (v), some (.int i), some (dE), some (lnD l), some (.ref n), some (v2), some (.int i2), some (v3), some (.int i3), some (.lst ds), none, none, none, none]
  have vds : ∀ z ∈ ds, Vl 6 100000 z := fun z hz => by
    obtain ⟨w, y, r, rfl, vs, _, hr⟩ := deed_form hN hK (hds z hz)
    exact (vl_tup (n := 3) vs (by simp only [List.length_cons]; omega)).mono (by decide) (by decide)
  have fds : ∀ z ∈ ds, deedF z = none := fun z hz => deed_F hN hK (hds z hz)
  have vB : Vl 7 2000000 (.lst ds) := (vl_lst (n := 12) vds (by omega)).mono (by decide) (by decide)
  have vBt : Vl 7 2000000 (.tup ds) := (vl_tup (n := 12) vds (by omega)).mono (by decide) (by decide)
  refine dw_two (d1 := toldW "deed" none) (d2 := toldW "deed" none) h0 q0 (fun A hT => heard_deed (o := none) hT (callF_at (cons_at (var_at rfl) nil_at) rfl ?_)) (by simp) (fun n A hT => heard_deed (o := none) hT (callF_at (cons_at (call_at (r := .ok (.tup ds) A) (cons_at (var_at rfl) nil_at) rfl) nil_at) rfl ?_)) (fun n A hT hn => tst_at (same_ref (vl_list2 wd wd) (by decide) (by decide) (var_at rfl) hn (lst_at (cons_at (var_at rfl) (cons_at (var_at rfl) nil_at)) (by simp)))) fun n' => ?_
  · rw [need_batch_at vB.1 (Nat.le_trans vB.2.1 (by decide))]
    show (match (deedsF 0 ds).map fun i => (i : Int) with | none => _ | some i => _) = _
    rw [deedsF_all fds]
    rfl
  · rw [need_batch_at vBt.1 (Nat.le_trans vBt.2.1 (by decide))]
    show (match (deedsF 0 ds).map fun i => (i : Int) with | none => _ | some i => _) = _
    rw [deedsF_all fds]
    rfl
  -- a bent batch
  show Dw P0 (lamQ "law") h q _ [some (.lst (ns.map D.int)), some (.ref h), some (.int (m : Int)), some (.lst ((N' ++ [t]).map D.str)), some (.lst ((k0 :: K0).map D.str)), some (.str t), some (toldW "line" none), some (.ref n1), some (.ref n2), some (.tup (NS.map D.str)), some (.tup (es.map enE)), some (v), some (.int i), some (dE), some (lnD l), some (.ref n'), some (v2), some (.int i2), some (v3), some (.int i3), some (.lst ds), none, none, none, none]
  refine dw_set h0 q0 (dr_anyx (k := ds.length + 1) rfl (fun A => op_at (call_at (cons_at (var_at rfl) nil_at) lst_len) rfl (by rw [add_ii]; congr 2)) (by omega) (by omega)) ?_
  rintro d ⟨p, rfl, hp⟩
  show Dw P0 (lamQ "law") h q _ [some (.lst (ns.map D.int)), some (.ref h), some (.int (m : Int)), some (.lst ((N' ++ [t]).map D.str)), some (.lst ((k0 :: K0).map D.str)), some (.str t), some (toldW "line" none), some (.ref n1), some (.ref n2), some (.tup (NS.map D.str)), some (.tup (es.map enE)), some (v), some (.int (p : Int)), some (dE), some (lnD l), some (.ref n'), some (v2), some (.int i2), some (v3), some (.int i3), some (.lst ds), none, none, none, none]
  have v3ne : deedF v3 ≠ none := by rw [fv3]; exact fun z => nomatch z
  refine dw_set h0 q0 (Q := fun d => batchF d = some (p : Int) ∧ Pl d ∧ dep d ≤ 60) (dr_of rfl (dr_lst (n := 1) (all_cons (dr_ok (d := .lst (ds.take p ++ [v3] ++ ds.drop p)) (fun A => op_at (op_at (sll_pre (var_at rfl) (var_at rfl)) (lst_at (cons_at (var_at rfl) nil_at) (by simp)) (add_ll ?_)) (sll_suf (var_at rfl) (var_at rfl)) (add_ll ?_)) ⟨?_, ?_⟩) (all_cons (dr_ok (d := .tup (ds.take p ++ [v3, .non])) (fun A => call_at (g := fTup) (ds := [.lst (ds.take p ++ [v3, .non])]) (cons_at (op_at (sll_pre (var_at rfl) (var_at rfl)) (lst_at (cons_at (var_at rfl) (cons_at rfl nil_at)) (by simp)) (add_ll ?_)) nil_at) rfl) ⟨?_, ?_⟩) all_nil)) (by decide))) ?_
  · rw [List.length_take]; simp only [List.length_cons, List.length_nil]; omega
  · rw [List.length_append, List.length_take, List.length_drop]; simp only [List.length_cons, List.length_nil]; omega
  · show (deedsF 0 (ds.take p ++ [v3] ++ ds.drop p)).map (fun i => (i : Int)) = some (p : Int)
    rw [List.append_assoc]
    show (deedsF 0 (ds.take p ++ v3 :: ds.drop p)).map (fun i => (i : Int)) = some (p : Int)
    rw [deedsF_app (fun z hz => fds z (List.mem_of_mem_take hz)) v3ne, List.length_take, Nat.min_eq_left (by omega), Nat.zero_add]
    rfl
  · have := vl_lst (k := 6) (w := 100000) (n := 12) (xs := ds.take p ++ [v3] ++ ds.drop p) (fun z hz => by
      rcases List.mem_append.mp hz with hz | hz
      · rcases List.mem_append.mp hz with hz | hz
        · exact vds z (List.mem_of_mem_take hz)
        · rw [List.mem_singleton.mp hz]; exact vv3
      · exact vds z (List.mem_of_mem_drop hz)) (by rw [List.length_append, List.length_append, List.length_take, List.length_drop]; simp only [List.length_cons, List.length_nil]; omega)
    exact ⟨this.1, Nat.le_trans this.2.1 (by decide)⟩
  · rw [List.length_take]; simp only [List.length_cons, List.length_nil]; omega
  · show (deedsF 0 (ds.take p ++ v3 :: [.non])).map (fun i => (i : Int)) = some (p : Int)
    rw [deedsF_app (fun z hz => fds z (List.mem_of_mem_take hz)) v3ne, List.length_take, Nat.min_eq_left (by omega), Nat.zero_add]
    rfl
  · have := vl_tup (k := 6) (w := 100000) (n := 12) (xs := ds.take p ++ [v3, .non]) (fun z hz => by
      rcases List.mem_append.mp hz with hz | hz
      · exact vds z (List.mem_of_mem_take hz)
      · rcases List.mem_cons.mp hz with rfl | hz
        · exact vv3
        · rw [List.mem_singleton.mp hz]; exact vl_non.mono (by decide) (by decide)) (by rw [List.length_append, List.length_take]; simp only [List.length_cons, List.length_nil]; omega)
    exact ⟨this.1, Nat.le_trans this.2.1 (by decide)⟩
  rintro dB ⟨fB, pB, kB⟩
  show Dw P0 (lamQ "law") h q _ [some (.lst (ns.map D.int)), some (.ref h), some (.int (m : Int)), some (.lst ((N' ++ [t]).map D.str)), some (.lst ((k0 :: K0).map D.str)), some (.str t), some (toldW "line" none), some (.ref n1), some (.ref n2), some (.tup (NS.map D.str)), some (.tup (es.map enE)), some (v), some (.int (p : Int)), some (dE), some (lnD l), some (.ref n'), some (v2), some (.int i2), some (v3), some (.int i3), some (.lst ds), some (dB), none, none, none]
  refine dw_no (fun A hT => same_vl (told_vl (o := some (p : Int)) wd fun j hj => by cases hj; omega) (by decide) (by decide) (heard_deed (o := some (p : Int)) hT (callK1 (var_at rfl) ?_)) (lst_at (cons_at rfl (cons_at (var_at rfl) (cons_at rfl nil_at))) (by simp))) ?_
  · rw [need_batch_at pB kB, fB]
    rfl
  -- no batch at all
  refine dw_set h0 q0 (Q := fun d => batchF d = some (-1) ∧ Pl d ∧ dep d ≤ 60) (dr_of rfl (dr_lst (n := 4) (all_cons (dr_ok (fun _ => rfl) ⟨rfl, .non, by decide⟩) (all_cons (dr_ok (fun _ => rfl) ⟨rfl, pl_lit (by decide +kernel) (by decide +kernel), Nat.zero_le _⟩) (all_cons (dr_ok (fun _ => rfl) ⟨rfl, .int (by decide), Nat.zero_le _⟩) (all_cons (dr_ok (fun _ => rfl) ⟨rfl, pl_lit (by decide +kernel) (by decide +kernel), Nat.zero_le _⟩) (all_cons (dr_ok (fun _ => rfl) ⟨rfl, .bl true, Nat.zero_le _⟩) all_nil))))) (by decide))) ?_
  rintro dC ⟨fC, pC, kC⟩
  show Dw P0 (lamQ "law") h q _ [some (.lst (ns.map D.int)), some (.ref h), some (.int (m : Int)), some (.lst ((N' ++ [t]).map D.str)), some (.lst ((k0 :: K0).map D.str)), some (.str t), some (toldW "line" none), some (.ref n1), some (.ref n2), some (.tup (NS.map D.str)), some (.tup (es.map enE)), some (v), some (.int (p : Int)), some (dE), some (lnD l), some (.ref n'), some (dC), some (.int i2), some (v3), some (.int i3), some (.lst ds), some (dB), none, none, none]
  refine dw_no (fun A hT => same_vl (told_vl (o := some (-1)) wd fun j hj => by cases hj; decide) (by decide) (by decide) (heard_deed (o := some (-1)) hT (callF_at (cons_at (var_at rfl) nil_at) rfl ?_)) (lst_at (cons_at rfl (cons_at (op_at rfl rfl rfl) (cons_at rfl nil_at))) (by simp))) ?_
  · rw [need_batch_at pC kC, fC]
    rfl
  -- nodes, kinds, prices
  refine dw_par2 h0 q0 (R := fun a b => BadN a ∧ priceB b = false ∧ Pl b) (da_cons (P := BadN) (dr_call (da_cons (P := fun e => e = .ref h) (dr_ok (fun _ => var_at rfl) rfl) fun d1 hd1 => da_cons (P := fun e => e = .str t) (dr_ok (fun _ => var_at rfl) rfl) fun d2 hd2 => da_nil ⟨rfl, by rw [hd1, hd2]; exact bad_ok ht⟩)) fun a ha => da_cons (P := fun b => priceB b = false ∧ Pl b) (dr_of rfl (dr_lst (n := 5) (all_cons (dr_ok (fun _ => rfl) ⟨rfl, .int (by decide)⟩) (all_cons (dr_ok (fun A => op_at (pow6 A) rfl add_ii) ⟨rfl, .int (by decide)⟩) (all_cons (dr_ok (fun _ => rfl) ⟨rfl, .bl true⟩) (all_cons (dr_ok (fun _ => rfl) ⟨rfl, .non⟩) (all_cons (dr_ok (fun _ => rfl) ⟨rfl, pl_lit (by decide +kernel) (by decide +kernel)⟩) (all_cons (dr_ok (fun _ => tup_at (cons_at rfl nil_at) (by simp)) ⟨rfl, .tup (Pls.of fun z hz => (List.mem_singleton.mp hz) ▸ .int (by decide))⟩) all_nil)))))) (by decide))) fun b hb => da_nil ⟨a, b, rfl, ha, hb⟩) ?_
  rintro a b ⟨ha, hb, pb⟩
  show Dw P0 (lamQ "law") h q _ [some (.lst (ns.map D.int)), some (.ref h), some (.int (m : Int)), some (.lst ((N' ++ [t]).map D.str)), some (.lst ((k0 :: K0).map D.str)), some (.str t), some (toldW "line" none), some (.ref n1), some (.ref n2), some (.tup (NS.map D.str)), some (.tup (es.map enE)), some (v), some (.int (p : Int)), some (dE), some (lnD l), some (.ref n'), some (dC), some (.int i2), some (v3), some (.int i3), some (.lst ds), some (dB), some (a), some (b), none]
  intro A hs hT
  have c1 := is_node_at (A := A) (pl_node ht)
  have c2 := is_kind_at (A := A) (pl_node (hK k0 List.mem_cons_self))
  have c3 := is_price_at (A := A) (d := .int 1000000) (.int (by decide))
  have c4 := is_price_at (A := A) (d := .int 0) (.int (by decide))
  have c5 := is_node_at (A := A) ha.2.1
  have c6 := is_kind_at (A := A) ha.2.1
  have c7 := is_price_at (A := A) pb
  rw [ht] at c1
  rw [hK k0 List.mem_cons_self] at c2
  rw [ha.1] at c5 c6
  rw [hb] at c7
  have e := new_at (ρ := [some (.lst (ns.map D.int)), some (.ref h), some (.int (m : Int)), some (.lst ((N' ++ [t]).map D.str)), some (.lst ((k0 :: K0).map D.str)), some (.str t), some (toldW "line" none), some (.ref n1), some (.ref n2), some (.tup (NS.map D.str)), some (.tup (es.map enE)), some (v), some (.int (p : Int)), some (dE), some (lnD l), some (.ref n'), some (dC), some (.int i2), some (v3), some (.int i3), some (.lst ds), some (dB), some (a), some (b), none]) (A := A) (cons_at (callK1 (var_at (i := 5) rfl) c1) (cons_at (callK1 (op_at (ma := mVar 4) (mb := mK (.int 0)) (var_at rfl) rfl (DM.ix_lst (SR.atI_nat (j := 0) rfl))) c2) (cons_at (callK1 (pow6 A) c3) (cons_at (callF_at (cons_at (me := mK (.int 0)) rfl nil_at) rfl c4) (cons_at (callF_at (cons_at (var_at (i := 22) rfl) nil_at) rfl c5) (cons_at (callF_at (cons_at (var_at (i := 22) rfl) nil_at) rfl c6) (cons_at (callF_at (cons_at (var_at (i := 23) rfl) nil_at) rfl c7) nil_at))))))) (by simp)
  refine ⟨_, (seq_nx (set_at e)).trans (ret_at (same_ref (xs := [.bl true, .bl true, .bl true, .bl true, .bl false, .bl false, .bl false]) (k := 1) (w := 1000) (neg := false) ((vl_lst (k := 0) (w := 64) (n := 7) (fun z hz => ?_) (by simp)).mono (by decide) (by decide)) (by decide) (by decide) (var_at rfl) ?_ ?_))⟩
  · simp only [List.mem_cons, List.not_mem_nil, or_false] at hz
    rcases hz with rfl | rfl | rfl | rfl | rfl | rfl | rfl <;> exact vl_bl
  · rw [List.getElem?_append_right (Nat.le_refl _), Nat.sub_self]
    rfl
  · rfl
end K23
end
section
set_option maxHeartbeats 4000000
namespace K23
open PySem PySem.Spec PyProof.Rows L2 DM SR GR
variable [HasPW]
theorem law_true {P : Program} {w : World} {K : PySem.W.Frag} {mg : Str → Option Value} {base : Heap} {ad : Nat → Addr} {fd : Nat → FuncData} {tb : Nat → Addr × Addr} (T : Tx P w K mg ad fd tb)
    (tbs : ∀ p ∈ ([((tb 0).1, (tb 0).2, lamQ "law")] : Tabs0), LamX.TabB base mg p.1 p.2.1) (ns : List Int) (hl : ns.length ≤ 63) (hb : ∀ z ∈ ns, Builtin.Int.intBits z ≤ 1048576) :
    ∃ (mf : List D → AH → Res D) (AE : AH), mf [.lst (ns.map D.int)] (tabs0 [((tb 0).1, (tb 0).2, lamQ "law")]) = .ok (.bl true) AE ∧ FnD P w K mg base 9 (ad 30) (fd 30) ["_law_script"] mf := by
  obtain ⟨AE, e⟩ := law_holds ns (tb 0).2
  have B0 : LamX.TabB base mg (tb 0).1 (tb 0).2 := tbs _ List.mem_cons_self
  have gis_integer : FnD P w K mg base 1 (ad 0) (fd 0) ["value"] f_is_integer := w_is_integer T 
  have gis_sequence : FnD P w K mg base 1 (ad 1) (fd 1) ["value"] f_is_sequence := w_is_sequence T 
  have gis_tuple_of : FnD P w K mg base 1 (ad 2) (fd 2) ["value", "size"] f_is_tuple_of := w_is_tuple_of T 
  have gis_node : FnD P w K mg base 1 (ad 3) (fd 3) ["value"] f_is_node := w_is_node T 
  have gis_kind : FnD P w K mg base 2 (ad 4) (fd 4) ["value"] f_is_kind := w_is_kind T gis_node
  have gis_price : FnD P w K mg base 2 (ad 5) (fd 5) ["value"] f_is_price := w_is_price T gis_integer
  have gline_fault : FnD P w K mg base 2 (ad 6) (fd 6) ["value"] f_line_fault := w_line_fault T gis_tuple_of gis_node
  have gis_line : FnD P w K mg base 3 (ad 7) (fd 7) ["value"] f_is_line := w_is_line T gline_fault
  have gneed_line : FnD P w K mg base 3 (ad 8) (fd 8) ["value"] f_need_line := w_need_line T gline_fault
  have ggraph_fault : FnD P w K mg base 4 (ad 9) (fd 9) ["value"] f_graph_fault := w_graph_fault T gis_tuple_of gis_node gis_line gis_price
  have gis_graph : FnD P w K mg base 5 (ad 10) (fd 10) ["value"] f_is_graph := w_is_graph T ggraph_fault
  have gneed_graph : FnD P w K mg base 5 (ad 11) (fd 11) ["value"] f_need_graph := w_need_graph T ggraph_fault
  have gdeed_fault : FnD P w K mg base 4 (ad 12) (fd 12) ["value"] f_deed_fault := w_deed_fault T gis_node gis_line gis_price
  have gis_deed : FnD P w K mg base 5 (ad 13) (fd 13) ["value"] f_is_deed := w_is_deed T gdeed_fault
  have gneed_deed : FnD P w K mg base 5 (ad 14) (fd 14) ["value"] f_need_deed := w_need_deed T gdeed_fault
  have gneed_batch : FnD P w K mg base 6 (ad 15) (fd 15) ["value"] f_need_batch := w_need_batch T gis_sequence gis_deed
  have g_law_source : FnD P w K mg base 1 (ad 16) (fd 16) ["_law_script", "_law_salt"] f__law_source := w__law_source T 
  have g_law_any : FnD P w K mg base 1 (ad 17) (fd 17) ["_law_deal", "_law_bound"] f__law_any := w__law_any T 
  have g_law_of : FnD P w K mg base 2 (ad 18) (fd 18) ["_law_deal", "_law_some"] f__law_of := w__law_of T g_law_any
  have g_law_names : FnD P w K mg base 3 (ad 19) (fd 19) ["_law_deal", "_law_many"] f__law_names := w__law_names T g_law_of g_law_any
  have g_law_price : FnD P w K mg base 3 (ad 20) (fd 20) ["_law_deal"] f__law_price := w__law_price T g_law_of g_law_any
  have g_law_deed : FnD P w K mg base 4 (ad 21) (fd 21) ["_law_deal", "_law_names_here", "_law_kinds"] f__law_deed := w__law_deed T g_law_any g_law_of g_law_price
  have g_law_do : FnD P w K mg base 1 (ad 22) (fd 22) ["_law_nodes", "_law_prices", "_law_deed_here"] f__law_do := w__law_do T 
  have g_law_graph : FnD P w K mg base 1 (ad 23) (fd 23) ["_law_nodes", "_law_prices"] f__law_graph := w__law_graph T 
  have g_law_drawn : FnD P w K mg base 5 (ad 24) (fd 24) ["_law_deal", "_law_names_here", "_law_kinds", "_law_many"] f__law_drawn := w__law_drawn T g_law_do g_law_deed
  have g_law_bad : FnD P w K mg base 3 (ad 25) (fd 25) ["_law_deal", "_law_node"] f__law_bad := w__law_bad T g_law_of
  have g_law_bad_line : FnD P w K mg base 4 (ad 26) (fd 26) ["_law_deal", "_law_line"] f__law_bad_line := w__law_bad_line T g_law_any g_law_of g_law_bad
  have g_law_bad_graph : FnD P w K mg base 5 (ad 27) (fd 27) ["_law_deal", "_law_nodes", "_law_lines", "_law_strange"] f__law_bad_graph := w__law_bad_graph T g_law_any g_law_of g_law_bad g_law_bad_line
  have g_law_bad_deed : FnD P w K mg base 5 (ad 28) (fd 28) ["_law_deal", "_law_deed_here"] f__law_bad_deed := w__law_bad_deed T g_law_any g_law_of g_law_bad g_law_bad_line
  have glaw : FnD P w K mg base 9 (ad 30) (fd 30) ["_law_script"] (m_law (tb 0).2 f__law_source f__law_of f__law_drawn f__law_graph f__law_bad_graph f__law_deed f__law_bad_line f__law_bad_deed f__law_any f__law_names f__law_bad f_is_node f_is_kind f_is_price f_is_graph f_is_line f_is_deed f_need_line f_need_deed f_need_batch f_need_graph) := w_law T g_law_source g_law_of g_law_drawn g_law_graph g_law_bad_graph g_law_deed g_law_bad_line g_law_bad_deed g_law_any g_law_names g_law_bad gis_node gis_kind gis_price gis_graph gis_line gis_deed gneed_line gneed_deed gneed_batch gneed_graph B0
  exact ⟨(lawM (tb 0).2), AE, e, glaw⟩
end K23
end
set_option maxHeartbeats 4000000
namespace K23
open PySem PySem.Spec PyProof.Rows L2 DM
theorem law_end {l : PySem.W.OpenLaw} {q : Program} {w : World} {K : PySem.W.Frag} {h : Heap} {mg : Str → Option Value} {fa : Addr} (X : K.In h) (G : h.Ns mainGlobals mg) (hfa : mg "law" = some (.ref fa)) {f0 f1 f2 f3 f4 f5 f6 f7 f8 f9 f10 f11 f12 f13 f14 f15 f16 f17 f18 f19 f20 f21 f22 f23 f24 f25 f26 f27 f28 f29 f30 f31 f32 f33 f34 f36 f37 f38 : Addr} {P0 : Addr}
    {oc0 kV0 dc0 pm0 cd0 ct0 : Value} {od0 an0 : Option Addr} {sl0 : Array (Option Value)}
    (a0 : PySem.W.nsIn K mainGlobals "is_integer" = some (some (.ref f0)))
    (l0 : K.lookup f0 = some ⟨oc0, od0, .func (PySem.W.fnOf "is_integer" "is_integer" (defArgs x_is_integer) (defBody x_is_integer) (defScope x_is_integer) .none kV0 dc0 pm0 an0 cd0 ct0), sl0⟩)
    (c0 : PySem.W.codeIn K cd0 "is_integer" = true)
    (k0 : PySem.W.keepIn K (.ref f0) = true)
    {oc1 kV1 dc1 pm1 cd1 ct1 : Value} {od1 an1 : Option Addr} {sl1 : Array (Option Value)}
    (a1 : PySem.W.nsIn K mainGlobals "is_sequence" = some (some (.ref f1)))
    (l1 : K.lookup f1 = some ⟨oc1, od1, .func (PySem.W.fnOf "is_sequence" "is_sequence" (defArgs x_is_sequence) (defBody x_is_sequence) (defScope x_is_sequence) .none kV1 dc1 pm1 an1 cd1 ct1), sl1⟩)
    (c1 : PySem.W.codeIn K cd1 "is_sequence" = true)
    (k1 : PySem.W.keepIn K (.ref f1) = true)
    {oc2 kV2 dc2 pm2 cd2 ct2 : Value} {od2 an2 : Option Addr} {sl2 : Array (Option Value)}
    (a2 : PySem.W.nsIn K mainGlobals "is_tuple_of" = some (some (.ref f2)))
    (l2 : K.lookup f2 = some ⟨oc2, od2, .func (PySem.W.fnOf "is_tuple_of" "is_tuple_of" (defArgs x_is_tuple_of) (defBody x_is_tuple_of) (defScope x_is_tuple_of) .none kV2 dc2 pm2 an2 cd2 ct2), sl2⟩)
    (c2 : PySem.W.codeIn K cd2 "is_tuple_of" = true)
    (k2 : PySem.W.keepIn K (.ref f2) = true)
    {oc3 kV3 dc3 pm3 cd3 ct3 : Value} {od3 an3 : Option Addr} {sl3 : Array (Option Value)}
    (a3 : PySem.W.nsIn K mainGlobals "is_node" = some (some (.ref f3)))
    (l3 : K.lookup f3 = some ⟨oc3, od3, .func (PySem.W.fnOf "is_node" "is_node" (defArgs x_is_node) (defBody x_is_node) (defScope x_is_node) .none kV3 dc3 pm3 an3 cd3 ct3), sl3⟩)
    (c3 : PySem.W.codeIn K cd3 "is_node" = true)
    (k3 : PySem.W.keepIn K (.ref f3) = true)
    {oc4 kV4 dc4 pm4 cd4 ct4 : Value} {od4 an4 : Option Addr} {sl4 : Array (Option Value)}
    (a4 : PySem.W.nsIn K mainGlobals "is_kind" = some (some (.ref f4)))
    (l4 : K.lookup f4 = some ⟨oc4, od4, .func (PySem.W.fnOf "is_kind" "is_kind" (defArgs x_is_kind) (defBody x_is_kind) (defScope x_is_kind) .none kV4 dc4 pm4 an4 cd4 ct4), sl4⟩)
    (c4 : PySem.W.codeIn K cd4 "is_kind" = true)
    (k4 : PySem.W.keepIn K (.ref f4) = true)
    {oc5 kV5 dc5 pm5 cd5 ct5 : Value} {od5 an5 : Option Addr} {sl5 : Array (Option Value)}
    (a5 : PySem.W.nsIn K mainGlobals "is_price" = some (some (.ref f5)))
    (l5 : K.lookup f5 = some ⟨oc5, od5, .func (PySem.W.fnOf "is_price" "is_price" (defArgs x_is_price) (defBody x_is_price) (defScope x_is_price) .none kV5 dc5 pm5 an5 cd5 ct5), sl5⟩)
    (c5 : PySem.W.codeIn K cd5 "is_price" = true)
    (k5 : PySem.W.keepIn K (.ref f5) = true)
    {oc6 kV6 dc6 pm6 cd6 ct6 : Value} {od6 an6 : Option Addr} {sl6 : Array (Option Value)}
    (a6 : PySem.W.nsIn K mainGlobals "line_fault" = some (some (.ref f6)))
    (l6 : K.lookup f6 = some ⟨oc6, od6, .func (PySem.W.fnOf "line_fault" "line_fault" (defArgs x_line_fault) (defBody x_line_fault) (defScope x_line_fault) .none kV6 dc6 pm6 an6 cd6 ct6), sl6⟩)
    (c6 : PySem.W.codeIn K cd6 "line_fault" = true)
    (k6 : PySem.W.keepIn K (.ref f6) = true)
    {oc7 kV7 dc7 pm7 cd7 ct7 : Value} {od7 an7 : Option Addr} {sl7 : Array (Option Value)}
    (a7 : PySem.W.nsIn K mainGlobals "is_line" = some (some (.ref f7)))
    (l7 : K.lookup f7 = some ⟨oc7, od7, .func (PySem.W.fnOf "is_line" "is_line" (defArgs x_is_line) (defBody x_is_line) (defScope x_is_line) .none kV7 dc7 pm7 an7 cd7 ct7), sl7⟩)
    (c7 : PySem.W.codeIn K cd7 "is_line" = true)
    (k7 : PySem.W.keepIn K (.ref f7) = true)
    {oc8 kV8 dc8 pm8 cd8 ct8 : Value} {od8 an8 : Option Addr} {sl8 : Array (Option Value)}
    (a8 : PySem.W.nsIn K mainGlobals "need_line" = some (some (.ref f8)))
    (l8 : K.lookup f8 = some ⟨oc8, od8, .func (PySem.W.fnOf "need_line" "need_line" (defArgs x_need_line) (defBody x_need_line) (defScope x_need_line) .none kV8 dc8 pm8 an8 cd8 ct8), sl8⟩)
    (c8 : PySem.W.codeIn K cd8 "need_line" = true)
    (k8 : PySem.W.keepIn K (.ref f8) = true)
    {oc9 kV9 dc9 pm9 cd9 ct9 : Value} {od9 an9 : Option Addr} {sl9 : Array (Option Value)}
    (a9 : PySem.W.nsIn K mainGlobals "graph_fault" = some (some (.ref f9)))
    (l9 : K.lookup f9 = some ⟨oc9, od9, .func (PySem.W.fnOf "graph_fault" "graph_fault" (defArgs x_graph_fault) (defBody x_graph_fault) (defScope x_graph_fault) .none kV9 dc9 pm9 an9 cd9 ct9), sl9⟩)
    (c9 : PySem.W.codeIn K cd9 "graph_fault" = true)
    (k9 : PySem.W.keepIn K (.ref f9) = true)
    {oc10 kV10 dc10 pm10 cd10 ct10 : Value} {od10 an10 : Option Addr} {sl10 : Array (Option Value)}
    (a10 : PySem.W.nsIn K mainGlobals "is_graph" = some (some (.ref f10)))
    (l10 : K.lookup f10 = some ⟨oc10, od10, .func (PySem.W.fnOf "is_graph" "is_graph" (defArgs x_is_graph) (defBody x_is_graph) (defScope x_is_graph) .none kV10 dc10 pm10 an10 cd10 ct10), sl10⟩)
    (c10 : PySem.W.codeIn K cd10 "is_graph" = true)
    (k10 : PySem.W.keepIn K (.ref f10) = true)
    {oc11 kV11 dc11 pm11 cd11 ct11 : Value} {od11 an11 : Option Addr} {sl11 : Array (Option Value)}
    (a11 : PySem.W.nsIn K mainGlobals "need_graph" = some (some (.ref f11)))
    (l11 : K.lookup f11 = some ⟨oc11, od11, .func (PySem.W.fnOf "need_graph" "need_graph" (defArgs x_need_graph) (defBody x_need_graph) (defScope x_need_graph) .none kV11 dc11 pm11 an11 cd11 ct11), sl11⟩)
    (c11 : PySem.W.codeIn K cd11 "need_graph" = true)
    (k11 : PySem.W.keepIn K (.ref f11) = true)
    {oc12 kV12 dc12 pm12 cd12 ct12 : Value} {od12 an12 : Option Addr} {sl12 : Array (Option Value)}
    (a12 : PySem.W.nsIn K mainGlobals "deed_fault" = some (some (.ref f12)))
    (l12 : K.lookup f12 = some ⟨oc12, od12, .func (PySem.W.fnOf "deed_fault" "deed_fault" (defArgs x_deed_fault) (defBody x_deed_fault) (defScope x_deed_fault) .none kV12 dc12 pm12 an12 cd12 ct12), sl12⟩)
    (c12 : PySem.W.codeIn K cd12 "deed_fault" = true)
    (k12 : PySem.W.keepIn K (.ref f12) = true)
    {oc13 kV13 dc13 pm13 cd13 ct13 : Value} {od13 an13 : Option Addr} {sl13 : Array (Option Value)}
    (a13 : PySem.W.nsIn K mainGlobals "is_deed" = some (some (.ref f13)))
    (l13 : K.lookup f13 = some ⟨oc13, od13, .func (PySem.W.fnOf "is_deed" "is_deed" (defArgs x_is_deed) (defBody x_is_deed) (defScope x_is_deed) .none kV13 dc13 pm13 an13 cd13 ct13), sl13⟩)
    (c13 : PySem.W.codeIn K cd13 "is_deed" = true)
    (k13 : PySem.W.keepIn K (.ref f13) = true)
    {oc14 kV14 dc14 pm14 cd14 ct14 : Value} {od14 an14 : Option Addr} {sl14 : Array (Option Value)}
    (a14 : PySem.W.nsIn K mainGlobals "need_deed" = some (some (.ref f14)))
    (l14 : K.lookup f14 = some ⟨oc14, od14, .func (PySem.W.fnOf "need_deed" "need_deed" (defArgs x_need_deed) (defBody x_need_deed) (defScope x_need_deed) .none kV14 dc14 pm14 an14 cd14 ct14), sl14⟩)
    (c14 : PySem.W.codeIn K cd14 "need_deed" = true)
    (k14 : PySem.W.keepIn K (.ref f14) = true)
    {oc15 kV15 dc15 pm15 cd15 ct15 : Value} {od15 an15 : Option Addr} {sl15 : Array (Option Value)}
    (a15 : PySem.W.nsIn K mainGlobals "need_batch" = some (some (.ref f15)))
    (l15 : K.lookup f15 = some ⟨oc15, od15, .func (PySem.W.fnOf "need_batch" "need_batch" (defArgs x_need_batch) (defBody x_need_batch) (defScope x_need_batch) .none kV15 dc15 pm15 an15 cd15 ct15), sl15⟩)
    (c15 : PySem.W.codeIn K cd15 "need_batch" = true)
    (k15 : PySem.W.keepIn K (.ref f15) = true)
    {oc16 kV16 dc16 pm16 cd16 ct16 : Value} {od16 an16 : Option Addr} {sl16 : Array (Option Value)}
    (a16 : PySem.W.nsIn K mainGlobals "_law_source" = some (some (.ref f16)))
    (l16 : K.lookup f16 = some ⟨oc16, od16, .func (PySem.W.fnOf "_law_source" "_law_source" (defArgs x__law_source) (defBody x__law_source) (defScope x__law_source) .none kV16 dc16 pm16 an16 cd16 ct16), sl16⟩)
    (c16 : PySem.W.codeIn K cd16 "_law_source" = true)
    (k16 : PySem.W.keepIn K (.ref f16) = true)
    {oc17 kV17 dc17 pm17 cd17 ct17 : Value} {od17 an17 : Option Addr} {sl17 : Array (Option Value)}
    (a17 : PySem.W.nsIn K mainGlobals "_law_any" = some (some (.ref f17)))
    (l17 : K.lookup f17 = some ⟨oc17, od17, .func (PySem.W.fnOf "_law_any" "_law_any" (defArgs x__law_any) (defBody x__law_any) (defScope x__law_any) .none kV17 dc17 pm17 an17 cd17 ct17), sl17⟩)
    (c17 : PySem.W.codeIn K cd17 "_law_any" = true)
    (k17 : PySem.W.keepIn K (.ref f17) = true)
    {oc18 kV18 dc18 pm18 cd18 ct18 : Value} {od18 an18 : Option Addr} {sl18 : Array (Option Value)}
    (a18 : PySem.W.nsIn K mainGlobals "_law_of" = some (some (.ref f18)))
    (l18 : K.lookup f18 = some ⟨oc18, od18, .func (PySem.W.fnOf "_law_of" "_law_of" (defArgs x__law_of) (defBody x__law_of) (defScope x__law_of) .none kV18 dc18 pm18 an18 cd18 ct18), sl18⟩)
    (c18 : PySem.W.codeIn K cd18 "_law_of" = true)
    (k18 : PySem.W.keepIn K (.ref f18) = true)
    {oc19 kV19 dc19 pm19 cd19 ct19 : Value} {od19 an19 : Option Addr} {sl19 : Array (Option Value)}
    (a19 : PySem.W.nsIn K mainGlobals "_law_names" = some (some (.ref f19)))
    (l19 : K.lookup f19 = some ⟨oc19, od19, .func (PySem.W.fnOf "_law_names" "_law_names" (defArgs x__law_names) (defBody x__law_names) (defScope x__law_names) .none kV19 dc19 pm19 an19 cd19 ct19), sl19⟩)
    (c19 : PySem.W.codeIn K cd19 "_law_names" = true)
    (k19 : PySem.W.keepIn K (.ref f19) = true)
    {oc20 kV20 dc20 pm20 cd20 ct20 : Value} {od20 an20 : Option Addr} {sl20 : Array (Option Value)}
    (a20 : PySem.W.nsIn K mainGlobals "_law_price" = some (some (.ref f20)))
    (l20 : K.lookup f20 = some ⟨oc20, od20, .func (PySem.W.fnOf "_law_price" "_law_price" (defArgs x__law_price) (defBody x__law_price) (defScope x__law_price) .none kV20 dc20 pm20 an20 cd20 ct20), sl20⟩)
    (c20 : PySem.W.codeIn K cd20 "_law_price" = true)
    (k20 : PySem.W.keepIn K (.ref f20) = true)
    {oc21 kV21 dc21 pm21 cd21 ct21 : Value} {od21 an21 : Option Addr} {sl21 : Array (Option Value)}
    (a21 : PySem.W.nsIn K mainGlobals "_law_deed" = some (some (.ref f21)))
    (l21 : K.lookup f21 = some ⟨oc21, od21, .func (PySem.W.fnOf "_law_deed" "_law_deed" (defArgs x__law_deed) (defBody x__law_deed) (defScope x__law_deed) .none kV21 dc21 pm21 an21 cd21 ct21), sl21⟩)
    (c21 : PySem.W.codeIn K cd21 "_law_deed" = true)
    (k21 : PySem.W.keepIn K (.ref f21) = true)
    {oc22 kV22 dc22 pm22 cd22 ct22 : Value} {od22 an22 : Option Addr} {sl22 : Array (Option Value)}
    (a22 : PySem.W.nsIn K mainGlobals "_law_do" = some (some (.ref f22)))
    (l22 : K.lookup f22 = some ⟨oc22, od22, .func (PySem.W.fnOf "_law_do" "_law_do" (defArgs x__law_do) (defBody x__law_do) (defScope x__law_do) .none kV22 dc22 pm22 an22 cd22 ct22), sl22⟩)
    (c22 : PySem.W.codeIn K cd22 "_law_do" = true)
    (k22 : PySem.W.keepIn K (.ref f22) = true)
    {oc23 kV23 dc23 pm23 cd23 ct23 : Value} {od23 an23 : Option Addr} {sl23 : Array (Option Value)}
    (a23 : PySem.W.nsIn K mainGlobals "_law_graph" = some (some (.ref f23)))
    (l23 : K.lookup f23 = some ⟨oc23, od23, .func (PySem.W.fnOf "_law_graph" "_law_graph" (defArgs x__law_graph) (defBody x__law_graph) (defScope x__law_graph) .none kV23 dc23 pm23 an23 cd23 ct23), sl23⟩)
    (c23 : PySem.W.codeIn K cd23 "_law_graph" = true)
    (k23 : PySem.W.keepIn K (.ref f23) = true)
    {oc24 kV24 dc24 pm24 cd24 ct24 : Value} {od24 an24 : Option Addr} {sl24 : Array (Option Value)}
    (a24 : PySem.W.nsIn K mainGlobals "_law_drawn" = some (some (.ref f24)))
    (l24 : K.lookup f24 = some ⟨oc24, od24, .func (PySem.W.fnOf "_law_drawn" "_law_drawn" (defArgs x__law_drawn) (defBody x__law_drawn) (defScope x__law_drawn) .none kV24 dc24 pm24 an24 cd24 ct24), sl24⟩)
    (c24 : PySem.W.codeIn K cd24 "_law_drawn" = true)
    (k24 : PySem.W.keepIn K (.ref f24) = true)
    {oc25 kV25 dc25 pm25 cd25 ct25 : Value} {od25 an25 : Option Addr} {sl25 : Array (Option Value)}
    (a25 : PySem.W.nsIn K mainGlobals "_law_bad" = some (some (.ref f25)))
    (l25 : K.lookup f25 = some ⟨oc25, od25, .func (PySem.W.fnOf "_law_bad" "_law_bad" (defArgs x__law_bad) (defBody x__law_bad) (defScope x__law_bad) .none kV25 dc25 pm25 an25 cd25 ct25), sl25⟩)
    (c25 : PySem.W.codeIn K cd25 "_law_bad" = true)
    (k25 : PySem.W.keepIn K (.ref f25) = true)
    {oc26 kV26 dc26 pm26 cd26 ct26 : Value} {od26 an26 : Option Addr} {sl26 : Array (Option Value)}
    (a26 : PySem.W.nsIn K mainGlobals "_law_bad_line" = some (some (.ref f26)))
    (l26 : K.lookup f26 = some ⟨oc26, od26, .func (PySem.W.fnOf "_law_bad_line" "_law_bad_line" (defArgs x__law_bad_line) (defBody x__law_bad_line) (defScope x__law_bad_line) .none kV26 dc26 pm26 an26 cd26 ct26), sl26⟩)
    (c26 : PySem.W.codeIn K cd26 "_law_bad_line" = true)
    (k26 : PySem.W.keepIn K (.ref f26) = true)
    {oc27 kV27 dc27 pm27 cd27 ct27 : Value} {od27 an27 : Option Addr} {sl27 : Array (Option Value)}
    (a27 : PySem.W.nsIn K mainGlobals "_law_bad_graph" = some (some (.ref f27)))
    (l27 : K.lookup f27 = some ⟨oc27, od27, .func (PySem.W.fnOf "_law_bad_graph" "_law_bad_graph" (defArgs x__law_bad_graph) (defBody x__law_bad_graph) (defScope x__law_bad_graph) .none kV27 dc27 pm27 an27 cd27 ct27), sl27⟩)
    (c27 : PySem.W.codeIn K cd27 "_law_bad_graph" = true)
    (k27 : PySem.W.keepIn K (.ref f27) = true)
    {oc28 kV28 dc28 pm28 cd28 ct28 : Value} {od28 an28 : Option Addr} {sl28 : Array (Option Value)}
    (a28 : PySem.W.nsIn K mainGlobals "_law_bad_deed" = some (some (.ref f28)))
    (l28 : K.lookup f28 = some ⟨oc28, od28, .func (PySem.W.fnOf "_law_bad_deed" "_law_bad_deed" (defArgs x__law_bad_deed) (defBody x__law_bad_deed) (defScope x__law_bad_deed) .none kV28 dc28 pm28 an28 cd28 ct28), sl28⟩)
    (c28 : PySem.W.codeIn K cd28 "_law_bad_deed" = true)
    (k28 : PySem.W.keepIn K (.ref f28) = true)
    {oc29 kV29 dc29 pm29 cd29 ct29 : Value} {od29 an29 : Option Addr} {sl29 : Array (Option Value)}
    (a29 : PySem.W.nsIn K mainGlobals "_law_heard" = some (some (.ref f29)))
    (l29 : K.lookup f29 = some ⟨oc29, od29, .func (PySem.W.fnOf "_law_heard" "_law_heard" (defArgs x__law_heard) (defBody x__law_heard) (defScope x__law_heard) .none kV29 dc29 pm29 an29 cd29 ct29), sl29⟩)
    (c29 : PySem.W.codeIn K cd29 "_law_heard" = true)
    (k29 : PySem.W.keepIn K (.ref f29) = true)
    {oc30 kV30 dc30 pm30 ct30 : Value} {od30 an30 : Option Addr} {sl30 : Array (Option Value)} {cc30 : Addr}
    (a30 : PySem.W.nsIn K mainGlobals "law" = some (some (.ref f30)))
    (l30 : K.lookup f30 = some ⟨oc30, od30, .func (PySem.W.fnOf "law" "law" (defArgs x_law) (defBody x_law) (defScope x_law) .none kV30 dc30 pm30 an30 (.ref cc30) ct30), sl30⟩)
    (c30 : PySem.W.codeIn K (.ref cc30) "law" = true)
    (k30 : PySem.W.keepIn K (.ref f30) = true)
    (sp : PySem.W.specialIn K (.builtin "object.__class__") "__get__" = some (some (.builtin "getset_descriptor.__get__")))
    (tp : PySem.W.takesIn K (.builtin "object.__class__") = some true)
    (tq : PySem.W.nsIn K cStatics "thirdparty.any" = some none)
    (tr : (l.prog.main.scope.names.lookup ("super" : Str)).isSome = false)
    (ea31 : PySem.W.nsIn K mainGlobals "StoreError" = some (some (.ref f31)))
    (eb31 : PySem.W.findIn K (.ref f31) "__getattribute__" = some (some (.builtin "BaseException.__getattribute__")))
    (ec31 : PySem.W.findIn K (.ref f31) "__getattr__" = some none)
    (ed31 : PySem.W.subIn K (.ref f31) (.type "BaseException") = some true)
    (ee31 : PySem.W.hasDictIn K f31 = true)
    (ef31 : PySem.W.findIn K (.ref f31) "__class__" = some (some (.builtin "object.__class__")))
    (eg31 : PySem.W.mroIn K f31 (.type "object") = some true)
    (eh31 : PySem.W.typeIn K (.ref f31) = some (.type "type"))
    (ei31 : PySem.W.keepIn K (.ref f31) = true)
    (ej31 : PySem.W.subIn K (.ref f31) (.ref f31) = some true)
    (ea32 : PySem.W.nsIn K mainGlobals "InvalidGraph" = some (some (.ref f32)))
    (eb32 : PySem.W.findIn K (.ref f32) "__getattribute__" = some (some (.builtin "BaseException.__getattribute__")))
    (ec32 : PySem.W.findIn K (.ref f32) "__getattr__" = some none)
    (ed32 : PySem.W.subIn K (.ref f32) (.type "BaseException") = some true)
    (ee32 : PySem.W.hasDictIn K f32 = true)
    (ef32 : PySem.W.findIn K (.ref f32) "__class__" = some (some (.builtin "object.__class__")))
    (eg32 : PySem.W.mroIn K f32 (.type "object") = some true)
    (eh32 : PySem.W.typeIn K (.ref f32) = some (.type "type"))
    (ei32 : PySem.W.keepIn K (.ref f32) = true)
    (ej32 : PySem.W.subIn K (.ref f32) (.ref f32) = some true)
    (ea33 : PySem.W.nsIn K mainGlobals "InvalidLine" = some (some (.ref f33)))
    (eb33 : PySem.W.findIn K (.ref f33) "__getattribute__" = some (some (.builtin "BaseException.__getattribute__")))
    (ec33 : PySem.W.findIn K (.ref f33) "__getattr__" = some none)
    (ed33 : PySem.W.subIn K (.ref f33) (.type "BaseException") = some true)
    (ee33 : PySem.W.hasDictIn K f33 = true)
    (ef33 : PySem.W.findIn K (.ref f33) "__class__" = some (some (.builtin "object.__class__")))
    (eg33 : PySem.W.mroIn K f33 (.type "object") = some true)
    (eh33 : PySem.W.typeIn K (.ref f33) = some (.type "type"))
    (ei33 : PySem.W.keepIn K (.ref f33) = true)
    (ej33 : PySem.W.subIn K (.ref f33) (.ref f33) = some true)
    (ea34 : PySem.W.nsIn K mainGlobals "InvalidDeed" = some (some (.ref f34)))
    (eb34 : PySem.W.findIn K (.ref f34) "__getattribute__" = some (some (.builtin "BaseException.__getattribute__")))
    (ec34 : PySem.W.findIn K (.ref f34) "__getattr__" = some none)
    (ed34 : PySem.W.subIn K (.ref f34) (.type "BaseException") = some true)
    (ee34 : PySem.W.hasDictIn K f34 = true)
    (ef34 : PySem.W.findIn K (.ref f34) "__class__" = some (some (.builtin "object.__class__")))
    (eg34 : PySem.W.mroIn K f34 (.type "object") = some true)
    (eh34 : PySem.W.typeIn K (.ref f34) = some (.type "type"))
    (ei34 : PySem.W.keepIn K (.ref f34) = true)
    (ej34 : PySem.W.subIn K (.ref f34) (.ref f34) = some true)
    (en34_at : PySem.W.findIn K (.ref f34) "at" = some none)
    (en32_at : PySem.W.findIn K (.ref f32) "at" = some none)
    (en33_at : PySem.W.findIn K (.ref f33) "at" = some none)
    (eu34_34 : PySem.W.subIn K (.ref f34) (.ref f34) = some true)
    (eu34_32 : PySem.W.subIn K (.ref f34) (.ref f32) = some false)
    (eu34_33 : PySem.W.subIn K (.ref f34) (.ref f33) = some false)
    (eu34_31 : PySem.W.subIn K (.ref f34) (.ref f31) = some true)
    (eu32_34 : PySem.W.subIn K (.ref f32) (.ref f34) = some false)
    (eu32_32 : PySem.W.subIn K (.ref f32) (.ref f32) = some true)
    (eu32_33 : PySem.W.subIn K (.ref f32) (.ref f33) = some false)
    (eu32_31 : PySem.W.subIn K (.ref f32) (.ref f31) = some true)
    (eu33_34 : PySem.W.subIn K (.ref f33) (.ref f34) = some false)
    (eu33_32 : PySem.W.subIn K (.ref f33) (.ref f32) = some false)
    (eu33_33 : PySem.W.subIn K (.ref f33) (.ref f33) = some true)
    (eu33_31 : PySem.W.subIn K (.ref f33) (.ref f31) = some true)
    {nm32 qn32 : Str} {N32 : Addr} {bs32 bm32 : List Value} {sn32 : List Str} {sb32 : List Value} {ab32 : Bool} {cl32 : Option Bool} {dd32 : Option Addr} {ka32 kb32 kc32 kd32 ke32 : Option Value}
    {oc32 kV32 dc32 pm32 ct32 ccl32 cel32 : Value} {od32 an32 cdd32 cld32 : Option Addr} {sl32 ccs32 csl32 : Array (Option Value)} {qual32 file32 : Str} {cda32 cc32 : Addr} {vs32 : Array Value} {tf32 : Tok}
    (xa32 : K.lookup f32 = some (excClassObj nm32 qn32 f32 N32 bs32 bm32 true sn32 sb32 ab32 cl32 dd32 ka32 kb32 kc32 kd32 ke32 "Exception.__new__"))
    (xb32 : ErE.Line [.type "Exception", .type "BaseException", .type "object"] bm32)
    (xc32 : PySem.W.findIn K (.ref f32) "__setattr__" = some (some (.builtin "object.__setattr__")))
    (xd32 : PySem.W.findIn K (.ref f32) "__init__" = some (some (.ref f36)))
    (xe32 : PySem.W.typeIn K (.ref f36) = some (.type "function"))
    (xf32 : PySem.W.ks_superIn K f32 f32 "__init__" = some (some (.builtin "Exception.__init__")))
    (xg32 : PySem.W.subIn K (.ref f32) (.type "Exception") = some true)
    (xh32 : K.lookup f36 = some ⟨oc32, od32, .func (PySem.W.ksFn "__init__" qual32 (defArgs (methAt x_InvalidGraph 0)) (defBody (methAt x_InvalidGraph 0)) (defScope (methAt x_InvalidGraph 0)) .none kV32 dc32 pm32 an32 (.ref cda32) ct32 cc32), sl32⟩)
    (xi32 : PySem.W.codeIn K (.ref cda32) qual32 = true)
    (xj32 : K.lookup cda32 = some ⟨ccl32, cdd32, .fields vs32, ccs32⟩)
    (xk32 : vs32[2]? = some (.str file32 tf32))
    (xl32 : ((l.prog.main.file : Str) == file32) = true)
    (xm32 : K.lookup cc32 = some ⟨cel32, cld32, .cell (some (.ref f32)), csl32⟩)
    {nm33 qn33 : Str} {N33 : Addr} {bs33 bm33 : List Value} {sn33 : List Str} {sb33 : List Value} {ab33 : Bool} {cl33 : Option Bool} {dd33 : Option Addr} {ka33 kb33 kc33 kd33 ke33 : Option Value}
    {oc33 kV33 dc33 pm33 ct33 ccl33 cel33 : Value} {od33 an33 cdd33 cld33 : Option Addr} {sl33 ccs33 csl33 : Array (Option Value)} {qual33 file33 : Str} {cda33 cc33 : Addr} {vs33 : Array Value} {tf33 : Tok}
    (xa33 : K.lookup f33 = some (excClassObj nm33 qn33 f33 N33 bs33 bm33 true sn33 sb33 ab33 cl33 dd33 ka33 kb33 kc33 kd33 ke33 "Exception.__new__"))
    (xb33 : ErE.Line [.type "Exception", .type "BaseException", .type "object"] bm33)
    (xc33 : PySem.W.findIn K (.ref f33) "__setattr__" = some (some (.builtin "object.__setattr__")))
    (xd33 : PySem.W.findIn K (.ref f33) "__init__" = some (some (.ref f37)))
    (xe33 : PySem.W.typeIn K (.ref f37) = some (.type "function"))
    (xf33 : PySem.W.ks_superIn K f33 f33 "__init__" = some (some (.builtin "Exception.__init__")))
    (xg33 : PySem.W.subIn K (.ref f33) (.type "Exception") = some true)
    (xh33 : K.lookup f37 = some ⟨oc33, od33, .func (PySem.W.ksFn "__init__" qual33 (defArgs (methAt x_InvalidLine 0)) (defBody (methAt x_InvalidLine 0)) (defScope (methAt x_InvalidLine 0)) .none kV33 dc33 pm33 an33 (.ref cda33) ct33 cc33), sl33⟩)
    (xi33 : PySem.W.codeIn K (.ref cda33) qual33 = true)
    (xj33 : K.lookup cda33 = some ⟨ccl33, cdd33, .fields vs33, ccs33⟩)
    (xk33 : vs33[2]? = some (.str file33 tf33))
    (xl33 : ((l.prog.main.file : Str) == file33) = true)
    (xm33 : K.lookup cc33 = some ⟨cel33, cld33, .cell (some (.ref f33)), csl33⟩)
    {nm34 qn34 : Str} {N34 : Addr} {bs34 bm34 : List Value} {sn34 : List Str} {sb34 : List Value} {ab34 : Bool} {cl34 : Option Bool} {dd34 : Option Addr} {ka34 kb34 kc34 kd34 ke34 : Option Value}
    {oc34 kV34 dc34 pm34 ct34 ccl34 cel34 : Value} {od34 an34 cdd34 cld34 : Option Addr} {sl34 ccs34 csl34 : Array (Option Value)} {qual34 file34 : Str} {cda34 cc34 : Addr} {vs34 : Array Value} {tf34 : Tok}
    (xa34 : K.lookup f34 = some (excClassObj nm34 qn34 f34 N34 bs34 bm34 true sn34 sb34 ab34 cl34 dd34 ka34 kb34 kc34 kd34 ke34 "Exception.__new__"))
    (xb34 : ErE.Line [.type "Exception", .type "BaseException", .type "object"] bm34)
    (xc34 : PySem.W.findIn K (.ref f34) "__setattr__" = some (some (.builtin "object.__setattr__")))
    (xd34 : PySem.W.findIn K (.ref f34) "__init__" = some (some (.ref f38)))
    (xe34 : PySem.W.typeIn K (.ref f38) = some (.type "function"))
    (xf34 : PySem.W.ks_superIn K f34 f34 "__init__" = some (some (.builtin "Exception.__init__")))
    (xg34 : PySem.W.subIn K (.ref f34) (.type "Exception") = some true)
    (xh34 : K.lookup f38 = some ⟨oc34, od34, .func (PySem.W.ksFn "__init__" qual34 (defArgs (methAt x_InvalidDeed 0)) (defBody (methAt x_InvalidDeed 0)) (defScope (methAt x_InvalidDeed 0)) .none kV34 dc34 pm34 an34 (.ref cda34) ct34 cc34), sl34⟩)
    (xi34 : PySem.W.codeIn K (.ref cda34) qual34 = true)
    (xj34 : K.lookup cda34 = some ⟨ccl34, cdd34, .fields vs34, ccs34⟩)
    (xk34 : vs34[2]? = some (.str file34 tf34))
    (xl34 : ((l.prog.main.file : Str) == file34) = true)
    (xm34 : K.lookup cc34 = some ⟨cel34, cld34, .cell (some (.ref f34)), csl34⟩)
    (z0 : PySem.W.nsIn K mainGlobals "abs" = some none)
    (z1 : PySem.W.nsIn K mainGlobals "all" = some none)
    (z2 : PySem.W.nsIn K mainGlobals "bool" = some none)
    (z3 : PySem.W.nsIn K mainGlobals "enumerate" = some none)
    (z4 : PySem.W.nsIn K mainGlobals "int" = some none)
    (z5 : PySem.W.nsIn K mainGlobals "isinstance" = some none)
    (z6 : PySem.W.nsIn K mainGlobals "len" = some none)
    (z7 : PySem.W.nsIn K mainGlobals "list" = some none)
    (z8 : PySem.W.nsIn K mainGlobals "range" = some none)
    (z9 : PySem.W.nsIn K mainGlobals "repr" = some none)
    (z10 : PySem.W.nsIn K mainGlobals "sorted" = some none)
    (z11 : PySem.W.nsIn K mainGlobals "str" = some none)
    (z12 : PySem.W.nsIn K mainGlobals "super" = some none)
    (z13 : PySem.W.nsIn K mainGlobals "tuple" = some none)
    {t0 : Tok} (u0 : PySem.W.nsIn K mainGlobals "SIGNS" = some (some (.str "0123456789abcdefghijklmnopqrstuvwxyz" t0)))
    {t1 : Tok} (u1 : PySem.W.nsIn K mainGlobals "GREATEST_PRICE" = some (some (.int 1000000 t1)))
    {tcl0 : Value} {tdd0 : Option Addr} {tvs0 : Array Value} {tcs0 : Array (Option Value)} {te0 : DefRec}
    (ta0 : K.lookup cc30 = some ⟨tcl0, tdd0, .fields tvs0, tcs0⟩)
    (tb0 : tvs0[11]? = some (.ref P0))
    (tc0 : K.lookup P0 = none)
    (td0 : (recsOf q).find? (fun e : DefRec => e.name == ("law" : Str)) = some te0)
    (tnd : [P0].Nodup)
    : ∃ (fd : FuncData) (cs : Tabs0), (∀ p ∈ cs, ∃ (y : Str) (e : DefRec), (recsOf q).find? (fun e => e.name == y) = some e ∧ PySem.W.tabIn K y = some (p.1, p.2.1)) ∧ (∀ p ∈ cs, K.lookup p.2.1 = none) ∧ (cs.map (·.2.1)).Nodup ∧
        (∀ (s : Shared) (u : Value), BindsTo s fd ⟨[u], []⟩ [("_law_script", u)]) ∧ ∀ base : Heap, K.In base → base.Ns mainGlobals mg → (∀ p ∈ cs, LamX.TabB base mg p.1 p.2.1) → ∀ ns : List Int, ns.length ≤ 63 → (∀ z ∈ ns, Builtin.Int.intBits z ≤ 1048576) →
        ∃ (mf : List D → AH → Res D) (AE : AH), mf [.lst (ns.map D.int)] (tabs0 cs) = .ok (.bl true) AE ∧ FnD l.prog w K mg base 9 fa fd ["_law_script"] mf := by
  have e := hfa.symm.trans (PySem.W.mg_of X G a30)
  cases e
  letI : HasPW := ⟨(l.prog, w)⟩
  have T := tx_mk (P := l.prog) (w := w) (P0 := P0) X G a0 l0 c0 k0 a1 l1 c1 k1 a2 l2 c2 k2 a3 l3 c3 k3 a4 l4 c4 k4 a5 l5 c5 k5 a6 l6 c6 k6 a7 l7 c7 k7 a8 l8 c8 k8 a9 l9 c9 k9 a10 l10 c10 k10 a11 l11 c11 k11 a12 l12 c12 k12 a13 l13 c13 k13 a14 l14 c14 k14 a15 l15 c15 k15 a16 l16 c16 k16 a17 l17 c17 k17 a18 l18 c18 k18 a19 l19 c19 k19 a20 l20 c20 k20 a21 l21 c21 k21 a22 l22 c22 k22 a23 l23 c23 k23 a24 l24 c24 k24 a25 l25 c25 k25 a26 l26 c26 k26 a27 l27 c27 k27 a28 l28 c28 k28 a29 l29 c29 k29 a30 l30 c30 k30 sp tp tq tr ea31 eb31 ec31 ed31 ee31 ef31 eg31 eh31 ei31 ej31 ea32 eb32 ec32 ed32 ee32 ef32 eg32 eh32 ei32 ej32 ea33 eb33 ec33 ed33 ee33 ef33 eg33 eh33 ei33 ej33 ea34 eb34 ec34 ed34 ee34 ef34 eg34 eh34 ei34 ej34 en34_at en32_at en33_at eu34_34 eu34_32 eu34_33 eu34_31 eu32_34 eu32_32 eu32_33 eu32_31 eu33_34 eu33_32 eu33_33 eu33_31 xa32 xb32 xc32 xd32 xe32 xf32 xg32 xh32 xi32 xj32 xk32 xl32 xm32 xa33 xb33 xc33 xd33 xe33 xf33 xg33 xh33 xi33 xj33 xk33 xl33 xm33 xa34 xb34 xc34 xd34 xe34 xf34 xg34 xh34 xi34 xj34 xk34 xl34 xm34 z0 z1 z2 z3 z4 z5 z6 z7 z8 z9 z10 z11 z12 z13 u0 u1 rfl
  refine ⟨_, [(cc30, P0, lamQ "law")], fun p hp => ?_, fun p hp => ?_, tnd, fun s u => .of_eq rfl, fun base _ _ tbs ns hl hb => law_true T tbs ns hl hb⟩
  · simp only [List.mem_cons, List.not_mem_nil, or_false] at hp
    rcases hp with rfl
    · exact ⟨"law", _, td0, tabIn_mk a30 l30 rfl ta0 tb0⟩
  · simp only [List.mem_cons, List.not_mem_nil, or_false] at hp
    rcases hp with rfl
    · exact tc0
end K23
open PySem PySem.W PyProof.Rows
set_option maxHeartbeats 0 in
theorem PySem.Challenge.cw_spelledways_k23_lines_graphs_and_deeds_holds : PySem.Challenge.rw_spelledways_k23_lines_graphs_and_deeds.Holds := by
  w_on; o_law; k_head; (case hw => w_witness2)
  k_fill
  refine DM.law_walk (l := PySem.Challenge.rw_spelledways_k23_lines_graphs_and_deeds) (n := 63) (k := 9) (x := "_law_script") rfl (by decide) rfl ⟨rfl, by decide, by decide⟩ (fun w h Y => by first | exact PySem.W.kIn_of Y | exact PySem.W.km_in_of Y) ?F
  case F =>
    intro w mg fa h KX G hmg
    refine' K23.law_end KX G hmg ?a0 ?l0 ?c0 ?k0 ?a1 ?l1 ?c1 ?k1 ?a2 ?l2 ?c2 ?k2 ?a3 ?l3 ?c3 ?k3 ?a4 ?l4 ?c4 ?k4 ?a5 ?l5 ?c5 ?k5 ?a6 ?l6 ?c6 ?k6 ?a7 ?l7 ?c7 ?k7 ?a8 ?l8 ?c8 ?k8 ?a9 ?l9 ?c9 ?k9 ?a10 ?l10 ?c10 ?k10 ?a11 ?l11 ?c11 ?k11 ?a12 ?l12 ?c12 ?k12 ?a13 ?l13 ?c13 ?k13 ?a14 ?l14 ?c14 ?k14 ?a15 ?l15 ?c15 ?k15 ?a16 ?l16 ?c16 ?k16 ?a17 ?l17 ?c17 ?k17 ?a18 ?l18 ?c18 ?k18 ?a19 ?l19 ?c19 ?k19 ?a20 ?l20 ?c20 ?k20 ?a21 ?l21 ?c21 ?k21 ?a22 ?l22 ?c22 ?k22 ?a23 ?l23 ?c23 ?k23 ?a24 ?l24 ?c24 ?k24 ?a25 ?l25 ?c25 ?k25 ?a26 ?l26 ?c26 ?k26 ?a27 ?l27 ?c27 ?k27 ?a28 ?l28 ?c28 ?k28 ?a29 ?l29 ?c29 ?k29 ?a30 ?l30 ?c30 ?k30 ?sp ?tp ?tq ?tr ?ea31 ?eb31 ?ec31 ?ed31 ?ee31 ?ef31 ?eg31 ?eh31 ?ei31 ?ej31 ?ea32 ?eb32 ?ec32 ?ed32 ?ee32 ?ef32 ?eg32 ?eh32 ?ei32 ?ej32 ?ea33 ?eb33 ?ec33 ?ed33 ?ee33 ?ef33 ?eg33 ?eh33 ?ei33 ?ej33 ?ea34 ?eb34 ?ec34 ?ed34 ?ee34 ?ef34 ?eg34 ?eh34 ?ei34 ?ej34 ?en34_at ?en32_at ?en33_at ?eu34_34 ?eu34_32 ?eu34_33 ?eu34_31 ?eu32_34 ?eu32_32 ?eu32_33 ?eu32_31 ?eu33_34 ?eu33_32 ?eu33_33 ?eu33_31 ?xa32 ?xb32 ?xc32 ?xd32 ?xe32 ?xf32 ?xg32 ?xh32 ?xi32 ?xj32 ?xk32 ?xl32 ?xm32 ?xa33 ?xb33 ?xc33 ?xd33 ?xe33 ?xf33 ?xg33 ?xh33 ?xi33 ?xj33 ?xk33 ?xl33 ?xm33 ?xa34 ?xb34 ?xc34 ?xd34 ?xe34 ?xf34 ?xg34 ?xh34 ?xi34 ?xj34 ?xk34 ?xl34 ?xm34 ?z0 ?z1 ?z2 ?z3 ?z4 ?z5 ?z6 ?z7 ?z8 ?z9 ?z10 ?z11 ?z12 ?z13 ?u0 ?u1 ?ta0 ?tb0 ?tc0 ?td0 ?tnd
    (case a0 => k_is); (case l0 => k_is); (case c0 => k_is); (case k0 => k_is); (case a1 => k_is); (case l1 => k_is); (case c1 => k_is); (case k1 => k_is); (case a2 => k_is); (case l2 => k_is); (case c2 => k_is); (case k2 => k_is); (case a3 => k_is); (case l3 => k_is); (case c3 => k_is); (case k3 => k_is); (case a4 => k_is); (case l4 => k_is); (case c4 => k_is); (case k4 => k_is); (case a5 => k_is); (case l5 => k_is); (case c5 => k_is); (case k5 => k_is); (case a6 => k_is); (case l6 => k_is); (case c6 => k_is); (case k6 => k_is); (case a7 => k_is); (case l7 => k_is); (case c7 => k_is); (case k7 => k_is); (case a8 => k_is); (case l8 => k_is); (case c8 => k_is); (case k8 => k_is); (case a9 => k_is); (case l9 => k_is); (case c9 => k_is); (case k9 => k_is); (case a10 => k_is); (case l10 => k_is); (case c10 => k_is); (case k10 => k_is); (case a11 => k_is); (case l11 => k_is); (case c11 => k_is); (case k11 => k_is); (case a12 => k_is); (case l12 => k_is); (case c12 => k_is); (case k12 => k_is); (case a13 => k_is); (case l13 => k_is); (case c13 => k_is); (case k13 => k_is); (case a14 => k_is); (case l14 => k_is); (case c14 => k_is); (case k14 => k_is); (case a15 => k_is); (case l15 => k_is); (case c15 => k_is); (case k15 => k_is); (case a16 => k_is); (case l16 => k_is); (case c16 => k_is); (case k16 => k_is); (case a17 => k_is); (case l17 => k_is); (case c17 => k_is); (case k17 => k_is); (case a18 => k_is); (case l18 => k_is); (case c18 => k_is); (case k18 => k_is); (case a19 => k_is); (case l19 => k_is); (case c19 => k_is); (case k19 => k_is); (case a20 => k_is); (case l20 => k_is); (case c20 => k_is); (case k20 => k_is); (case a21 => k_is); (case l21 => k_is); (case c21 => k_is); (case k21 => k_is); (case a22 => k_is); (case l22 => k_is); (case c22 => k_is); (case k22 => k_is); (case a23 => k_is); (case l23 => k_is); (case c23 => k_is); (case k23 => k_is); (case a24 => k_is); (case l24 => k_is); (case c24 => k_is); (case k24 => k_is); (case a25 => k_is); (case l25 => k_is); (case c25 => k_is); (case k25 => k_is); (case a26 => k_is); (case l26 => k_is); (case c26 => k_is); (case k26 => k_is); (case a27 => k_is); (case l27 => k_is); (case c27 => k_is); (case k27 => k_is); (case a28 => k_is); (case l28 => k_is); (case c28 => k_is); (case k28 => k_is); (case a29 => k_is); (case l29 => k_is); (case c29 => k_is); (case k29 => k_is); (case a30 => k_is); (case l30 => k_is); (case c30 => k_is); (case k30 => k_is); (case sp => k_is); (case tp => k_is); (case tq => k_is); (case tr => rfl); (case ea31 => k_is); (case eb31 => k_is); (case ec31 => k_is); (case ed31 => k_is); (case ee31 => k_is); (case ef31 => k_is); (case eg31 => k_is); (case eh31 => k_is); (case ei31 => k_is); (case ej31 => k_is); (case ea32 => k_is); (case eb32 => k_is); (case ec32 => k_is); (case ed32 => k_is); (case ee32 => k_is); (case ef32 => k_is); (case eg32 => k_is); (case eh32 => k_is); (case ei32 => k_is); (case ej32 => k_is); (case ea33 => k_is); (case eb33 => k_is); (case ec33 => k_is); (case ed33 => k_is); (case ee33 => k_is); (case ef33 => k_is); (case eg33 => k_is); (case eh33 => k_is); (case ei33 => k_is); (case ej33 => k_is); (case ea34 => k_is); (case eb34 => k_is); (case ec34 => k_is); (case ed34 => k_is); (case ee34 => k_is); (case ef34 => k_is); (case eg34 => k_is); (case eh34 => k_is); (case ei34 => k_is); (case ej34 => k_is); (case en34_at => k_is); (case en32_at => k_is); (case en33_at => k_is); (case eu34_34 => k_is); (case eu34_32 => k_is); (case eu34_33 => k_is); (case eu34_31 => k_is); (case eu32_34 => k_is); (case eu32_32 => k_is); (case eu32_33 => k_is); (case eu32_31 => k_is); (case eu33_34 => k_is); (case eu33_32 => k_is); (case eu33_33 => k_is); (case eu33_31 => k_is); (case xa32 => k_is); (case xb32 => first | exact .tail | exact .own .tail | exact .own (.own .tail)); (case xc32 => k_is); (case xd32 => k_is); (case xe32 => k_is); (case xf32 => ks_is); (case xg32 => k_is); (case xh32 => k_is); (case xi32 => k_is); (case xj32 => k_is); (case xk32 => rfl); (case xl32 => first | rfl | decide +kernel); (case xm32 => k_is); (case xa33 => k_is); (case xb33 => first | exact .tail | exact .own .tail | exact .own (.own .tail)); (case xc33 => k_is); (case xd33 => k_is); (case xe33 => k_is); (case xf33 => ks_is); (case xg33 => k_is); (case xh33 => k_is); (case xi33 => k_is); (case xj33 => k_is); (case xk33 => rfl); (case xl33 => first | rfl | decide +kernel); (case xm33 => k_is); (case xa34 => k_is); (case xb34 => first | exact .tail | exact .own .tail | exact .own (.own .tail)); (case xc34 => k_is); (case xd34 => k_is); (case xe34 => k_is); (case xf34 => ks_is); (case xg34 => k_is); (case xh34 => k_is); (case xi34 => k_is); (case xj34 => k_is); (case xk34 => rfl); (case xl34 => first | rfl | decide +kernel); (case xm34 => k_is); (case z0 => k_is); (case z1 => k_is); (case z2 => k_is); (case z3 => k_is); (case z4 => k_is); (case z5 => k_is); (case z6 => k_is); (case z7 => k_is); (case z8 => k_is); (case z9 => k_is); (case z10 => k_is); (case z11 => k_is); (case z12 => k_is); (case z13 => k_is); (case u0 => k_is); (case u1 => k_is); (case ta0 => k_is); (case tb0 => rfl); (case tc0 => kernel_rfl); (case td0 => rfl); (case tnd => decide)
