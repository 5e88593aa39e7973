import PyProof.Rows.All
import Wide.All
import OpenK.AllK
import Wide.FinOn
import HandS.ForMost
import HandS.Exc
import HandS.WordsExc
import HandS.TupAny
import HandS.Lambda
import HandS.Wide
import HandS.Deep
import HandS.IsInst
import HandS.Gcd
import KE.IntBitsLaws
import HandS.Zip
import HandS.Strs
import HandS.Conv
import HandS.ExcInit
import HandS.Defaults
import HandS.More
import HandS.Dict
import HandS.Style
import HandS.DictComp
import PyProof.DictUpdate
import KE.KDictList
import KE.GoesMore
import KE.GoesEnum
import PyProof.Draws
import HandS.Nested
import HandS.TryMany
import HandS.ExcField
import HandS.ExcIs
import KE.KExcIs
import PyProof.ReprReads
import PyProof.ReprRoads
import HandS.ExcOwn
import HandS.Small
import HandS.OwnEq
import PyProof.ExcBaseAll.Exception
import PyProof.InstNe
import HandS.MakeKwOnly
import KE.KStateDown
import HandS.EndTab
import HandS.HeadWalk
import HandS.Head3
import HandS.HeadHook4
import PyProof.ExcBaseAll.ValueError
import PyProof.ReprBulk
import PyProof.Rows.ReprOcc
import PySem.Challenge.RW_priorhall_k78_meetings_made
section
set_option Elab.async false
set_option linter.all false
set_option maxRecDepth 100000
/-! Ph, part 0: new tuples that are known to have no dict of their own (tracked as known objects): displays, +, slices, tuple(list); methods of such tuples. -/
namespace Ph
open PySem PySem.Spec PyProof.Rows L2

/-- a tuple that has no own dict: made here, or written -/
def TupF (K : PySem.W.Frag) (H : Hp) (a : Addr) (xs : List V) : Prop :=
  (∃ o : Obj, H a = some (.frz o (.tup xs)) ∧ o.dict = none) ∨
    ∃ (o : Obj) (its : Array Value) (n : Nat), K.lookup a = some o ∧ o.cls = .type "tuple" ∧ o.dict = none ∧ o.data = .seq its n ∧ its.size ≤ sizeLine ∧ Vals xs its.toList
theorem TupF.sq {K : PySem.W.Frag} {H : Hp} {a : Addr} {xs : List V} (h : TupF K H a xs) : SqT K H a xs := by
  rcases h with ⟨o, h, _⟩ | ⟨o, its, n, h1, h2, _, h3⟩
  · exact .inl (.inr ⟨o, h⟩)
  · exact .inr ⟨o, its, n, h1, h2, h3⟩
theorem TupF.no {X : Cx} {pins : List (Addr × Obj)} {σ : L2.St} {H : Hp} {s : Shared} {a : Addr} {xs : List V} (I : Inv X pins σ H s) (h : TupF X.K H a xs) : ∃ o, s.heap.get? a = some o ∧ o.dict = none := by
  rcases h with ⟨o, h, n⟩ | ⟨o, its, n, h1, h2, h3, _⟩
  · exact ⟨o, (I.hok a _ h).1, n⟩
  · exact ⟨o, I.kIn a o h1, h3⟩
/-- a new one -/
abbrev NewT (H : Hp) (xs : List V) (Q : VK) : Prop := ∀ (p : Addr) (o : Obj), H p = none → o.dict = none → Q (.ref p) (upd H p (.frz o (.tup xs)))
section
variable {X : Cx} {es : List Expr} {t : TA} {pos : Pos}
def tTupF (t : TA) : TE := fun σ H Q => t σ H fun xs H1 => xs.length ≤ sizeLine ∧ NewT H1 xs Q
theorem pe_tupF {x1} (h : PA X es t) : PE X (.Tuple es x1 pos) (tTupF t) := by
  refine ⟨fun pins s σ H Q I hq => ?_⟩
  refine wpAny_Tuple_spliced (thn (h.run pos pins s σ H _ I hq) fun us s1 ⟨xs, H1, I1, r, z, q⟩ => ⟨by rw [← r.length]; exact z, ?_⟩)
  have hf : H1 s1.heap.objs.size = none := I1.hok.fresh (Nat.le_refl _)
  refine ⟨.ref s1.heap.objs.size, upd H1 s1.heap.objs.size (.frz { cls := .type "tuple", data := .seq us.toArray } (.tup xs)), I1.laid (t' := s1.toks) (fun b u e => Heap.get?_push_of_some _ e) (Nat.le_refl _) ?_, rfl, q _ _ hf rfl⟩
  exact ⟨Heap.get?_push_size _ rfl, z, us, r, ⟨_, Heap.get?_push_size _ rfl, rfl, _, rfl⟩⟩
def rCatF (K : PySem.W.Frag) : R2 := fun x y H Q => ∃ a b xs ys, x = .ref a ∧ y = .ref b ∧ SqT K H a xs ∧ SqT K H b ys ∧ xs.length + ys.length ≤ sizeLine ∧
  (xs = [] → Q (.ref b) H) ∧ (xs ≠ [] → ys = [] → Q (.ref a) H) ∧ (xs ≠ [] → ys ≠ [] → NewT H (xs ++ ys) Q)
theorem op_catF : OpR X (binaryOp .Add) (rCatF X.K) := by
  intro pins s σ H x y v u Q I rx ry h
  obtain ⟨a, b, xs, ys, rfl, rfl, ha, hb, hz, q0, q1, q2⟩ := h
  cases rx
  cases ry
  obtain ⟨its, r1, p1, _⟩ := I.tuple ha
  obtain ⟨its2, r2, p2, _⟩ := I.tuple hb
  by_cases hx : xs = []
  · subst hx
    cases r1
    exact cat_tup0 p1 p2 ⟨.ref b, H, I, rfl, q0 rfl⟩
  · refine HT.cat_tup p1 p2 (fun z => hx (r1.nil_iff.mp z)) (fun z => ⟨.ref a, H, I, rfl, q1 hx (r2.nil_iff.mp z)⟩) (fun z => ?_) (by rw [← r1.length, ← r2.length]; exact hz)
    refine ⟨.ref s.heap.objs.size, _, I.laid (t' := s.toks) (o := .frz { cls := .type "tuple", data := .seq (its ++ its2).toArray } (.tup (xs ++ ys))) (fun b ob q => Heap.get?_push_of_some _ q) (Nat.le_refl _) ?_, rfl, q2 hx (fun w => z (r2.nil_iff.mpr w)) _ _ (I.hok.fresh (Nat.le_refl _)) rfl⟩
    exact ⟨Heap.get?_push_size _ rfl, by rw [List.length_append]; exact hz, _, r1.append r2, IsTup.new _ _⟩
def rSlF (K : PySem.W.Frag) : V → Option Int → Option Int → Hp → VK → Prop := fun x lo hi H Q => ∃ a xs, x = .ref a ∧ SqT K H a xs ∧
  (HT.sIx xs.length 0 lo = 0 ∧ HT.sIx xs.length xs.length hi = xs.length → Q (.ref a) H) ∧ (¬ (HT.sIx xs.length 0 lo = 0 ∧ HT.sIx xs.length xs.length hi = xs.length) → NewT H (cutV xs lo hi) Q)
theorem sl_tupF : SlR X (rSlF X.K) := by
  intro pins s σ H x v vl vu lo hi sl Q I rx hs pl pu h
  obtain ⟨a, xs, rfl, hx, q1, q2⟩ := h
  cases rx
  obtain ⟨its, r, ht, hz⟩ := I.tuple hx
  have hlen : its.toArray.size = xs.length := by rw [List.size_toArray]; exact r.length.symm
  refine ⟨"tuple", _, PyProof.Rows.slot_tuple_getitem.lookup, ht.typeIs, ?_⟩
  by_cases hw : HT.sIx xs.length 0 lo = 0 ∧ HT.sIx xs.length xs.length hi = xs.length
  · exact getItem_tuple_whole ht hs pl pu (by rw [hlen]; exact hw) ⟨.ref a, H, I, rfl, q1 hw⟩
  · refine HT.getItem_tuple_cut ht hs pl pu (by rw [hlen]; exact hw) ?_ (by rw [hlen]; exact hz)
    rw [hlen]
    refine ⟨.ref s.heap.objs.size, _, I.laid (t' := s.toks) (o := .frz { cls := .type "tuple", data := .seq ((its.drop (HT.sIx xs.length 0 lo)).take (HT.sIx xs.length xs.length hi - HT.sIx xs.length 0 lo)).toArray } (.tup (cutV xs lo hi))) (fun b ob q => Heap.get?_push_of_some _ q) (Nat.le_refl _) ?_, rfl, q2 hw _ _ (I.hok.fresh (Nat.le_refl _)) rfl⟩
    refine ⟨Heap.get?_push_size _ rfl, Nat.le_trans (cutV_length xs lo hi) hz, _, (r.drop (HT.sIx xs.length 0 lo)).take (HT.sIx xs.length xs.length hi - HT.sIx xs.length 0 lo), IsTup.new _ _⟩
theorem call_tupleF : CallR X (.type "tuple") (fun xs H Q => ∃ p ys, xs = [.ref p] ∧ ((SqL X.K H p ys ∧ NewT H ys Q) ∨ (SqT X.K H p ys ∧ Q (.ref p) H))) := by
  intro pins s σ H xs us Q I r h
  obtain ⟨p, ys, rfl, h⟩ := h
  obtain ⟨u, rfl, rx⟩ := vals1 r
  cases rx
  rcases h with ⟨hq, q⟩ | ⟨hq, q⟩
  · obtain ⟨its, r', pl, hz⟩ := I.list hq
    have hlen := r'.length
    refine call_tuple_list pl.isList (fun h' kp => ?_) (by simp only [List.size_toArray] <;> omega)
    have I1 : Inv X pins σ H { s with heap := h' } := I.kept (t' := s.toks) kp
    have I2 : Inv X pins σ (upd H h'.objs.size (.frz { cls := .type "tuple", data := .seq its.toArray } (.tup ys))) { s with heap := h'.push { cls := .type "tuple", data := .seq its.toArray } } :=
      I1.laid (t' := s.toks) (fun b o e => Heap.get?_push_of_some _ e) (Nat.le_refl _) (show ObjOk X.prog X.w _ _ _ (.frz _ (.tup ys)) from ⟨Heap.get?_push_size _ rfl, hz, its, r', IsTup.new _ _⟩)
    exact ⟨.ref h'.objs.size, _, I2, rfl, q _ _ (I1.hok.fresh (Nat.le_refl _)) rfl⟩
  · obtain ⟨its, r', pl, hz⟩ := I.tuple hq
    exact call_tuple_same pl ⟨.ref p, H, I, rfl, q⟩
/-- t.m(..) of a tuple without own dict -/
def tTM (K : PySem.W.Frag) (r : V → List V → Hp → VK → Prop) (to : TE) (t : TA) : TE := fun σ H Q => to σ H fun x H1 => (∃ a xs, x = .ref a ∧ TupF K H1 a xs) ∧ t σ H1 fun xs H2 => r x xs H2 Q
variable {o e : Expr} {to : TE} {name : Str} {apos cpos : Pos} {id : String} {r : V → List V → Hp → VK → Prop}
theorem pe_tm (slot : Slot "tuple" name id) (hty : typeOf (.builtin id) = pure (.type "method_descriptor")) (hm : MtR X id r) (ho : PE X o to) (ha : PA X (e :: es) t)
    (hbase : attributeBase o name X.env (eval o X.env) = eval o X.env := by rfl)
    (hfew : ((backTo cpos (starEach (e :: es) X.env)).all (fun x => !x.1) && (backToKw cpos (keywordEach [] X.env)).all (fun x => x.1.isSome)
      && decide ((e :: es).length + ([] : List Keyword).length + (if ([] : List Keyword).isEmpty then 0 else 1) < 30)) = true := by rfl)
    (hline : (apos.endLine == cpos.line) = true := by rfl) (hs : starEach (e :: es) X.env = (false, eval e X.env) :: starEach es X.env := by rfl) (hplain : (backTo cpos (starEach es X.env)).any (·.1) = false := by rfl) :
    PE X (.Call (.Attribute o name apos) (e :: es) [] cpos) (tTM X.K r to t) := by
  refine ⟨fun pins s σ H Q I h => ?_⟩
  refine wpAny_Call_method_late hbase hfew hline rfl (thn (ho.run pins s σ H _ I h) fun v s1 ⟨x, H1, I1, r1, ⟨a, xs, ex, hT⟩, q1⟩ => ?_)
  subst ex
  cases r1
  obtain ⟨its, rv, ⟨ot, h1, h2, _⟩, _⟩ := I1.tuple hT.sq
  refine ⟨"tuple", id, PySem.F.plainAttrs_tuple, slot, hty, ⟨ot, h1, h2⟩, fun b e => ?_, ?_⟩
  · cases e
    exact hT.no I1
  have hA := ha.run cpos pins s1 σ H1 _ I1 q1
  rw [hs] at hA ⊢
  refine Calls.callWith_builtin (by show (false || (backTo cpos (starEach es X.env)).any (·.1)) = false; rw [hplain] <;> rfl) (Calls.evalArgs_plain ?_)
  exact thn hA fun us s2 ⟨vs, H2, I2, r2, q2⟩ => hm pins s2 σ H2 (.ref a) vs (.ref a) us Q I2 rfl r2 q2
end
end Ph
end
section
set_option Elab.async false
set_option linter.all false
set_option maxRecDepth 100000
/-! Ph, part A: data D without the heap, cells (what may be changed), answers Res, how data lie in the abstract heap (Dr), what stays (Ev, Gr), a frame's slots (At). -/
namespace Ph
open PySem PySem.Spec PyProof.Rows L2

/-- data: what a value is without the heap; obj: an instance that nobody changes, by its class's number, its fields in order; dic: an empty dict; ptup: a tuple that a walk made (to be unpacked); ptr: the cell of that number; fn: a function made by a lambda, at that place; scr: the script's list, known or written -/
inductive D where
  | non | bl (b : Bool) | int (i : Int) | str (s : Str) | tup (l : List D) | lst (l : List D) | obj (c : Nat) (l : List D) | dic | ptup (l : List D) | ptr (n : Nat) | fn (a : Addr) | scr (l : List D)
/-- what may be changed: a list, an instance (its first fields), a dict whose values are all True, the n-th table of code objects, of the name q; gone: it is changed no more -/
inductive Cell where
  | lst (l : List D) | ins (c : Nat) (l : List D) | dct (ks : List Key) | tab (n : Nat) (q : Str) | gone
  /-- a dict by ints, by tuples of ints -/
  | dki (kvs : List (Int × D)) | dkt (kvs : List (List Int × D))
/-- the cells by number -/
abbrev Store := List Cell

/-- an answer: none that is told, a value, or an own exception (its class's number, its field, the cells) -/
inductive Res (α : Type) where
  | fail | ok (a : α) | xc (c : Nat) (d : D) (π : Store)
def Res.bind {α β : Type} (x : Res α) (f : α → Res β) : Res β :=
  match x with
  | .fail => .fail
  | .ok a => f a
  | .xc c d π => .xc c d π
@[simp] theorem Res.bind_ok {α β : Type} (a : α) (f : α → Res β) : (Res.ok a).bind f = f a := rfl
@[simp] theorem Res.bind_fail {α β : Type} (f : α → Res β) : (Res.fail : Res α).bind f = .fail := rfl
@[simp] theorem Res.bind_xc {α β : Type} (c : Nat) (d : D) (π : Store) (f : α → Res β) : (Res.xc c d π : Res α).bind f = .xc c d π := rfl
/-- an answer that does not change the cells -/
def Res.at {α : Type} (x : Res α) (π : Store) : Res (α × Store) :=
  match x with
  | .fail => .fail
  | .ok a => .ok (a, π)
  | .xc c d _ => .xc c d π
@[simp] theorem Res.at_ok {α : Type} (a : α) (π : Store) : (Res.ok a).at π = .ok (a, π) := rfl
@[simp] theorem Res.at_fail {α : Type} (π : Store) : (Res.fail : Res α).at π = .fail := rfl
@[simp] theorem Res.at_xc {α : Type} (c : Nat) (d : D) (π' π : Store) : (Res.xc c d π' : Res α).at π = .xc c d π := rfl

/-- what the written part says: classes by number, their fields; where the cells lie -/
structure Gx where
  K : PySem.W.Frag
  cls : Nat → Addr
  flds : Nat → List Str
  ι : List Addr := []
  tabA : Nat → Addr := fun _ => 0
abbrev Gx.at (G : Gx) (ι : List Addr) : Gx := ⟨G.K, G.cls, G.flds, ι, G.tabA⟩

/-- a list that is known, or written -/
def LstK (K : PySem.W.Frag) (H : Hp) (a : Addr) (xs : List V) : Prop :=
  (∃ o : Obj, H a = some (.frz o (.lst xs))) ∨
    ∃ (o : Obj) (its : Array Value) (n : Nat), K.lookup a = some o ∧ o.cls = .type "list" ∧ o.dict = none ∧ o.data = .seq its n ∧ its.size ≤ sizeLine ∧ Vals xs its.toList
theorem LstK.sq {K : PySem.W.Frag} {H : Hp} {a : Addr} {xs : List V} (h : LstK K H a xs) : SqL K H a xs := by
  rcases h with ⟨o, h⟩ | h
  · exact .inl (.inr ⟨o, h⟩)
  · exact .inr h
mutual
/-- data at a value; M: what may be changed by others -/
def Dr (G : Gx) (M : Addr → Prop) (H : Hp) : D → V → Prop
  | .non, v => v = .non
  | .bl b, v => v = .bl b
  | .int i, v => v = .int i
  | .str s, v => v = .str s
  | .tup l, v => ∃ a xs, v = .ref a ∧ TupF G.K H a xs ∧ DrL G M H l xs
  | .ptup l, v => ∃ a xs, v = .ref a ∧ SqT G.K H a xs ∧ DrL G M H l xs
  | .lst l, v => ∃ a xs, v = .ref a ∧ ¬ M a ∧ H a = some (.lst xs) ∧ DrL G M H l xs
  | .obj c l, v => ∃ a dx xs, v = .ref a ∧ ¬ M a ∧ H a = some (.ins (G.cls c) dx ((G.flds c).zip xs)) ∧ xs.length = (G.flds c).length ∧ DrL G M H l xs
  | .dic, v => ∃ a, v = .ref a ∧ ¬ M a ∧ H a = some (.dK [])
  | .ptr n, v => ∃ a, v = .ref a ∧ G.ι[n]? = some a
  | .fn a, v => v = .ref a
  | .scr l, v => ∃ a xs, v = .ref a ∧ LstK G.K H a xs ∧ DrL G M H l xs
def DrL (G : Gx) (M : Addr → Prop) (H : Hp) : List D → List V → Prop
  | [], vs => vs = []
  | d :: ds, vs => ∃ v ws, vs = v :: ws ∧ Dr G M H d v ∧ DrL G M H ds ws
end

/-- all but M is as it was; tuples and known things always -/
structure Ev (M : Addr → Prop) (H H' : Hp) : Prop where
  keep : ∀ a o, H a = some o → ¬ M a → H' a = some o
  tup : ∀ a xs, H a = some (.tup xs) → H' a = some (.tup xs)
  frz : ∀ a o u, H a = some (.frz o u) → H' a = some (.frz o u)
  ext : ∀ a φ, H a = some (.ext φ) → H' a = some (.ext φ)
  there : ∀ a, H a ≠ none → H' a ≠ none
abbrev Nm : Addr → Prop := fun _ => False
section
variable {G : Gx} {M M' : Addr → Prop} {H H1 H2 H' : Hp} {a p : Addr} {o : HO}
theorem Ev.refl (M : Addr → Prop) (H : Hp) : Ev M H H := ⟨fun _ _ h _ => h, fun _ _ h => h, fun _ _ _ h => h, fun _ _ h => h, fun _ h => h⟩
theorem Ev.trans (x : Ev M H H1) (y : Ev M H1 H2) : Ev M H H2 :=
  ⟨fun b u e n => y.keep b u (x.keep b u e n) n, fun b xs e => y.tup b xs (x.tup b xs e), fun b u z e => y.frz b u z (x.frz b u z e), fun b φ e => y.ext b φ (x.ext b φ e), fun b e => y.there b (x.there b e)⟩
theorem Ev.mono (x : Ev M H H1) (h : ∀ b, M b → H b ≠ none → M' b) : Ev M' H H1 :=
  ⟨fun b u e n => x.keep b u e fun z => n (h b z (by rw [e]; exact fun q => nomatch q)), x.tup, x.frz, x.ext, x.there⟩
theorem Ev.nm (x : Ev Nm H H1) : Ev M H H1 := x.mono fun _ z _ => z.elim
theorem Ev.of (h : ∀ b u, H b = some u → H' b = some u) : Ev M H H' :=
  ⟨fun b u e _ => h b u e, fun b xs e => h b _ e, fun b u z e => h b _ e, fun b φ e => h b _ e, fun b e => by
    cases q : H b with
    | none => exact absurd q e
    | some u => rw [h b u q]; exact fun z => nomatch z⟩
theorem Ev.same (x : Ev Nm H H1) : Same H H1 := fun b u e => x.keep b u e id
theorem Ev.new (h : H p = none) : Ev M H (upd H p o) := .of fun b u e => by
  rw [upd_ne (ne_of_none e h)]
  exact e
theorem Ev.fresh (x : Ev M H H1) (h : H1 p = none) : H p = none := by
  cases e : H p with
  | none => rfl
  | some u => exact absurd h (x.there p (by rw [e]; exact fun q => nomatch q))
/-- what may be changed -/
def mutO : HO → Bool
  | .tup _ | .frz _ _ | .ext _ => false
  | _ => true
/-- a thing that may be changed, changed -/
theorem Ev.put {u : HO} (hm : M a) (h : H a = some u) (hu : mutO u = true := by rfl) : Ev M H (upd H a o) := by
  refine ⟨fun b w e n => ?_, fun b xs e => ?_, fun b ob z e => ?_, fun b φ e => ?_, fun b e => ?_⟩
  · rw [upd_ne (fun z => n (by rw [z]; exact hm))]
    exact e
  · rw [upd_ne (fun z => by rw [z, h] at e; rw [Option.some.inj e] at hu; cases hu)]
    exact e
  · rw [upd_ne (fun q => by rw [q, h] at e; rw [Option.some.inj e] at hu; cases hu)]
    exact e
  · rw [upd_ne (fun q => by rw [q, h] at e; rw [Option.some.inj e] at hu; cases hu)]
    exact e
  · by_cases hb : b = a
    · rw [hb, upd_same]; exact fun q => nomatch q
    · rw [upd_ne hb]; exact e
theorem sqT_ev {K : PySem.W.Frag} {xs : List V} (x : Ev M H H') (h : SqT K H a xs) : SqT K H' a xs := by
  rcases h with (h | ⟨ob, h⟩) | h
  · exact .inl (.inl (x.tup _ _ h))
  · exact .inl (.inr ⟨ob, x.frz _ _ _ h⟩)
  · exact .inr h
theorem tupF_ev {K : PySem.W.Frag} {xs : List V} (x : Ev M H H') (h : TupF K H a xs) : TupF K H' a xs := by
  rcases h with ⟨o, h, n⟩ | h
  · exact .inl ⟨o, x.frz _ _ _ h, n⟩
  · exact .inr h
theorem lstK_ev {K : PySem.W.Frag} {xs : List V} (x : Ev M H H') (h : LstK K H a xs) : LstK K H' a xs := by
  rcases h with ⟨o, h⟩ | h
  · exact .inl ⟨o, x.frz _ _ _ h⟩
  · exact .inr h
section
variable {K : PySem.W.Frag} {cls : Nat → Addr} {flds : Nat → List Str} {tb : Nat → Addr} {ι ι' : List Addr}
mutual
/-- THE carrying of data: cells are added, other things may be changed (of those that stand, no more), the heap goes on -/
theorem Dr.mv (p : ι <+: ι') (x : Ev M H H') (m : ∀ a, M' a → H a ≠ none → M a) : ∀ (d : D) (v : V), Dr ⟨K, cls, flds, ι, tb⟩ M H d v → Dr ⟨K, cls, flds, ι', tb⟩ M' H' d v
  | .non, _, h => h
  | .bl _, _, h => h
  | .int _, _, h => h
  | .str _, _, h => h
  | .tup l, v, h => by
    obtain ⟨a, xs, e, s, r⟩ := h
    exact ⟨a, xs, e, tupF_ev x s, DrL.mv p x m l xs r⟩
  | .ptup l, v, h => by
    obtain ⟨a, xs, e, s, r⟩ := h
    exact ⟨a, xs, e, sqT_ev x s, DrL.mv p x m l xs r⟩
  | .lst l, v, h => by
    obtain ⟨a, xs, e, n, s, r⟩ := h
    exact ⟨a, xs, e, fun z => n (m a z (by rw [s]; exact fun q => nomatch q)), x.keep _ _ s n, DrL.mv p x m l xs r⟩
  | .obj c l, v, h => by
    obtain ⟨a, dx, xs, e, n, s, z, r⟩ := h
    exact ⟨a, dx, xs, e, fun z => n (m a z (by rw [s]; exact fun q => nomatch q)), x.keep _ _ s n, z, DrL.mv p x m l xs r⟩
  | .dic, v, h => by
    obtain ⟨a, e, n, s⟩ := h
    exact ⟨a, e, fun z => n (m a z (by rw [s]; exact fun q => nomatch q)), x.keep _ _ s n⟩
  | .ptr n, v, h => by
    obtain ⟨a, e, z⟩ := h
    obtain ⟨t, rfl⟩ := p
    exact ⟨a, e, by
      have hl := (List.getElem?_eq_some_iff.mp z).1
      show (ι ++ t)[n]? = some a
      rw [List.getElem?_append_left hl]
      exact z⟩
  | .fn _, _, h => h
  | .scr l, v, h => by
    obtain ⟨a, xs, e, s, r⟩ := h
    exact ⟨a, xs, e, lstK_ev x s, DrL.mv p x m l xs r⟩
theorem DrL.mv (p : ι <+: ι') (x : Ev M H H') (m : ∀ a, M' a → H a ≠ none → M a) : ∀ (ds : List D) (vs : List V), DrL ⟨K, cls, flds, ι, tb⟩ M H ds vs → DrL ⟨K, cls, flds, ι', tb⟩ M' H' ds vs
  | [], _, h => h
  | d :: ds, vs, h => by
    obtain ⟨v, ws, e, r, t⟩ := h
    exact ⟨v, ws, e, Dr.mv p x m d v r, DrL.mv p x m ds ws t⟩
end
end
theorem Dr.ev (x : Ev M H H') (d : D) (v : V) (h : Dr G M H d v) : Dr G M H' d v := Dr.mv (ι := G.ι) (ι' := G.ι) (List.prefix_refl _) x (fun _ h _ => h) d v h
theorem DrL.ev (x : Ev M H H') (ds : List D) (vs : List V) (h : DrL G M H ds vs) : DrL G M H' ds vs := DrL.mv (ι := G.ι) (ι' := G.ι) (List.prefix_refl _) x (fun _ h _ => h) ds vs h
/-- other things may be changed: of those that stand, no more -/
theorem Dr.chg (m : ∀ a, M' a → H a ≠ none → M a) (d : D) (v : V) (h : Dr G M H d v) : Dr G M' H d v := Dr.mv (ι := G.ι) (ι' := G.ι) (List.prefix_refl _) (.refl _ _) m d v h
theorem DrL.chg (m : ∀ a, M' a → H a ≠ none → M a) (ds : List D) (vs : List V) (h : DrL G M H ds vs) : DrL G M' H ds vs := DrL.mv (ι := G.ι) (ι' := G.ι) (List.prefix_refl _) (.refl _ _) m ds vs h
theorem DrL.length : ∀ {ds : List D} {vs : List V}, DrL G M H ds vs → vs.length = ds.length
  | [], vs, h => by rw [show vs = [] from h]; rfl
  | d :: ds, vs, h => by
    obtain ⟨v, ws, rfl, _, t⟩ := h
    rw [List.length_cons, List.length_cons, DrL.length t]
theorem DrL.get : ∀ {ds : List D} {vs : List V} {i : Nat} {d : D}, DrL G M H ds vs → ds[i]? = some d → ∃ v, vs[i]? = some v ∧ Dr G M H d v
  | [], _, _, _, _, e => by simp at e
  | d :: ds, vs, 0, d', h, e => by
    obtain ⟨v, ws, rfl, r, t⟩ := h
    simp at e
    subst e
    exact ⟨v, rfl, r⟩
  | d :: ds, vs, i + 1, d', h, e => by
    obtain ⟨v, ws, rfl, r, t⟩ := h
    obtain ⟨u, e1, e2⟩ := DrL.get (i := i) t (by simpa using e)
    exact ⟨u, by simpa using e1, e2⟩
theorem DrL.get' : ∀ {ds : List D} {vs : List V} {i : Nat} {v : V}, DrL G M H ds vs → vs[i]? = some v → ∃ d, ds[i]? = some d ∧ Dr G M H d v
  | [], vs, _, _, h, e => by rw [show vs = [] from h] at e; simp at e
  | d :: ds, vs, 0, v', h, e => by
    obtain ⟨v, ws, rfl, r, t⟩ := h
    simp at e
    subst e
    exact ⟨d, rfl, r⟩
  | d :: ds, vs, i + 1, v', h, e => by
    obtain ⟨v, ws, rfl, r, t⟩ := h
    obtain ⟨u, e1, e2⟩ := DrL.get' (i := i) t (by simpa using e)
    exact ⟨u, by simpa using e1, e2⟩
theorem DrL.append : ∀ {ds es : List D} {vs ws : List V}, DrL G M H ds vs → DrL G M H es ws → DrL G M H (ds ++ es) (vs ++ ws)
  | [], es, vs, ws, h, t => by rw [show vs = [] from h]; exact t
  | d :: ds, es, vs, ws, h, t => by
    obtain ⟨v, us, rfl, r, q⟩ := h
    exact ⟨v, us ++ ws, rfl, r, DrL.append q t⟩
theorem DrL.one {d : D} {v : V} (r : Dr G M H d v) : DrL G M H [d] [v] := ⟨v, [], rfl, r, rfl⟩
theorem DrL.cons {d : D} {v : V} {ds : List D} {vs : List V} (r : Dr G M H d v) (t : DrL G M H ds vs) : DrL G M H (d :: ds) (v :: vs) := ⟨v, vs, rfl, r, t⟩
theorem DrL.take : ∀ {ds : List D} {vs : List V} (n : Nat), DrL G M H ds vs → DrL G M H (ds.take n) (vs.take n)
  | _, _, 0, _ => rfl
  | [], vs, n + 1, h => by rw [show vs = [] from h]; exact rfl
  | d :: ds, vs, n + 1, h => by
    obtain ⟨v, ws, rfl, r, t⟩ := h
    exact ⟨v, ws.take n, rfl, r, DrL.take n t⟩
theorem DrL.drop : ∀ {ds : List D} {vs : List V} (n : Nat), DrL G M H ds vs → DrL G M H (ds.drop n) (vs.drop n)
  | _, _, 0, h => h
  | [], vs, n + 1, h => by rw [show vs = [] from h]; exact rfl
  | d :: ds, vs, n + 1, h => by
    obtain ⟨v, ws, rfl, r, t⟩ := h
    exact DrL.drop n t
theorem DrL.set : ∀ {ds : List D} {vs : List V} {d : D} {v : V} (i : Nat), DrL G M H ds vs → Dr G M H d v → DrL G M H (ds.set i d) (vs.set i v)
  | [], vs, _, _, i, h, _ => by rw [show vs = [] from h]; cases i <;> exact rfl
  | d :: ds, vs, d', v', 0, h, q => by
    obtain ⟨v, ws, rfl, r, t⟩ := h
    exact ⟨v', ws, rfl, q, t⟩
  | d :: ds, vs, d', v', i + 1, h, q => by
    obtain ⟨v, ws, rfl, r, t⟩ := h
    exact ⟨v, ws.set i v', rfl, r, DrL.set i t q⟩
/-- a new tuple, a new list -/
theorem Dr.tupN {ds : List D} {vs : List V} {ob : Obj} (r : DrL G M H ds vs) (hp : H p = none) (hn : ob.dict = none) : Dr G M (upd H p (.frz ob (.tup vs))) (.tup ds) (.ref p) :=
  ⟨p, vs, rfl, .inl ⟨ob, upd_same, hn⟩, DrL.ev (.new hp) ds vs r⟩
theorem Dr.ptupN {ds : List D} {vs : List V} (r : DrL G M H ds vs) (hp : H p = none) : Dr G M (upd H p (.tup vs)) (.ptup ds) (.ref p) :=
  ⟨p, vs, rfl, SqT.of upd_same, DrL.ev (.new hp) ds vs r⟩
theorem Dr.lstN {ds : List D} {vs : List V} (r : DrL G M H ds vs) (hp : H p = none) (hm : ∀ a, M a → H a ≠ none) : Dr G M (upd H p (.lst vs)) (.lst ds) (.ref p) :=
  ⟨p, vs, rfl, fun z => hm p z hp, upd_same, DrL.ev (.new hp) ds vs r⟩
end


/-! ### cells -/
/-- the places of the cells that may be changed -/
def Lv (ι : List Addr) (π : Store) : Addr → Prop := fun a => ∃ (n : Nat) (c : Cell), ι[n]? = some a ∧ π[n]? = some c ∧ c ≠ .gone
def Mu (M0 : Addr → Prop) (ι : List Addr) (π : Store) : Addr → Prop := fun a => M0 a ∨ Lv ι π a
/-- a cell at its place -/
def Cl (G : Gx) (M : Addr → Prop) (H : Hp) (a : Addr) : Cell → Prop
  | .lst l => ∃ xs, H a = some (.lst xs) ∧ DrL G M H l xs
  | .ins c l => ∃ dx xs, H a = some (.ins (G.cls c) dx ((G.flds c).zip xs)) ∧ l.length ≤ (G.flds c).length ∧ DrL G M H l xs
  | .dct ks => H a = some (.dK (ks.map fun k => (k, V.bl true)))
  | .tab b q => a = G.tabA b ∧ LamX.TabS H a q
  | .gone => True
  | .dki kvs => ∃ xs, H a = some (.dK ((kvs.map fun kv => (Sum.inl kv.1 : Key)).zip xs)) ∧ DrL G M H (kvs.map (·.2)) xs
  | .dkt kvs => ∃ xs, H a = some (.dT ((kvs.map fun kv => kv.1.map fun i => (Sum.inl i : Key)).zip xs)) ∧ DrL G M H (kvs.map (·.2)) xs
/-- the cells lie in the heap -/
structure Wd (G : Gx) (M0 : Addr → Prop) (ι : List Addr) (π : Store) (H : Hp) : Prop where
  cel : ∀ (n : Nat) (c : Cell), π[n]? = some c → ∃ a : Addr, ι[n]? = some a ∧ Cl (G.at ι) (Mu M0 ι π) H a c
  il : ι.length = π.length
  nd : ι.Nodup
  in_ : ∀ a ∈ ι, H a ≠ none
  m0 : ∀ a, M0 a → H a ≠ none
  dis : ∀ a, M0 a → a ∉ ι
/-- from one place to a later one; C: what else may have been changed -/
structure Gr (C : Addr → Prop) (ι : List Addr) (π : Store) (H : Hp) (ι' : List Addr) (π' : Store) (H' : Hp) : Prop where
  ev : Ev (Mu C ι π) H H'
  pre : ι <+: ι'
  frs : ∀ a ∈ ι', a ∉ ι → H a = none
  live : ∀ a, Lv ι' π' a → H a ≠ none → Lv ι π a
section
variable {G : Gx} {C C' M0 M : Addr → Prop} {ι ι1 ι2 : List Addr} {π π1 π2 : Store} {H H1 H2 : Hp} {a : Addr} {n : Nat} {c : Cell}
theorem Gr.refl (C : Addr → Prop) (ι : List Addr) (π : Store) (H : Hp) : Gr C ι π H ι π H := ⟨.refl _ _, List.prefix_refl _, fun _ h n => absurd h n, fun _ h _ => h⟩
theorem Gr.trans (x : Gr C ι π H ι1 π1 H1) (y : Gr C ι1 π1 H1 ι2 π2 H2) : Gr C ι π H ι2 π2 H2 where
  ev := ⟨fun a o e n => y.ev.keep a o (x.ev.keep a o e n) fun z => by
      rcases z with z | z
      · exact n (.inl z)
      · exact n (.inr (x.live a z (by rw [e]; exact fun q => nomatch q))),
    fun a xs e => y.ev.tup a xs (x.ev.tup a xs e), fun a o u e => y.ev.frz a o u (x.ev.frz a o u e), fun a φ e => y.ev.ext a φ (x.ev.ext a φ e), fun a e => y.ev.there a (x.ev.there a e)⟩
  pre := x.pre.trans y.pre
  frs := fun a h n => by
    by_cases z : a ∈ ι1
    · exact x.frs a z n
    · exact x.ev.fresh (y.frs a h z)
  live := fun a h n => x.live a (y.live a h (x.ev.there a n)) n
theorem Gr.mono (x : Gr C ι π H ι1 π1 H1) (h : ∀ a, C a → C' a) : Gr C' ι π H ι1 π1 H1 := ⟨x.ev.mono fun a z _ => by
  rcases z with z | z
  · exact .inl (h a z)
  · exact .inr z, x.pre, x.frs, x.live⟩
theorem Gr.nm (x : Gr Nm ι π H ι1 π1 H1) : Gr C ι π H ι1 π1 H1 := x.mono fun _ z => z.elim
theorem Gr.of_ev (x : Ev Nm H H1) : Gr C ι π H ι π H1 := ⟨x.nm, List.prefix_refl _, fun _ h n => absurd h n, fun _ h _ => h⟩
theorem Gr.mu (x : Gr C ι π H ι1 π1 H1) (a : Addr) (h : Mu M0 ι1 π1 a) (n : H a ≠ none) : Mu M0 ι π a := by
  rcases h with h | h
  · exact .inl h
  · exact .inr (x.live a h n)
theorem Gr.evM (x : Gr C ι π H ι1 π1 H1) (h : ∀ a, C a → M0 a) : Ev (Mu M0 ι π) H H1 := x.ev.mono fun a z _ => by
  rcases z with z | z
  · exact .inl (h a z)
  · exact .inr z
theorem Dr.gr (x : Gr C ι π H ι1 π1 H1) (h : ∀ a, C a → M0 a) {d : D} {v : V} (r : Dr (G.at ι) (Mu M0 ι π) H d v) : Dr (G.at ι1) (Mu M0 ι1 π1) H1 d v := Dr.mv x.pre (x.evM h) x.mu d v r
theorem DrL.gr (x : Gr C ι π H ι1 π1 H1) (h : ∀ a, C a → M0 a) {d : List D} {v : List V} (r : DrL (G.at ι) (Mu M0 ι π) H d v) : DrL (G.at ι1) (Mu M0 ι1 π1) H1 d v := DrL.mv x.pre (x.evM h) x.mu d v r
theorem Cl.mv {M' : Addr → Prop} {c : Cell} (p : ι <+: ι1) (x : Ev M H H1) (m : ∀ a, M' a → H a ≠ none → M a) (e : ∀ o, H a = some o → H1 a = some o) (r : Cl (G.at ι) M H a c) : Cl (G.at ι1) M' H1 a c := by
  cases c with
  | lst l =>
    obtain ⟨xs, h, q⟩ := r
    exact ⟨xs, e _ h, DrL.mv p x m _ _ q⟩
  | ins c l =>
    obtain ⟨dx, xs, h, z, q⟩ := r
    exact ⟨dx, xs, e _ h, z, DrL.mv p x m _ _ q⟩
  | dct ks => exact e _ r
  | tab b q =>
    obtain ⟨eb, ps, h1, h2, h3⟩ := r
    refine ⟨eb, ps, e _ h1, h2, fun pos cv hc => ?_⟩
    obtain ⟨c, e1, e2⟩ := h3 pos cv hc
    exact ⟨c, e1, x.ext _ _ e2⟩
  | gone => trivial
  | dki kvs =>
    obtain ⟨xs, h, q⟩ := r
    exact ⟨xs, e _ h, DrL.mv p x m _ _ q⟩
  | dkt kvs =>
    obtain ⟨xs, h, q⟩ := r
    exact ⟨xs, e _ h, DrL.mv p x m _ _ q⟩
theorem Wd.same (W : Wd G M0 ι π H) (x : Ev Nm H H1) : Wd G M0 ι π H1 where
  cel := fun n c h => by
    obtain ⟨a, e, r⟩ := W.cel n c h
    exact ⟨a, e, Cl.mv (List.prefix_refl _) x.nm (fun _ h _ => h) (fun o h => x.keep _ _ h id) r⟩
  il := W.il
  nd := W.nd
  in_ := fun a h => x.there a (W.in_ a h)
  m0 := fun a h => x.there a (W.m0 a h)
  dis := W.dis
theorem _root_.List.Nodup.getElem_inj_iff' {α : Type} {l : List α} (h : l.Nodup) {i j : Nat} (hi : i < l.length) (hj : j < l.length) : l[i] = l[j] ↔ i = j := by
  refine ⟨fun e => ?_, fun e => by subst e; rfl⟩
  have q := List.pairwise_iff_getElem.mp h
  rcases Nat.lt_trichotomy i j with z | z | z
  · exact absurd e (q i j hi hj z)
  · exact z
  · exact absurd e.symm (q j i hj hi z)
theorem Wd.mu (W : Wd G M0 ι π H) (a : Addr) (h : Mu M0 ι π a) : H a ≠ none := by
  rcases h with h | ⟨n, c, h, _⟩
  · exact W.m0 a h
  · exact W.in_ a (List.mem_of_getElem? h)
/-- the cells' numbers are their places -/
theorem Wd.inj (W : Wd G M0 ι π H) {n m : Nat} (h : ι[n]? = some a) (k : ι[m]? = some a) : n = m := by
  have hn := (List.getElem?_eq_some_iff.mp h)
  have hm := (List.getElem?_eq_some_iff.mp k)
  obtain ⟨l1, e1⟩ := hn
  obtain ⟨l2, e2⟩ := hm
  exact (List.Nodup.getElem_inj_iff' W.nd l1 l2).mp (by rw [e1, e2])
theorem lv_set {c' : Cell} (hc : π[n]? = some c) (h : c ≠ .gone) (a : Addr) (z : Lv ι (π.set n c') a) : Lv ι π a := by
  obtain ⟨m, u, h1, h2, h3⟩ := z
  by_cases e : n = m
  · subst e
    exact ⟨n, c, h1, hc, h⟩
  · rw [List.getElem?_set_ne e] at h2
    exact ⟨m, u, h1, h2, h3⟩
/-- a cell is written: the heap changes at its place alone -/
theorem Gr.put {c' : Cell} (hn : ι[n]? = some a) (hc : π[n]? = some c) (h : c ≠ .gone) (x : Ev (fun b => b = a) H H1) : Gr C ι π H ι (π.set n c') H1 :=
  ⟨x.mono fun b z _ => .inr ⟨n, c, by rw [z]; exact hn, hc, h⟩, List.prefix_refl _, fun _ h n => absurd h n, fun b z _ => lv_set hc h b z⟩
theorem Wd.put {c' : Cell} (W : Wd G M0 ι π H) (hn : ι[n]? = some a) (hc : π[n]? = some c) (h : c ≠ .gone) (x : Ev (fun b => b = a) H H1) (r : Cl (G.at ι) (Mu M0 ι (π.set n c')) H1 a c') : Wd G M0 ι (π.set n c') H1 where
  cel := fun m u e => by
    by_cases z : n = m
    · subst z
      have hl := (List.getElem?_eq_some_iff.mp hc).1
      rw [List.getElem?_set_self hl] at e
      cases e
      exact ⟨a, hn, r⟩
    · rw [List.getElem?_set_ne z] at e
      obtain ⟨b, e1, r1⟩ := W.cel m u e
      have g : Gr Nm ι π H ι (π.set n c') H1 := .put hn hc h x
      refine ⟨b, e1, Cl.mv g.pre (g.evM fun _ z => z.elim) g.mu (fun o q => x.keep b o q fun z' => ?_) r1⟩
      subst z'
      exact z (W.inj hn e1)
  il := by rw [List.length_set]; exact W.il
  nd := W.nd
  in_ := fun b h => x.there b (W.in_ b h)
  m0 := fun b h => x.there b (W.m0 b h)
  dis := W.dis
/-- a cell is changed no more -/
theorem Gr.gone (hc : π[n]? = some c) (h : c ≠ .gone) : Gr C ι π H ι (π.set n .gone) H := ⟨.refl _ _, List.prefix_refl _, fun _ h n => absurd h n, fun b z _ => lv_set hc h b z⟩
theorem Wd.gone (W : Wd G M0 ι π H) (hc : π[n]? = some c) (h : c ≠ .gone) : Wd G M0 ι (π.set n .gone) H := by
  obtain ⟨a, hn, _⟩ := W.cel n c hc
  exact W.put hn hc h (.refl _ _) trivial
/-- a new cell -/
theorem pre_snoc (ι : List Addr) (a : Addr) : ι <+: ι ++ [a] := List.prefix_append _ _
theorem get_snoc {α : Type} {l : List α} {x y : α} {i : Nat} (h : (l ++ [x])[i]? = some y) : l[i]? = some y ∨ (i = l.length ∧ y = x) := by
  by_cases e : i < l.length
  · rw [List.getElem?_append_left e] at h
    exact .inl h
  · rw [List.getElem?_append_right (by omega)] at h
    by_cases z : i = l.length
    · rw [z, Nat.sub_self] at h
      cases h
      exact .inr ⟨z, rfl⟩
    · rw [List.getElem?_eq_none (by simp; omega)] at h
      cases h
theorem get_app {α : Type} {l t : List α} {y : α} {i : Nat} (h : l[i]? = some y) : (l ++ t)[i]? = some y := by
  rw [List.getElem?_append_left (List.getElem?_eq_some_iff.mp h).1]
  exact h
theorem Gr.add (W : Wd G M0 ι π H) (ha : H a = none) (x : Ev Nm H H1) : Gr C ι π H (ι ++ [a]) (π ++ [c]) H1 where
  ev := x.nm
  pre := pre_snoc _ _
  frs := fun b h n => by
    rcases List.mem_append.mp h with h | h
    · exact absurd h n
    · rw [List.mem_singleton.mp h]; exact ha
  live := fun b h n => by
    obtain ⟨m, u, h1, h2, h3⟩ := h
    rcases get_snoc h1 with h1 | ⟨e, h1⟩
    · rcases get_snoc h2 with h2 | ⟨e, _⟩
      · exact ⟨m, u, h1, h2, h3⟩
      · have := (List.getElem?_eq_some_iff.mp h1).1
        have := W.il
        omega
    · rw [h1] at n
      exact absurd ha n
theorem Wd.add (W : Wd G M0 ι π H) (ha : H a = none) (x : Ev Nm H H1) (h1 : H1 a ≠ none) (r : Cl (G.at (ι ++ [a])) (Mu M0 (ι ++ [a]) (π ++ [c])) H1 a c) : Wd G M0 (ι ++ [a]) (π ++ [c]) H1 where
  cel := fun m u e => by
    rcases get_snoc e with e | ⟨rfl, rfl⟩
    · obtain ⟨b, e1, r1⟩ := W.cel m u e
      have g : Gr Nm ι π H (ι ++ [a]) (π ++ [c]) H1 := .add W ha x
      exact ⟨b, get_app e1, Cl.mv g.pre (g.evM fun _ z => z.elim) g.mu (fun o q => x.keep b o q id) r1⟩
    · refine ⟨a, ?_, r⟩
      rw [← W.il, List.getElem?_append_right (Nat.le_refl _), Nat.sub_self]
      rfl
  il := by rw [List.length_append, List.length_append, W.il]; rfl
  nd := by
    refine List.nodup_append.mpr ⟨W.nd, by simp, fun b hb c' hc' => ?_⟩
    rw [List.mem_singleton.mp hc']
    intro z
    rw [z] at hb
    exact W.in_ a hb ha
  in_ := fun b h => by
    rcases List.mem_append.mp h with h | h
    · exact x.there b (W.in_ b h)
    · rw [List.mem_singleton.mp h]; exact h1
  m0 := fun b h => x.there b (W.m0 b h)
  dis := fun b h z => by
    rcases List.mem_append.mp z with z | z
    · exact W.dis b h z
    · rw [List.mem_singleton.mp z] at h; exact W.m0 a h ha
end

/-! ### a frame -/
/-- names' data by slots -/
abbrev En := List (Option D)
/-- a def that runs: M0: what others may change, H0, ι0, π0: the heap and the cells at its entry -/
structure Fx where
  G : Gx
  M0 : Addr → Prop
  H0 : Hp
  ι0 : List Addr
  π0 : Store
structure Wo (F : Fx) (ι : List Addr) (π : Store) (H : Hp) : Prop where
  wd : Wd F.G F.M0 ι π H
  gr : Gr Nm F.ι0 F.π0 F.H0 ι π H
structure At (F : Fx) (ι : List Addr) (σ : L2.St) (ρ : En) (π : Store) (H : Hp) : Prop where
  val : ∀ (i : Nat) (d : D), ρ[i]? = some (some d) → ∃ v, σ[i]? = some (some v) ∧ Dr (F.G.at ι) (Mu F.M0 ι π) H d v
  wo : Wo F ι π H
  len : σ.length = ρ.length
section
variable {F : Fx} {C : Addr → Prop} {ι ι' : List Addr} {σ σ' : L2.St} {ρ ρ' : En} {π π' : Store} {H H' : Hp}
theorem Wo.go {ι1 : List Addr} {π1 : Store} {H1 : Hp} (W : Wo F ι π H) (g : Gr Nm ι π H ι1 π1 H1) (w : Wd F.G F.M0 ι1 π1 H1) : Wo F ι1 π1 H1 := ⟨w, W.gr.trans g⟩
theorem At.mx (A : At F ι σ ρ π H) : ∀ a, Mu F.M0 ι π a → H a ≠ none := A.wo.wd.mu
/-- the names as they were, the cells as they are now -/
theorem At.go (A : At F ι σ ρ π H) (W : Wo F ι' π' H') (g : Gr C ι π H ι' π' H') (h : ∀ a, C a → F.M0 a) : At F ι' σ ρ π' H' where
  val := fun i d e => by
    obtain ⟨v, e1, r⟩ := A.val i d e
    exact ⟨v, e1, Dr.gr g h r⟩
  wo := W
  len := A.len
theorem At.go' (A : At F ι σ ρ π H) (g : Gr Nm ι π H ι' π' H') (w : Wd F.G F.M0 ι' π' H') : At F ι' σ ρ π' H' := A.go (A.wo.go g w) g fun _ z => z.elim
/-- nothing changed -/
theorem At.same (A : At F ι σ ρ π H) (x : Ev Nm H H') : At F ι σ ρ π H' := A.go' (.of_ev x) (A.wo.wd.same x)
theorem At.set (A : At F ι σ ρ π H) {i : Nat} {d : D} {v : V} (r : Dr (F.G.at ι) (Mu F.M0 ι π) H d v) : At F ι (σ.set i (some v)) (ρ.set i (some d)) π H where
  val := fun j e h => by
    by_cases z : i = j
    · subst z
      by_cases hl : i < ρ.length
      · rw [List.getElem?_set_self hl] at h
        cases h
        exact ⟨v, List.getElem?_set_self (by rw [A.len]; exact hl), r⟩
      · rw [List.getElem?_eq_none (by simpa using hl)] at h
        cases h
    · rw [List.getElem?_set_ne z] at h
      obtain ⟨v', e1, r1⟩ := A.val j e h
      exact ⟨v', by rw [List.getElem?_set_ne z]; exact e1, r1⟩
  wo := A.wo
  len := by simpa using A.len
/-- a slot is forgotten -/
theorem At.unset (A : At F ι σ ρ π H) {i : Nat} : At F ι (σ.set i none) (ρ.set i none) π H where
  val := fun j e h => by
    by_cases z : i = j
    · subst z
      by_cases hl : i < ρ.length
      · rw [List.getElem?_set_self hl] at h
        cases h
      · rw [List.getElem?_eq_none (by simpa using hl)] at h
        cases h
    · rw [List.getElem?_set_ne z] at h
      obtain ⟨v', e1, r1⟩ := A.val j e h
      exact ⟨v', by rw [List.getElem?_set_ne z]; exact e1, r1⟩
  wo := A.wo
  len := by simpa using A.len
/-! ### a list that is being made, hidden from the frame -/
abbrev Fx.wm (F : Fx) (M : Addr → Prop) : Fx := ⟨F.G, M, F.H0, F.ι0, F.π0⟩
def Hid (F : Fx) (p : Addr) : Addr → Prop := fun a => F.M0 a ∨ a = p
theorem Wd.m0_le {G : Gx} {M0 M1 : Addr → Prop} (W : Wd G M0 ι π H) (x : Ev Nm H H') (h : ∀ a, M1 a → H a ≠ none → M0 a) (k : ∀ a, M1 a → H' a ≠ none) : Wd G M1 ι π H' where
  cel := fun n c e => by
    obtain ⟨a, e1, r⟩ := W.cel n c e
    refine ⟨a, e1, Cl.mv (List.prefix_refl _) x.nm (fun b z q => ?_) (fun o q => x.keep _ _ q id) r⟩
    rcases z with z | z
    · exact .inl (h b z q)
    · exact .inr z
  il := W.il
  nd := W.nd
  in_ := fun a h => x.there a (W.in_ a h)
  m0 := k
  dis := fun a z q => W.dis a (h a z (W.in_ a q)) q
theorem At.m0_le {M1 : Addr → Prop} (A : At F ι σ ρ π H) (x : Ev Nm H H') (h : ∀ a, M1 a → H a ≠ none → F.M0 a) (k : ∀ a, M1 a → H' a ≠ none) : At (F.wm M1) ι σ ρ π H' where
  val := fun i d e => by
    obtain ⟨v, e1, r⟩ := A.val i d e
    refine ⟨v, e1, Dr.mv (List.prefix_refl _) x.nm (fun b z q => ?_) _ _ r⟩
    rcases z with z | z
    · exact .inl (h b z q)
    · exact .inr z
  wo := ⟨A.wo.wd.m0_le x h k, A.wo.gr.trans (.of_ev x)⟩
  len := A.len
theorem At.hide (A : At F ι σ ρ π H) {p : Addr} (hp : H p = none) (o : HO) : At (F.wm (Hid F p)) ι σ ρ π (upd H p o) :=
  A.m0_le (.new hp) (fun a h q => by
    rcases h with h | h
    · exact h
    · rw [h] at q; exact absurd hp q) fun a h => by
    by_cases z : a = p
    · rw [z, upd_same]; exact fun q => nomatch q
    · rw [upd_ne z]
      rcases h with h | h
      · exact A.wo.wd.m0 a h
      · exact absurd h z
theorem At.show_ {M : Addr → Prop} (A : At (F.wm M) ι σ ρ π H) (h : ∀ a, F.M0 a → M a) : At F ι σ ρ π H :=
  At.m0_le (F := F.wm M) (M1 := F.M0) A (.refl _ _) (fun a z _ => h a z) fun a z => A.wo.wd.m0 a (h a z)
/-- the hidden list is written -/
theorem At.put (A : At F ι σ ρ π H) {p : Addr} {xs : List V} (hm : F.M0 p) (hι : p ∉ ι) (h0 : F.H0 p = none) (hp : H p = some (.lst xs)) (ys : List V) : At F ι σ ρ π (upd H p (.lst ys)) := by
  have e : Ev F.M0 H (upd H p (.lst ys)) := .put hm hp
  have e' : Ev (Mu F.M0 ι π) H (upd H p (.lst ys)) := e.mono fun b h _ => .inl h
  have q := A.wo.gr
  refine ⟨fun i d h => ?_, ⟨⟨fun n c h => ?_, A.wo.wd.il, A.wo.wd.nd, fun a h => e.there a (A.wo.wd.in_ a h), fun a h => e.there a (A.wo.wd.m0 a h), A.wo.wd.dis⟩, ⟨⟨fun a o h n => ?_, fun a zs h => ?_, fun a o u h => ?_, fun a φ h => ?_, fun a h => e.there a (q.ev.there a h)⟩, q.pre, q.frs, q.live⟩⟩, A.len⟩
  · obtain ⟨v, e1, r⟩ := A.val i d h
    exact ⟨v, e1, Dr.ev e' _ _ r⟩
  · obtain ⟨a, e1, r⟩ := A.wo.wd.cel n c h
    refine ⟨a, e1, Cl.mv (List.prefix_refl _) e' (fun _ h _ => h) (fun o z => ?_) r⟩
    rw [upd_ne (fun z' => hι (by rw [← z']; exact List.mem_of_getElem? e1))]
    exact z
  · rw [upd_ne (ne_of_none h h0)]
    exact q.ev.keep a o h n
  · rw [upd_ne (ne_of_none h h0)]
    exact q.ev.tup a zs h
  · rw [upd_ne (ne_of_none h h0)]
    exact q.ev.frz a o u h
  · rw [upd_ne (ne_of_none h h0)]
    exact q.ev.ext a φ h
end
end Ph
end
section
set_option Elab.async false
set_option linter.all false
set_option maxRecDepth 100000
/-! Ph, part B: readings by data: expressions (tX), tests (tXT), arguments (tXA); operators, calls. -/
namespace Ph
open PySem PySem.Spec PyProof.Rows L2

abbrev SE := En → Store → Res (D × Store)
abbrev ST := En → Store → Res (Bool × Store)
abbrev SA := En → Store → Res (List D × Store)

/-- the field of an exception's class -/
def xfl (G : Gx) (c : Nat) : Str := (G.flds c).headD Str.empty
/-- the own dict of an exception: its field with d, or none where the class has no field -/
def XD (G : Gx) (M : Addr → Prop) (ι' : List Addr) (π' : Store) (P : Addr → Prop) (H' : Hp) (c : Nat) (d : D) (dx : Option Addr) : Prop :=
  (∃ dd v, dx = some dd ∧ P dd ∧ H' dd = some (.xd [(xfl G c, v)]) ∧ Dr (G.at ι') (Mu M ι' π') H' d v ∧ G.flds c ≠ []) ∨ (G.flds c = [] ∧ dx = none)
theorem XD.mono {G : Gx} {M : Addr → Prop} {ι' : List Addr} {π' : Store} {P P' : Addr → Prop} {H' : Hp} {c : Nat} {d : D} {dx : Option Addr} (h : XD G M ι' π' P H' c d dx) (hp : ∀ a, P a → P' a) : XD G M ι' π' P' H' c d dx :=
  h.imp (fun ⟨dd, v, e, p, hx, r⟩ => ⟨dd, v, e, hp _ p, hx, r⟩) id
/-- an own exception that is told: its class, its field, the cells -/
def Xk (G : Gx) (M : Addr → Prop) (E : XK) (ι : List Addr) (π : Store) (H : Hp) (c : Nat) (d : D) (π' : Store) : Prop :=
  ∀ dx ι' H', Gr Nm ι π H ι' π' H' → Wd G M ι' π' H' → XD G M ι' π' (fun dd => H dd = none) H' c d dx → E (.ref (G.cls c)) dx H'
/-- what is wanted of an exception that leaves the def -/
abbrev XW (F : Fx) (E : XK) (c : Nat) (d : D) (π' : Store) : Prop := Xk F.G F.M0 E F.ι0 F.π0 F.H0 c d π'
def Go (F : Fx) (E : XK) {α : Type} (r : Res α) (K : α → Prop) : Prop :=
  match r with
  | .fail => False
  | .ok a => K a
  | .xc c d π => XW F E c d π
section
variable {F : Fx} {E : XK} {α β : Type}
theorem Go.bind {r : Res α} {f : α → Res β} {K : β → Prop} (h : Go F E (r.bind f) K) : Go F E r fun a => Go F E (f a) K := by
  cases r with
  | fail => exact h
  | ok a => exact h
  | xc c d π => exact h
theorem Go.mono {r : Res α} {K K' : α → Prop} (h : ∀ a, K a → K' a) (g : Go F E r K) : Go F E r K' := by
  cases r with
  | fail => exact g
  | ok a => exact h a g
  | xc c d π => exact g
end
/-- an answer of plain operations -/
def Res.of {α : Type} : Option α → Res α
  | none => .fail
  | some a => .ok a
@[simp] theorem Res.of_some {α : Type} (a : α) : Res.of (some a) = .ok a := rfl
@[simp] theorem Res.of_none {α : Type} : Res.of (none : Option α) = .fail := rfl

/-- what is wanted of a value -/
abbrev Kv (F : Fx) (ι : List Addr) (σ : L2.St) (ρ : En) (π : Store) (H : Hp) (Q : VK) (p : D × Store) : Prop :=
  ∀ v ι' H', At F ι' σ ρ p.2 H' → Gr Nm ι π H ι' p.2 H' → Dr (F.G.at ι') (Mu F.M0 ι' p.2) H' p.1 v → Q v H'
def tX (F : Fx) (E : XK) (f : SE) : TE := fun σ H Q => ∃ ι ρ π, At F ι σ ρ π H ∧ Go F E (f ρ π) (Kv F ι σ ρ π H Q)
def tXT (F : Fx) (E : XK) (f : ST) : TT := fun σ H Q => ∃ ι ρ π, At F ι σ ρ π H ∧ Go F E (f ρ π) fun p =>
  ∀ ι' H', At F ι' σ ρ p.2 H' → Gr Nm ι π H ι' p.2 H' → Q p.1 H'
def tXA (F : Fx) (E : XK) (f : SA) : TA := fun σ H Q => ∃ ι ρ π, At F ι σ ρ π H ∧ Go F E (f ρ π) fun p =>
  ∀ vs ι' H', At F ι' σ ρ p.2 H' → Gr Nm ι π H ι' p.2 H' → DrL (F.G.at ι') (Mu F.M0 ι' p.2) H' p.1 vs → Q vs H'

theorem _root_.L2.PE.weak {X : Cx} {e : Expr} {t t' : TE} (h : PE X e t) (w : ∀ σ H Q, t' σ H Q → t σ H Q) : PE X e t' := ⟨fun pins s σ H Q I q => h.run pins s σ H Q I (w σ H Q q)⟩
theorem _root_.L2.PT.weak {X : Cx} {e : Expr} {t t' : TT} (h : PT X e t) (w : ∀ σ H Q, t' σ H Q → t σ H Q) : PT X e t' := ⟨fun pins s σ H Q I q => h.run pins s σ H Q I (w σ H Q q)⟩
theorem _root_.L2.PW.weak {X : Cx} {e : Expr} {t t' : TT} (h : PW X e t) (w : ∀ σ H Q, t' σ H Q → t σ H Q) : PW X e t' := ⟨fun wh pins s σ H Q I q => h.run wh pins s σ H Q I (w σ H Q q)⟩
theorem _root_.L2.PA.weak {X : Cx} {es : List Expr} {t t' : TA} (h : PA X es t) (w : ∀ σ H Q, t' σ H Q → t σ H Q) : PA X es t' := ⟨fun pos pins s σ H Q I q => h.run pos pins s σ H Q I (w σ H Q q)⟩

/-! ### the words -/
def gt : En → Nat → Res D
  | [], _ => .fail
  | none :: _, 0 => .fail
  | some d :: _, 0 => .ok d
  | _ :: r, i + 1 => gt r i
theorem gt_some {ρ : En} {i : Nat} {d : D} (h : gt ρ i = .ok d) : ρ[i]? = some (some d) := by
  induction ρ generalizing i with
  | nil => cases h
  | cons o r ih =>
    cases i with
    | zero =>
      cases o with
      | none => cases h
      | some e => cases h; rfl
    | succ i =>
      cases o <;> exact (ih (i := i) h)
theorem gt_xc {ρ : En} {i : Nat} {c : Nat} {d : D} {π : Store} : gt ρ i ≠ .xc c d π := by
  induction ρ generalizing i with
  | nil => exact fun z => nomatch z
  | cons o r ih =>
    cases i with
    | zero =>
      cases o <;> exact fun z => nomatch z
    | succ i =>
      cases o <;> exact (ih (i := i))
def eV (i : Nat) : SE := fun ρ π => (gt ρ i).bind fun d => .ok (d, π)
def eC (d : D) : SE := fun _ π => .ok (d, π)
def eOp (op : D → D → Option D) (a b : SE) : SE := fun ρ π => (a ρ π).bind fun x => (b ρ x.2).bind fun y => (Res.of (op x.1 y.1)).bind fun z => .ok (z, y.2)
def eUn (op : D → Option D) (a : SE) : SE := fun ρ π => (a ρ π).bind fun x => (Res.of (op x.1)).bind fun z => .ok (z, x.2)
def aNil : SA := fun _ π => .ok ([], π)
def aCons (a : SE) (r : SA) : SA := fun ρ π => (a ρ π).bind fun x => (r ρ x.2).bind fun y => .ok (x.1 :: y.1, y.2)
/-- a function of the arguments -/
def eFn (g : List D → Res D) (as : SA) : SE := fun ρ π => (as ρ π).bind fun x => (g x.1).at x.2
/-- a function of the arguments and the cells -/
def eCall (g : List D → Store → Res (D × Store)) (as : SA) : SE := fun ρ π => (as ρ π).bind fun x => g x.1 x.2
def bl? : D → Res Bool
  | .bl b => .ok b
  | _ => .fail
@[simp] theorem bl?_bl (b : Bool) : bl? (.bl b) = .ok b := rfl
def tB (a : SE) : ST := fun ρ π => (a ρ π).bind fun x => (bl? x.1).bind fun b => .ok (b, x.2)
def tAnd (a b : ST) : ST := fun ρ π => (a ρ π).bind fun x => if x.1 = true then b ρ x.2 else .ok (false, x.2)
def tOr (a b : ST) : ST := fun ρ π => (a ρ π).bind fun x => if x.1 = true then .ok (true, x.2) else b ρ x.2
def tNot (a : ST) : ST := fun ρ π => (a ρ π).bind fun x => .ok (!x.1, x.2)
def eIf (c : ST) (a b : SE) : SE := fun ρ π => (c ρ π).bind fun x => if x.1 = true then a ρ x.2 else b ρ x.2
def eAnd (a b : SE) : SE := fun ρ π => (a ρ π).bind fun x => (bl? x.1).bind fun c => if c = true then b ρ x.2 else .ok (.bl false, x.2)
def eOr (a b : SE) : SE := fun ρ π => (a ρ π).bind fun x => (bl? x.1).bind fun c => if c = true then .ok (.bl true, x.2) else b ρ x.2
def eNot (a : SE) : SE := fun ρ π => (a ρ π).bind fun x => (bl? x.1).bind fun c => .ok (.bl (!c), x.2)

/-! ### operations -/
/-- an operation of values does what an operation of data tells -/
def OpD (G : Gx) (r : R2) (op : D → D → Option D) : Prop := ∀ (ι : List Addr) (M : Addr → Prop) (H : Hp) (dx dy d : D) (x y : V) (Q : VK), (∀ a, M a → H a ≠ none) → Dr (G.at ι) M H dx x → Dr (G.at ι) M H dy y → op dx dy = some d →
  (∀ v H', Ev Nm H H' → Dr (G.at ι) M H' d v → Q v H') → r x y H Q
def UnD (G : Gx) (r : V → Hp → VK → Prop) (op : D → Option D) : Prop := ∀ (ι : List Addr) (M : Addr → Prop) (H : Hp) (dx d : D) (x : V) (Q : VK), (∀ a, M a → H a ≠ none) → Dr (G.at ι) M H dx x → op dx = some d →
  (∀ v H', Ev Nm H H' → Dr (G.at ι) M H' d v → Q v H') → r x H Q
/-- a function of values does what a function of data tells -/
def FnD (G : Gx) (r : List V → Hp → VK → Prop) (g : List D → Res D) : Prop := ∀ (ι : List Addr) (M : Addr → Prop) (H : Hp) (ds : List D) (d : D) (vs : List V) (Q : VK), (∀ a, M a → H a ≠ none) → DrL (G.at ι) M H ds vs → g ds = .ok d →
  (∀ v H', Ev Nm H H' → Dr (G.at ι) M H' d v → Q v H') → r vs H Q

section
variable {X : Cx} {F : Fx} {E : XK} {a b c e : Expr} {es rest : List Expr} {pos : Pos} {f fa fb : SE} {ft fu : ST} {as : SA}
theorem pv {x : Str} (i : Nat) (hN : X.N[i]? = some x := by rfl) (hv : Vis X.env.scope x := by first | exact Or.inl rfl | exact Or.inr (Or.inl rfl) | exact Or.inr (Or.inr rfl)) (hd : (x == ("__debug__" : Str)) = false := by decide) (hcd : (x == ("__classdict__" : Str)) = false := by decide) : PE X (.Name x pos) (fun σ H Q => ∃ v, σ[i]? = some (some v) ∧ Q v H) := pe_var hN hv hd hcd
theorem x_var {x : Str} (i : Nat) (hN : X.N[i]? = some x := by rfl) (hv : Vis X.env.scope x := by first | exact Or.inl rfl | exact Or.inr (Or.inl rfl) | exact Or.inr (Or.inr rfl)) (hd : (x == ("__debug__" : Str)) = false := by decide) (hcd : (x == ("__classdict__" : Str)) = false := by decide) : PE X (.Name x pos) (tX F E (eV i)) := (pv i hN hv hd hcd).weak fun σ H Q h => by
  obtain ⟨ι, ρ, π, A, h⟩ := h
  have h := Go.bind h
  cases e : gt ρ i with
  | fail => rw [e] at h; exact h.elim
  | xc c d => exact absurd e gt_xc
  | ok d =>
    rw [e] at h
    obtain ⟨v, e1, r⟩ := A.val i d (gt_some e)
    exact ⟨v, e1, h v ι H A (.refl _ _ _ _) r⟩
theorem x_const {v : V} {d : D} (h : PE X e (tC v)) (hd : ∀ G M H, Dr G M H d v) : PE X e (tX F E (eC d)) := h.weak fun σ H Q h => by
  obtain ⟨ι, ρ, π, A, h⟩ := h
  exact h v ι H A (.refl _ _ _ _) (hd _ _ _)
theorem x_int {i j pos} : PE X (.Constant (.int i) j pos) (tX F E (eC (.int i))) := x_const pe_int fun _ _ _ => rfl
theorem x_bl {b j pos} : PE X (.Constant (.bool b) j pos) (tX F E (eC (.bl b))) := x_const pe_bl fun _ _ _ => rfl
theorem x_non {j pos} : PE X (.Constant .none j pos) (tX F E (eC .non)) := x_const pe_non fun _ _ _ => rfl
theorem x_str {x j pos} : PE X (.Constant (.str x) j pos) (tX F E (eC (.str x))) := x_const pe_str fun _ _ _ => rfl
theorem bin_weak {r : R2} {op : D → D → Option D} (ho : OpD F.G r op) {σ : L2.St} {H : Hp} {Q : VK} (h : tX F E (eOp op fa fb) σ H Q) : tOp r (tX F E fa) (tX F E fb) σ H Q := by
  obtain ⟨ι, ρ, π, A, h⟩ := h
  refine ⟨ι, ρ, π, A, Go.mono (fun p hp x ι1 H1 A1 e1 r1 => ⟨ι1, ρ, p.2, A1, Go.mono (fun q hq y ι2 H2 A2 e2 r2 => ?_) (Go.bind hp)⟩) (Go.bind h)⟩
  have hq := Go.bind hq
  cases e : op p.1 q.1 with
  | none => rw [e] at hq; exact hq.elim
  | some d =>
    rw [e] at hq
    have hq : Kv F ι σ ρ π H Q (d, q.2) := hq
    exact ho _ _ _ _ _ _ _ _ _ A2.mx (Dr.gr e2 (fun _ z => z.elim) r1) r2 e fun v H' x r => hq v _ H' (A2.same x) ((e1.trans e2).trans (.of_ev x)) r
theorem un_weak {r : V → Hp → VK → Prop} {op : D → Option D} (ho : UnD F.G r op) {σ : L2.St} {H : Hp} {Q : VK} (h : tX F E (eUn op fa) σ H Q) : tUn r (tX F E fa) σ H Q := by
  obtain ⟨ι, ρ, π, A, h⟩ := h
  refine ⟨ι, ρ, π, A, Go.mono (fun p hp x ι1 H1 A1 e1 r1 => ?_) (Go.bind h)⟩
  have hq := Go.bind hp
  cases e : op p.1 with
  | none => rw [e] at hq; exact hq.elim
  | some d =>
    rw [e] at hq
    have hq : Kv F ι σ ρ π H Q (d, p.2) := hq
    exact ho _ _ _ _ _ _ _ A1.mx r1 e fun v H' x r => hq v _ H' (A1.same x) (e1.trans (.of_ev x)) r
theorem x_op {op : Operator} {r : R2} {o : D → D → Option D} (hr : OpR X (binaryOp op) r) (ho : OpD F.G r o) (ha : PE X a (tX F E fa)) (hb : PE X b (tX F E fb)) : PE X (.BinOp a op b pos) (tX F E (eOp o fa fb)) :=
  (pe_op hr ha hb).weak fun _ _ _ h => bin_weak ho h
theorem x_cmp {op : CmpOp} {r : R2} {o : D → D → Option D} (hr : OpR X (compareOp op) r) (ho : OpD F.G r o) (ha : PE X a (tX F E fa)) (hb : PE X b (tX F E fb)) (hm : behindInMarks op b = false) : PE X (.Compare a [op] [b] pos) (tX F E (eOp o fa fb)) :=
  (pe_cmpR hr ha hb hm).weak fun _ _ _ h => bin_weak ho h
theorem x_un {op : UnaryOp} {r : V → Hp → VK → Prop} {o : D → Option D} (hr : UnR X (unaryOp op) r) (ho : UnD F.G r o) (ha : PE X a (tX F E fa)) : PE X (.UnaryOp op a pos) (tX F E (eUn o fa)) :=
  (pe_un hr ha).weak fun _ _ _ h => un_weak ho h
theorem x_ix {r : R2} {o : D → D → Option D} (hr : IxR X r) (ho : OpD F.G r o) (ha : PE X a (tX F E fa)) (hb : PE X b (tX F E fb)) (hs : PlainIx b := by intro _ _; rfl) : PE X (.Subscript a b pos) (tX F E (eOp o fa fb)) :=
  (pe_ix hr ha hb hs).weak fun _ _ _ h => bin_weak ho h

/-! ### tests -/
theorem test_weak {σ : L2.St} {H : Hp} {Q : Bool → Hp → Prop} {t : TE} (ht : ∀ Q, tX F E f σ H Q → t σ H Q) (h : tXT F E (tB f) σ H Q) : t σ H fun x H' => ∃ k, x = .bl k ∧ Q k H' := by
  obtain ⟨ι, ρ, π, A, h⟩ := h
  refine ht _ ⟨ι, ρ, π, A, Go.mono (fun p hp v ι1 H' A1 e1 r1 => ?_) (Go.bind h)⟩
  have hq := Go.bind hp
  cases e : p.1 with
  | bl k =>
    rw [e] at r1 hq
    exact ⟨k, r1, hq ι1 H' A1 e1⟩
  | _ => rw [e] at hq; exact hq.elim
theorem xt_cmp {op : CmpOp} {r : R2} {o : D → D → Option D} (hr : OpR X (compareOp op) r) (ho : OpD F.G r o) (ha : PE X a (tX F E fa)) (hb : PE X b (tX F E fb)) (hm : behindInMarks op b = false) : PT X (.Compare a [op] [b] pos) (tXT F E (tB (eOp o fa fb))) :=
  (pt_cmpR hr ha hb hm).weak fun _ _ _ h => test_weak (fun _ h => bin_weak ho h) h
theorem xt_val (h : PE X e (tX F E f)) (he : ∀ whole, isTrue e X.env whole = (do let v ← whole; standAt e.pos; holding [v] (truthy v)) := by intro _; rfl) : PT X e (tXT F E (tB f)) :=
  (pt_val h he).weak fun _ _ _ h => test_weak (fun _ h => h) h
theorem xt_not (ha : PT X a (tXT F E ft)) : PT X (.UnaryOp .Not a pos) (tXT F E (tNot ft)) := (pt_not ha).weak fun σ H Q h => by
  obtain ⟨ι, ρ, π, A, h⟩ := h
  exact ⟨ι, ρ, π, A, Go.mono (fun p hp ι' H' A1 e1 => hp ι' H' A1 e1) (Go.bind h)⟩
theorem xw_and1 (ha : PT X a (tXT F E ft)) : PW X (.BoolOp .And [a] pos) (tXT F E ft) := pw_and1 ha
theorem xw_or1 (ha : PT X a (tXT F E ft)) : PW X (.BoolOp .Or [a] pos) (tXT F E ft) := pw_or1 ha
theorem xw_and (ha : PT X a (tXT F E ft)) (hb : PW X (.BoolOp .And (b :: rest) pos) (tXT F E fu)) : PW X (.BoolOp .And (a :: b :: rest) pos) (tXT F E (tAnd ft fu)) := (pw_and ha hb).weak fun σ H Q h => by
  obtain ⟨ι, ρ, π, A, h⟩ := h
  refine ⟨ι, ρ, π, A, Go.mono (fun p hp ι' H' A1 e1 => ?_) (Go.bind h)⟩
  obtain ⟨k, π1⟩ := p
  cases k with
  | true =>
    show tXT F E fu σ H' Q
    exact ⟨ι', ρ, π1, A1, Go.mono (fun q hq ι2 H2 A2 e2 => hq ι2 H2 A2 (e1.trans e2)) hp⟩
  | false =>
    show Q false H'
    exact hp ι' H' A1 e1
theorem xw_or (ha : PT X a (tXT F E ft)) (hb : PW X (.BoolOp .Or (b :: rest) pos) (tXT F E fu)) : PW X (.BoolOp .Or (a :: b :: rest) pos) (tXT F E (tOr ft fu)) := (pw_or ha hb).weak fun σ H Q h => by
  obtain ⟨ι, ρ, π, A, h⟩ := h
  refine ⟨ι, ρ, π, A, Go.mono (fun p hp ι' H' A1 e1 => ?_) (Go.bind h)⟩
  obtain ⟨k, π1⟩ := p
  cases k with
  | false =>
    show tXT F E fu σ H' Q
    exact ⟨ι', ρ, π1, A1, Go.mono (fun q hq ι2 H2 A2 e2 => hq ι2 H2 A2 (e1.trans e2)) hp⟩
  | true =>
    show Q true H'
    exact hp ι' H' A1 e1
theorem xt_w (h : PW X e (tXT F E ft)) : PT X e (tXT F E ft) := h.pt
/-- a if t else b -/
theorem x_if (hc : PT X c (tXT F E ft)) (ha : PE X a (tX F E fa)) (hb : PE X b (tX F E fb)) : PE X (.IfExp c a b pos) (tX F E (eIf ft fa fb)) := (pe_ifExp hc ha hb).weak fun σ H Q h => by
  obtain ⟨ι, ρ, π, A, h⟩ := h
  refine ⟨ι, ρ, π, A, Go.mono (fun p hp ι' H' A1 e1 => ?_) (Go.bind h)⟩
  obtain ⟨k, π1⟩ := p
  cases k with
  | true =>
    show tX F E fa σ H' Q
    exact ⟨ι', ρ, π1, A1, Go.mono (fun q hq v ι2 H2 A2 e2 r2 => hq v ι2 H2 A2 (e1.trans e2) r2) hp⟩
  | false =>
    show tX F E fb σ H' Q
    exact ⟨ι', ρ, π1, A1, Go.mono (fun q hq v ι2 H2 A2 e2 r2 => hq v ι2 H2 A2 (e1.trans e2) r2) hp⟩
theorem x_one {op} (h : PE X a (tX F E fa)) : PE X (.BoolOp op [a] pos) (tX F E fa) := pe_one h
theorem x_and (ha : PE X a (tX F E fa)) (hb : PE X (.BoolOp .And (b :: rest) pos) (tX F E fb)) : PE X (.BoolOp .And (a :: b :: rest) pos) (tX F E (eAnd fa fb)) := (pe_and ha hb).weak fun σ H Q h => by
  obtain ⟨ι, ρ, π, A, h⟩ := h
  refine ⟨ι, ρ, π, A, Go.mono (fun p hp v ι' H' A1 e1 r1 => ?_) (Go.bind h)⟩
  have hq := Go.bind hp
  cases e : p.1 with
  | bl k =>
    rw [e] at r1 hq
    refine ⟨k, r1, ?_⟩
    cases k with
    | true =>
      show tX F E fb σ H' Q
      exact ⟨ι', ρ, p.2, A1, Go.mono (fun q hq v ι2 H2 A2 e2 r2 => hq v ι2 H2 A2 (e1.trans e2) r2) hq⟩
    | false =>
      show Q (.bl false) H'
      exact hq (.bl false) ι' H' A1 e1 rfl
  | _ => rw [e] at hq; exact hq.elim
theorem x_or (ha : PE X a (tX F E fa)) (hb : PE X (.BoolOp .Or (b :: rest) pos) (tX F E fb)) : PE X (.BoolOp .Or (a :: b :: rest) pos) (tX F E (eOr fa fb)) := (pe_or ha hb).weak fun σ H Q h => by
  obtain ⟨ι, ρ, π, A, h⟩ := h
  refine ⟨ι, ρ, π, A, Go.mono (fun p hp v ι' H' A1 e1 r1 => ?_) (Go.bind h)⟩
  have hq := Go.bind hp
  cases e : p.1 with
  | bl k =>
    rw [e] at r1 hq
    refine ⟨k, r1, ?_⟩
    cases k with
    | false =>
      show tX F E fb σ H' Q
      exact ⟨ι', ρ, p.2, A1, Go.mono (fun q hq v ι2 H2 A2 e2 r2 => hq v ι2 H2 A2 (e1.trans e2) r2) hq⟩
    | true =>
      show Q (.bl true) H'
      exact hq (.bl true) ι' H' A1 e1 rfl
  | _ => rw [e] at hq; exact hq.elim
theorem x_not (ha : PE X a (tX F E fa)) : PE X (.UnaryOp .Not a pos) (tX F E (eNot fa)) := (pe_not ha).weak fun σ H Q h => by
  obtain ⟨ι, ρ, π, A, h⟩ := h
  refine ⟨ι, ρ, π, A, Go.mono (fun p hp v ι' H' A1 e1 r1 => ?_) (Go.bind h)⟩
  have hq := Go.bind hp
  cases e : p.1 with
  | bl k =>
    rw [e] at r1 hq
    exact ⟨k, r1, hq _ ι' H' A1 e1 rfl⟩
  | _ => rw [e] at hq; exact hq.elim

/-! ### arguments, displays -/
theorem xa_nil : PA X [] (tXA F E aNil) := pa_nil.weak fun σ H Q h => by
  obtain ⟨ι, ρ, π, A, h⟩ := h
  exact h [] ι H A (.refl _ _ _ _) rfl
theorem xa_cons (ha : PE X e (tX F E f)) (hr : PA X es (tXA F E as)) (hs : starEach (e :: es) X.env = (false, eval e X.env) :: starEach es X.env := by rfl) : PA X (e :: es) (tXA F E (aCons f as)) :=
  (pa_cons ha hr hs).weak fun σ H Q h => by
    obtain ⟨ι, ρ, π, A, h⟩ := h
    refine ⟨ι, ρ, π, A, Go.mono (fun p hp x ι1 H1 A1 e1 r1 => ⟨ι1, ρ, p.2, A1, Go.mono (fun q hq ys ι2 H2 A2 e2 r2 => ?_) (Go.bind hp)⟩) (Go.bind h)⟩
    exact hq (x :: ys) ι2 H2 A2 (e1.trans e2) (.cons (Dr.gr e2 (fun _ z => z.elim) r1) r2)
/-- a function of the arguments -/
theorem fn_weak {r : List V → Hp → VK → Prop} {g : List D → Res D} (hx : ∀ ds c d π, g ds ≠ .xc c d π) (hg : FnD F.G r g) {σ : L2.St} {H : Hp} {Q : VK} (h : tX F E (eFn g as) σ H Q) : tXA F E as σ H fun vs H1 => r vs H1 Q := by
  obtain ⟨ι, ρ, π, A, h⟩ := h
  refine ⟨ι, ρ, π, A, Go.mono (fun p hp vs ι1 H1 A1 e1 r1 => ?_) (Go.bind h)⟩
  cases e : g p.1 with
  | fail => rw [e] at hp; exact hp.elim
  | xc c d => exact absurd e (hx _ _ _ _)
  | ok d =>
    rw [e] at hp
    have hq : Kv F ι σ ρ π H Q (d, p.2) := hp
    exact hg _ _ _ _ _ _ _ A1.mx r1 e fun v H' x r => hq v _ H' (A1.same x) (e1.trans (.of_ev x)) r
def fTup : List D → Res D := fun ds => if ds.length ≤ 100000 then .ok (.tup ds) else .fail
def fLst : List D → Res D := fun ds => if ds.length ≤ 100000 then .ok (.lst ds) else .fail
theorem big {n : Nat} (h : n ≤ 100000) : n ≤ sizeLine := Nat.le_trans h (by decide)
theorem x_tup {k} (h : PA X es (tXA F E as)) : PE X (.Tuple es k pos) (tX F E (eFn fTup as)) := (pe_tupF h).weak fun σ H Q h => by
  refine fn_weak (r := fun xs H Q => xs.length ≤ sizeLine ∧ NewT H xs Q) (fun ds c d π => by unfold fTup; split <;> exact fun z => nomatch z) (fun ι M H ds d vs Q hm r e hq => ?_) h
  unfold fTup at e
  split at e
  · rename_i hl
    cases e
    refine ⟨by rw [r.length]; exact big hl, fun p o hp hn => hq _ _ (.new hp) (.tupN r hp hn)⟩
  · cases e
theorem x_lst (h : PA X es (tXA F E as)) : PE X (.List es pos) (tX F E (eFn fLst as)) := (pe_lst h).weak fun σ H Q h => by
  refine fn_weak (r := fun xs H Q => xs.length ≤ sizeLine ∧ ∀ p, H p = none → Q (.ref p) (upd H p (.lst xs))) (fun ds c d π => by unfold fLst; split <;> exact fun z => nomatch z) (fun ι M H ds d vs Q hm r e hq => ?_) h
  unfold fLst at e
  split at e
  · rename_i hl
    cases e
    refine ⟨by rw [r.length]; exact big hl, fun p hp => hq _ _ (.new hp) (.lstN r hp hm)⟩
  · cases e
/-- a new list that is to be changed -/
def eNewL (as : SA) : SE := fun ρ π => (as ρ π).bind fun x => if x.1.length ≤ 100000 then .ok (.ptr x.2.length, x.2 ++ [.lst x.1]) else .fail
theorem At.add {ι : List Addr} {σ : L2.St} {ρ : En} {π : Store} {H H1 : Hp} {a : Addr} {c : Cell} (A : At F ι σ ρ π H) (ha : H a = none) (x : Ev Nm H H1) (h1 : H1 a ≠ none) (r : Cl (F.G.at (ι ++ [a])) (Mu F.M0 (ι ++ [a]) (π ++ [c])) H1 a c) : At F (ι ++ [a]) σ ρ (π ++ [c]) H1 :=
  A.go' (.add A.wo.wd ha x) (A.wo.wd.add ha x h1 r)
theorem ptr_new {G : Gx} {M : Addr → Prop} {H : Hp} {ι : List Addr} {π : Store} {a : Addr} (h : ι.length = π.length) : Dr (G.at (ι ++ [a])) M H (.ptr π.length) (.ref a) := ⟨a, rfl, by
  show (ι ++ [a])[π.length]? = some a
  rw [← h, List.getElem?_append_right (Nat.le_refl _), Nat.sub_self]
  rfl⟩
theorem x_newL (h : PA X es (tXA F E as)) : PE X (.List es pos) (tX F E (eNewL as)) := (pe_lst h).weak fun σ H Q h => by
  obtain ⟨ι, ρ, π, A, h⟩ := h
  refine ⟨ι, ρ, π, A, Go.mono (fun p hp vs ι1 H1 A1 e1 r1 => ?_) (Go.bind h)⟩
  split at hp
  · rename_i hl
    refine ⟨by rw [r1.length]; exact big hl, fun a ha => ?_⟩
    have g : Gr Nm ι1 p.2 H1 (ι1 ++ [a]) (p.2 ++ [.lst p.1]) (upd H1 a (.lst vs)) := .add A1.wo.wd ha (.new ha)
    exact hp (.ref a) _ _ (A1.add ha (.new ha) (by rw [upd_same]; exact fun q => nomatch q) ⟨vs, upd_same, DrL.gr g (fun _ z => z.elim) r1⟩) (e1.trans g) (ptr_new A1.wo.wd.il)
  · exact hp.elim
end

/-! ### calls of defs -/
/-- the promise of a def: what it answers to data and cells -/
def spS (G : Gx) (g : List D → Store → Res (D × Store)) : Sp := fun vs H Q E => ∃ (M : Addr → Prop) (ι : List Addr) (π : Store) (ds : List D), Wd G M ι π H ∧ DrL (G.at ι) (Mu M ι π) H ds vs ∧
  match g ds π with
  | .fail => False
  | .ok d => ∀ v ι' H', Gr Nm ι π H ι' d.2 H' → Wd G M ι' d.2 H' → Dr (G.at ι') (Mu M ι' d.2) H' d.1 v → Q v H'
  | .xc c d π' => Xk G M E ι π H c d π'
/-- a function that does not look at the cells -/
def liftP (m : List D → Res D) : List D → Store → Res (D × Store) := fun ds π => (m ds).at π
/-- the promise of a def that changes nothing -/
abbrev spP (G : Gx) (m : List D → Res D) : Sp := spS G (liftP m)
/-- the def x of the module keeps the promise sp; dvs: the defaults that fill up -/
structure Df (P : Program) (w : World) (K : PySem.W.Frag) (mg : Str → Option Value) (base : Heap) (k : Nat) (x : Str) (dvs : List V) (sp : Sp) : Prop where
  ex : ∃ (f : Addr) (fd : FuncData) (ps : List Str) (ds : List Value), FnOk P w K mg base (L2.CX P w) k f fd ps sp ∧ mg x = some (.ref f) ∧ PySem.W.keepIn K (.ref f) = true ∧ Binds K fd ps ds ∧ Vals dvs ds
theorem Xk.out {F : Fx} {E : XK} {ι1 : List Addr} {π1 : Store} {H1 : Hp} {c : Nat} {d : D} {π' : Store} (g : Gr Nm F.ι0 F.π0 F.H0 ι1 π1 H1) (h : XW F E c d π') : Xk F.G F.M0 E ι1 π1 H1 c d π' :=
  fun dx ι' H' g' W x => h dx ι' H' (g.trans g') W (x.mono fun _ hn => g.ev.fresh hn)
section
variable {X : Cx} {F : Fx} {E : XK} {e : Expr} {es : List Expr} {pos p : Pos} {as : SA} {x : Str} {dvs : List V} {k : Nat}
theorem call_weak {g : List D → Store → Res (D × Store)} {dds : List D} (hd : ∀ G M H, DrL G M H dds dvs) {σ : L2.St} {H : Hp} {Q : VK} (h : tX F E (eCall (fun ds => g (ds ++ dds)) as) σ H Q) : tCall (spS F.G g) dvs E (tXA F E as) σ H Q := by
  obtain ⟨ι, ρ, π, A, h⟩ := h
  refine ⟨ι, ρ, π, A, Go.mono (fun p hp vs ι1 H1 A1 e1 r1 => ⟨F.M0, ι1, p.2, p.1 ++ dds, A1.wo.wd, r1.append (hd _ _ _), ?_⟩) (Go.bind h)⟩
  have hq : Go F E (g (p.1 ++ dds) p.2) _ := hp
  cases e : g (p.1 ++ dds) p.2 with
  | fail => rw [e] at hq; exact hq.elim
  | xc c d π' =>
    rw [e] at hq
    exact Xk.out A1.wo.gr hq
  | ok d =>
    rw [e] at hq
    intro v ι' H' g W r
    exact hq v ι' H' (A1.go' g W) (e1.trans g) r
theorem x_call {g : List D → Store → Res (D × Store)} {dds : List D} (Dn : Df X.prog X.w X.K X.mg X.base k x dvs (spS F.G g)) (hr : Room k X.A) (hx : Passes (L2.CX X.prog X.w) X E) (hd : ∀ G M H, DrL G M H dds dvs) (ha : PA X (e :: es) (tXA F E as)) (hg : Gl X x := by rfl)
    (hdb : (x == ("__debug__" : Str)) = false := by decide) (he : starEach (e :: es) X.env = (false, eval e X.env) :: starEach es X.env := by rfl) (hpl : (backTo pos (starEach es X.env)).any (·.1) = false := by rfl) :
    PE X (.Call (.Name x p) (e :: es) [] pos) (tX F E (eCall (fun ds => g (ds ++ dds)) as)) := by
  obtain ⟨f, fd, ps, ds, Fk, hm, hk, hb, hv⟩ := Dn.ex
  exact (pe_call Fk hr hg hm hk hb hv hx ha hdb he hpl).weak fun σ H Q h => call_weak hd h
/-- no defaults -/
theorem x_call_ {g : List D → Store → Res (D × Store)} (Dn : Df X.prog X.w X.K X.mg X.base k x [] (spS F.G g)) (hr : Room k X.A) (hx : Passes (L2.CX X.prog X.w) X E) (ha : PA X (e :: es) (tXA F E as)) (hg : Gl X x := by rfl)
    (hdb : (x == ("__debug__" : Str)) = false := by decide) (he : starEach (e :: es) X.env = (false, eval e X.env) :: starEach es X.env := by rfl) (hpl : (backTo pos (starEach es X.env)).any (·.1) = false := by rfl) :
    PE X (.Call (.Name x p) (e :: es) [] pos) (tX F E (eCall g as)) := by
  have h := x_call (p := p) (pos := pos) (dds := []) Dn hr hx (fun _ _ _ => rfl) ha hg hdb he hpl
  simpa only [List.append_nil] using h
/-- one that changes nothing -/
theorem eCall_lift {m : List D → Res D} : eCall (liftP m) as = eFn m as := rfl
theorem x_callP {m : List D → Res D} (Dn : Df X.prog X.w X.K X.mg X.base k x [] (spP F.G m)) (hr : Room k X.A) (hx : Passes (L2.CX X.prog X.w) X E) (ha : PA X (e :: es) (tXA F E as)) (hg : Gl X x := by rfl)
    (hdb : (x == ("__debug__" : Str)) = false := by decide) (he : starEach (e :: es) X.env = (false, eval e X.env) :: starEach es X.env := by rfl) (hpl : (backTo pos (starEach es X.env)).any (·.1) = false := by rfl) :
    PE X (.Call (.Name x p) (e :: es) [] pos) (tX F E (eFn m as)) := x_call_ Dn hr hx ha hg hdb he hpl
theorem x_callPD {m : List D → Res D} {dds : List D} (Dn : Df X.prog X.w X.K X.mg X.base k x dvs (spP F.G m)) (hr : Room k X.A) (hx : Passes (L2.CX X.prog X.w) X E) (hd : ∀ G M H, DrL G M H dds dvs) (ha : PA X (e :: es) (tXA F E as)) (hg : Gl X x := by rfl)
    (hdb : (x == ("__debug__" : Str)) = false := by decide) (he : starEach (e :: es) X.env = (false, eval e X.env) :: starEach es X.env := by rfl) (hpl : (backTo pos (starEach es X.env)).any (·.1) = false := by rfl) :
    PE X (.Call (.Name x p) (e :: es) [] pos) (tX F E (eFn (fun ds => m (ds ++ dds)) as)) := x_call Dn hr hx hd ha hg hdb he hpl
end
end Ph
end
section
set_option Elab.async false
set_option linter.all false
set_option maxRecDepth 100000
/-! Ph, part C: operations of data. -/
namespace Ph
open PySem PySem.Spec PyProof.Rows L2

theorem OpD.or {G : Gx} {r1 r2 : R2} {o1 o2 : D → D → Option D} (h1 : OpD G r1 o1) (h2 : OpD G r2 o2) : OpD G (fun x y H Q => r1 x y H Q ∨ r2 x y H Q) (fun a b => (o1 a b).or (o2 a b)) := by
  intro ι M H dx dy d x y Q hm rx ry e hq
  replace e : (o1 dx dy).or (o2 dx dy) = some d := e
  cases e1 : o1 dx dy with
  | some z =>
    rw [e1] at e
    have e : some z = some d := e
    cases e
    exact .inl (h1 ι M H dx dy _ x y Q hm rx ry e1 hq)
  | none =>
    rw [e1] at e
    exact .inr (h2 ι M H dx dy _ x y Q hm rx ry e hq)

/-! ### ints -/
def oI (C : Int → Int → Bool) (g : Int → Int → D) : D → D → Option D
  | .int i, .int j => if C i j = true then some (g i j) else none
  | _, _ => none
theorem od_I {G : Gx} {P : Int → Int → Prop} {C : Int → Int → Bool} {gV : Int → Int → V} {g : Int → Int → D} (hp : ∀ i j, C i j = true → P i j) (hg : ∀ i j G M H, Dr G M H (g i j) (gV i j)) : OpD G (rI P gV) (oI C g) := by
  intro ι M H dx dy d x y Q hm rx ry e hq
  cases dx with
  | int i =>
    cases dy with
    | int j =>
      have rx : x = .int i := rx
      have ry : y = .int j := ry
      subst rx ry
      unfold oI at e
      dsimp only at e
      split at e
      · rename_i hc
        cases e
        exact ⟨i, j, rfl, rfl, hp i j hc, hq _ _ (.refl _ _) (hg i j _ _ _)⟩
      · cases e
    | _ => cases e
  | _ => cases e
def oI0 (g : Int → Int → D) : D → D → Option D
  | .int i, .int j => some (g i j)
  | _, _ => none
theorem od_I0 {G : Gx} {gV : Int → Int → V} {g : Int → Int → D} (hg : ∀ i j G M H, Dr G M H (g i j) (gV i j)) : OpD G (rI0 gV) (oI0 g) := by
  intro ι M H dx dy d x y Q hm rx ry e hq
  cases dx with
  | int i =>
    cases dy with
    | int j =>
      have rx : x = .int i := rx
      have ry : y = .int j := ry
      subst rx ry
      cases e
      exact ⟨i, j, rfl, rfl, hq _ _ (.refl _ _) (hg i j _ _ _)⟩
    | _ => cases e
  | _ => cases e
abbrev dSub : D → D → Option D := oI0 fun i j => .int (i - j)
/-- a product that the machine makes: one factor is short, or both together are not too long -/
def wideM (i j : Int) : Bool := decide (i.natAbs < 2 ^ 64) || (decide (j.natAbs < 2 ^ 64) || decide (i.natAbs.log2 + j.natAbs.log2 < 100000000))
theorem wideM_ok {i j : Int} (h : wideM i j = true) : IntMulOk i j := by
  unfold wideM at h
  rw [Bool.or_eq_true, Bool.or_eq_true] at h
  rcases h with h | h | h
  · exact .of_left (intBits_le_iff.mpr (of_decide_eq_true h))
  · exact .of_right (intBits_le_iff.mpr (of_decide_eq_true h))
  · have h := of_decide_eq_true h
    exact .of_le (m := i.natAbs.log2 + 1) (n := j.natAbs.log2 + 1) (intBits_le_iff.mpr Nat.lt_log2_self) (intBits_le_iff.mpr Nat.lt_log2_self) (by omega)
theorem op_mulD {X : Cx} : OpR X (binaryOp .Mult) (rI IntMulOk fun i j => .int (i * j)) := opI fun _ _ _ _ _ _ _ hc q => mul_int q hc
def wideD (_ j : Int) : Bool := decide (0 < j) && decide (j.natAbs.log2 < 9000)
def posD (_ j : Int) : Bool := decide (0 < j)
abbrev dMul : D → D → Option D := oI wideM fun i j => .int (i * j)
abbrev dFdiv : D → D → Option D := oI wideD fun i j => .int (i / j)
abbrev dMod : D → D → Option D := oI posD fun i j => .int (i % j)
abbrev dLt : D → D → Option D := oI0 fun i j => .bl (decide (i < j))
abbrev dLe : D → D → Option D := oI0 fun i j => .bl (decide (i ≤ j))
abbrev dGt : D → D → Option D := oI0 fun i j => .bl (decide (j < i))
abbrev dGe : D → D → Option D := oI0 fun i j => .bl (decide (j ≤ i))
def dNeg : D → Option D
  | .int i => some (.int (-i))
  | _ => none
section
variable {G : Gx}
theorem od_sub : OpD G (rI0 fun i j => .int (i - j)) dSub := od_I0 fun _ _ _ _ _ => rfl
theorem od_lt : OpD G (rI0 fun i j => .bl (decide (i < j))) dLt := od_I0 fun _ _ _ _ _ => rfl
theorem od_le : OpD G (rI0 fun i j => .bl (decide (i ≤ j))) dLe := od_I0 fun _ _ _ _ _ => rfl
theorem od_gt : OpD G (rI0 fun i j => .bl (decide (j < i))) dGt := od_I0 fun _ _ _ _ _ => rfl
theorem od_ge : OpD G (rI0 fun i j => .bl (decide (j ≤ i))) dGe := od_I0 fun _ _ _ _ _ => rfl
theorem od_mul : OpD G (rI IntMulOk fun i j => .int (i * j)) dMul := od_I (fun i j h => wideM_ok h) fun _ _ _ _ _ => rfl
theorem od_fdiv : OpD G (rI CDivW fun i j => .int (i / j)) dFdiv := od_I (fun i j h => by
  unfold wideD at h
  rw [Bool.and_eq_true] at h
  exact ⟨of_decide_eq_true h.1, of_decide_eq_true h.2⟩) fun _ _ _ _ _ => rfl
theorem od_mod : OpD G (rI (fun _ j => 0 < j) fun i j => .int (i % j)) dMod := od_I (fun i j h => of_decide_eq_true h) fun _ _ _ _ _ => rfl
theorem ud_neg : UnD G (rU fun i => .int (-i)) dNeg := by
  intro ι M H dx d x Q hm rx e hq
  cases dx with
  | int i =>
    have rx : x = .int i := rx
    subst rx
    cases e
    exact ⟨i, rfl, hq _ _ (.refl _ _) rfl⟩
  | _ => cases e

/-! ### + -/
def dAddS : D → D → Option D
  | .str i, .str j => if i.length + j.length ≤ 100000 then some (.str (i ++ j)) else none
  | _, _ => none
def dAddT : D → D → Option D
  | .tup a, .tup b => if a.length + b.length ≤ 100000 then some (.tup (a ++ b)) else none
  | _, _ => none
def dAddL : D → D → Option D
  | .lst a, .lst b => if a.length + b.length ≤ 100000 then some (.lst (a ++ b)) else none
  | _, _ => none
def dAdd : D → D → Option D
  | .int i, .int j => some (.int (i + j))
  | .str i, .str j => if i.length + j.length ≤ 100000 then some (.str (i ++ j)) else none
  | .tup a, .tup b => if a.length + b.length ≤ 100000 then some (.tup (a ++ b)) else none
  | .lst a, .lst b => if a.length + b.length ≤ 100000 then some (.lst (a ++ b)) else none
  | _, _ => none
theorem od_addS : OpD G (fun x y H Q => ∃ i j, x = .str i ∧ y = .str j ∧ i.length + j.length ≤ sizeLine ∧ Q (.str (i ++ j)) H) dAddS := by
  intro ι M H dx dy d x y Q hm rx ry e hq
  cases dx with
  | str i =>
    cases dy with
    | str j =>
      have rx : x = .str i := rx
      have ry : y = .str j := ry
      subst rx ry
      unfold dAddS at e
      dsimp only at e
      split at e
      · rename_i hc
        cases e
        exact ⟨i, j, rfl, rfl, big hc, hq _ _ (.refl _ _) rfl⟩
      · cases e
    | _ => cases e
  | _ => cases e
theorem od_addT : OpD G (rCatF G.K) dAddT := by
  intro ι M H dx dy d x y Q hm rx ry e hq
  cases dx with
  | tup l =>
    cases dy with
    | tup m =>
      obtain ⟨a, xs, rfl, sx, qx⟩ := rx
      obtain ⟨b, ys, rfl, sy, qy⟩ := ry
      unfold dAddT at e
      dsimp only at e
      split at e
      · rename_i hc
        cases e
        refine ⟨a, b, xs, ys, rfl, rfl, sx.sq, sy.sq, by rw [qx.length, qy.length]; exact big hc, fun hx => ?_, fun hx hy => ?_, fun hx hy p o hp hn => ?_⟩
        · subst hx
          have hl : l = [] := List.eq_nil_of_length_eq_zero (by rw [← qx.length]; rfl)
          subst hl
          exact hq _ _ (.refl _ _) ⟨b, ys, rfl, sy, qy⟩
        · subst hy
          have hl : m = [] := List.eq_nil_of_length_eq_zero (by rw [← qy.length]; rfl)
          subst hl
          refine hq _ _ (.refl _ _) ⟨a, xs, rfl, sx, ?_⟩
          rw [List.append_nil]
          exact qx
        · exact hq _ _ (.new hp) (.tupN (qx.append qy) hp hn)
      · cases e
    | _ => cases e
  | _ => cases e
theorem od_addL : OpD G rCat dAddL := by
  intro ι M H dx dy d x y Q hm rx ry e hq
  cases dx with
  | lst l =>
    cases dy with
    | lst m =>
      obtain ⟨a, xs, rfl, nx, sx, qx⟩ := rx
      obtain ⟨b, ys, rfl, ny, sy, qy⟩ := ry
      unfold dAddL at e
      dsimp only at e
      split at e
      · rename_i hc
        cases e
        exact ⟨a, b, xs, ys, rfl, rfl, sx, sy, by rw [qx.length, qy.length]; exact big hc, fun p hp => hq _ _ (.new hp) (.lstN (qx.append qy) hp hm)⟩
      · cases e
    | _ => cases e
  | _ => cases e
theorem dAdd_eq (a b : D) : ((oI0 fun i j => .int (i + j)) a b).or ((dAddS a b).or ((dAddT a b).or (dAddL a b))) = dAdd a b := by
  cases a <;> cases b <;> simp [oI0, dAddS, dAddT, dAddL, dAdd]
def rAddD (K : PySem.W.Frag) : R2 := fun x y H Q => rI0 (fun i j => V.int (i + j)) x y H Q ∨ ((∃ i j, x = .str i ∧ y = .str j ∧ i.length + j.length ≤ sizeLine ∧ Q (.str (i ++ j)) H) ∨ (rCatF K x y H Q ∨ rCat x y H Q))
theorem op_addD {X : Cx} : OpR X (binaryOp .Add) (rAddD X.K) := op_add.or (op_add_str.or (op_catF.or op_cat))
theorem od_add : OpD G (rAddD G.K) dAdd := by
  have h := (od_I0 (G := G) (gV := fun i j => V.int (i + j)) (g := fun i j => .int (i + j)) fun _ _ _ _ _ => rfl).or (od_addS.or (od_addT.or od_addL))
  intro ι M H dx dy d x y Q hm rx ry e hq
  exact h ι M H dx dy d x y Q hm rx ry ((dAdd_eq dx dy).trans e) hq

/-! ### places -/
def dIx : D → D → Option D
  | .lst l, .int i => atI l i
  | .scr l, .int i => atI l i
  | .tup l, .int i => atI l i
  | .str z, .int i => if z.length ≤ 100000 then (atI z.cps.toList i).map fun c => .str ⟨#[c]⟩ else none
  | _, _ => none
theorem atI_dr {M : Addr → Prop} {H : Hp} {l : List D} {xs : List V} {i : Int} {d : D} (r : DrL G M H l xs) (h : atI l i = some d) : ∃ v, atI xs i = some v ∧ Dr G M H d v := by
  unfold atI at h ⊢
  rw [r.length]
  cases e : ixN l.length i with
  | none => rw [e] at h; cases h
  | some j =>
    rw [e] at h
    exact r.get h
theorem od_ix : OpD G (rIx G.K) dIx := by
  intro ι M H dx dy d x y Q hm rx ry e hq
  cases dx with
  | lst l =>
    cases dy with
    | int i =>
      obtain ⟨a, xs, rfl, nx, sx, qx⟩ := rx
      have ry : y = .int i := ry
      subst ry
      obtain ⟨v, ev, rv⟩ := atI_dr qx (show atI l i = some d from e)
      exact .inl ⟨a, xs, i, v, rfl, rfl, SqL.of sx, ev, hq _ _ (.refl _ _) rv⟩
    | _ => cases e
  | scr l =>
    cases dy with
    | int i =>
      obtain ⟨a, xs, rfl, sx, qx⟩ := rx
      have ry : y = .int i := ry
      subst ry
      obtain ⟨v, ev, rv⟩ := atI_dr qx (show atI l i = some d from e)
      exact .inl ⟨a, xs, i, v, rfl, rfl, sx.sq, ev, hq _ _ (.refl _ _) rv⟩
    | _ => cases e
  | tup l =>
    cases dy with
    | int i =>
      obtain ⟨a, xs, rfl, sx, qx⟩ := rx
      have ry : y = .int i := ry
      subst ry
      obtain ⟨v, ev, rv⟩ := atI_dr qx (show atI l i = some d from e)
      exact .inr (.inl ⟨a, xs, i, v, rfl, rfl, sx.sq, ev, hq _ _ (.refl _ _) rv⟩)
    | _ => cases e
  | str z =>
    cases dy with
    | int i =>
      have rx : x = .str z := rx
      have ry : y = .int i := ry
      subst rx ry
      unfold dIx at e
      dsimp only at e
      split at e
      · rename_i hz
        cases q : atI z.cps.toList i with
        | none => rw [q] at e; cases e
        | some c =>
          rw [q] at e
          cases e
          exact .inr (.inr ⟨z, i, c, rfl, rfl, big hz, q, hq _ _ (.refl _ _) rfl⟩)
      · cases e
    | _ => cases e
  | _ => cases e

/-! ### ==, in -/
mutual
/-- Python's == -/
def deq : D → D → Bool
  | .non, .non => true
  | .bl a, .bl b => a == b
  | .bl a, .int j => (if a then 1 else 0) == j
  | .int i, .bl b => i == (if b then 1 else 0)
  | .int i, .int j => i == j
  | .str x, .str y => x == y
  | .lst xs, .lst ys => deqL xs ys
  | .tup xs, .tup ys => deqL xs ys
  | _, _ => false
def deqL : List D → List D → Bool
  | [], [] => true
  | x :: xs, y :: ys => deq x y && deqL xs ys
  | _, _ => false
end
mutual
/-- data that == may be asked of -/
def fits : D → Nat → Bool
  | .non, _ | .bl _, _ | .int _, _ => true
  | .str x, _ => PyData.strOk x
  | .lst xs, n => match n with
    | 0 => false
    | n + 1 => fitsL xs n
  | .tup xs, n => match n with
    | 0 => false
    | n + 1 => fitsL xs n
  | .obj _ _, _ | .dic, _ | .ptup _, _ | .ptr _, _ | .fn _, _ | .scr _, _ => false
def fitsL : List D → Nat → Bool
  | [], _ => true
  | x :: xs, n => fits x n && fitsL xs n
end
mutual
def toPy : D → PyData
  | .non => .none
  | .bl b => .bool b
  | .int i => .int i
  | .str s => .str s
  | .lst xs => .list (toPyL xs)
  | .tup xs => .tuple (toPyL xs)
  | .obj _ _ => .none
  | .dic => .none
  | .ptup _ => .none
  | .ptr _ => .none
  | .fn _ => .none
  | .scr _ => .none
def toPyL : List D → List PyData
  | [] => []
  | x :: xs => toPy x :: toPyL xs
end
mutual
theorem eqv_deq : ∀ (a b : D) (n m : Nat), fits a n = true → fits b m = true → PyData.eqv (toPy a) (toPy b) = deq a b
  | .lst xs, .lst ys, n, m, ha, hb => by
    cases n with
    | zero => simp [fits] at ha
    | succ n =>
      cases m with
      | zero => simp [fits] at hb
      | succ m =>
        simp only [toPy, PyData.eqv, deq]
        exact eqv_deqL xs ys n m (by simpa [fits] using ha) (by simpa [fits] using hb)
  | .tup xs, .tup ys, n, m, ha, hb => by
    cases n with
    | zero => simp [fits] at ha
    | succ n =>
      cases m with
      | zero => simp [fits] at hb
      | succ m =>
        simp only [toPy, PyData.eqv, deq]
        exact eqv_deqL xs ys n m (by simpa [fits] using ha) (by simpa [fits] using hb)
  | .obj _ _, _, _, _, ha, _ => by simp [fits] at ha
  | .dic, _, _, _, ha, _ => by simp [fits] at ha
  | .ptup _, _, _, _, ha, _ => by simp [fits] at ha
  | .ptr _, _, _, _, ha, _ => by simp [fits] at ha
  | .fn _, _, _, _, ha, _ => by simp [fits] at ha
  | .scr _, _, _, _, ha, _ => by simp [fits] at ha
  | _, .obj _ _, _, _, _, hb => by simp [fits] at hb
  | _, .dic, _, _, _, hb => by simp [fits] at hb
  | _, .ptup _, _, _, _, hb => by simp [fits] at hb
  | _, .ptr _, _, _, _, hb => by simp [fits] at hb
  | _, .fn _, _, _, _, hb => by simp [fits] at hb
  | _, .scr _, _, _, _, hb => by simp [fits] at hb
  | .non, .non, _, _, _, _ | .non, .bl _, _, _, _, _ | .non, .int _, _, _, _, _ | .non, .str _, _, _, _, _ | .non, .lst _, _, _, _, _ | .non, .tup _, _, _, _, _ => by simp [toPy, PyData.eqv, deq]
  | .bl _, .non, _, _, _, _ | .bl _, .bl _, _, _, _, _ | .bl _, .int _, _, _, _, _ | .bl _, .str _, _, _, _, _ | .bl _, .lst _, _, _, _, _ | .bl _, .tup _, _, _, _, _ => by simp [toPy, PyData.eqv, deq]
  | .int _, .non, _, _, _, _ | .int _, .bl _, _, _, _, _ | .int _, .int _, _, _, _, _ | .int _, .str _, _, _, _, _ | .int _, .lst _, _, _, _, _ | .int _, .tup _, _, _, _, _ => by simp [toPy, PyData.eqv, deq]
  | .str _, .non, _, _, _, _ | .str _, .bl _, _, _, _, _ | .str _, .int _, _, _, _, _ | .str _, .str _, _, _, _, _ | .str _, .lst _, _, _, _, _ | .str _, .tup _, _, _, _, _ => by simp [toPy, PyData.eqv, deq]
  | .lst _, .non, _, _, _, _ | .lst _, .bl _, _, _, _, _ | .lst _, .int _, _, _, _, _ | .lst _, .str _, _, _, _, _ | .lst _, .tup _, _, _, _, _ => by simp [toPy, PyData.eqv, deq]
  | .tup _, .non, _, _, _, _ | .tup _, .bl _, _, _, _, _ | .tup _, .int _, _, _, _, _ | .tup _, .str _, _, _, _, _ | .tup _, .lst _, _, _, _, _ => by simp [toPy, PyData.eqv, deq]
theorem eqv_deqL : ∀ (a b : List D) (n m : Nat), fitsL a n = true → fitsL b m = true → PyData.eqvAll (toPyL a) (toPyL b) = deqL a b
  | [], [], _, _, _, _ => by simp [toPyL, PyData.eqvAll, deqL]
  | [], _ :: _, _, _, _, _ => by simp [toPyL, PyData.eqvAll, deqL]
  | _ :: _, [], _, _, _, _ => by simp [toPyL, PyData.eqvAll, deqL]
  | x :: xs, y :: ys, n, m, ha, hb => by
    simp only [fitsL, Bool.and_eq_true] at ha hb
    simp only [toPyL, PyData.eqvAll, deqL]
    rw [eqv_deq x y n m ha.1 hb.1, eqv_deqL xs ys n m ha.2 hb.2]
end
mutual
theorem fits_lay : ∀ (a : D) (n : Nat), fits a n = true → (toPy a).canLay0 = true ∧ (toPy a).depth ≤ n
  | .non, _, _ | .bl _, _, _ | .int _, _, _ => by simp [toPy, PyData.canLay0, PyData.depth]
  | .str x, _, h => by simpa [toPy, PyData.canLay0, PyData.depth, fits] using h
  | .lst xs, n, h => by
    cases n with
    | zero => simp [fits] at h
    | succ n =>
      have q := fits_layL xs n (by simpa [fits] using h)
      refine ⟨by simpa [toPy, PyData.canLay0] using q.1, ?_⟩
      have := q.2
      simp only [toPy, PyData.depth]
      omega
  | .tup xs, n, h => by
    cases n with
    | zero => simp [fits] at h
    | succ n =>
      have q := fits_layL xs n (by simpa [fits] using h)
      refine ⟨by simpa [toPy, PyData.canLay0] using q.1, ?_⟩
      have := q.2
      simp only [toPy, PyData.depth]
      omega
  | .obj _ _, _, h => by simp [fits] at h
  | .dic, _, h => by simp [fits] at h
  | .ptup _, _, h => by simp [fits] at h
  | .ptr _, _, h => by simp [fits] at h
  | .fn _, _, h => by simp [fits] at h
  | .scr _, _, h => by simp [fits] at h
theorem fits_layL : ∀ (a : List D) (n : Nat), fitsL a n = true → PyData.canLayAll0 (toPyL a) = true ∧ PyData.depthAll (toPyL a) ≤ n
  | [], _, _ => by simp [toPyL, PyData.canLayAll0, PyData.depthAll]
  | x :: xs, n, h => by
    simp only [fitsL, Bool.and_eq_true] at h
    have q1 := fits_lay x n h.1
    have q2 := fits_layL xs n h.2
    refine ⟨by simp [toPyL, PyData.canLayAll0, q1.1, q2.1], ?_⟩
    have h1 := q1.2
    have h2 := q2.2
    simp only [toPyL, PyData.depthAll]
    omega
end
theorem fits_shaped {a : D} {n : Nat} (h : fits a n = true) (hn : n ≤ 64) : SeqAt.shaped (toPy a) = true := by
  have q := fits_lay a n h
  unfold SeqAt.shaped
  rw [q.1, Bool.true_and]
  exact decide_eq_true (Nat.le_trans q.2 hn)
mutual
theorem Dr.dp {M : Addr → Prop} {H : Hp} : ∀ (d : D) (n : Nat) (v : V), fits d n = true → Dr G M H d v → Dp G.K H v (toPy d)
  | .non, _, v, _, r => by rw [show v = .non from r]; exact .non
  | .bl b, _, v, _, r => by rw [show v = .bl b from r]; exact .bl b
  | .int b, _, v, _, r => by rw [show v = .int b from r]; exact .int b
  | .str b, _, v, _, r => by rw [show v = .str b from r]; exact .str b
  | .lst l, n, v, h, r => by
    cases n with
    | zero => simp [fits] at h
    | succ n =>
      obtain ⟨a, xs, rfl, _, s, q⟩ := r
      simp only [toPy]
      exact .lst (SqL.of s) (DrL.dp l n xs (by simpa [fits] using h) q)
  | .tup l, n, v, h, r => by
    cases n with
    | zero => simp [fits] at h
    | succ n =>
      obtain ⟨a, xs, rfl, s, q⟩ := r
      simp only [toPy]
      exact .tup s.sq (DrL.dp l n xs (by simpa [fits] using h) q)
  | .obj _ _, _, _, h, _ => by simp [fits] at h
  | .dic, _, _, h, _ => by simp [fits] at h
  | .ptup _, _, _, h, _ => by simp [fits] at h
  | .ptr _, _, _, h, _ => by simp [fits] at h
  | .fn _, _, _, h, _ => by simp [fits] at h
  | .scr _, _, _, h, _ => by simp [fits] at h
theorem DrL.dp {M : Addr → Prop} {H : Hp} : ∀ (ds : List D) (n : Nat) (vs : List V), fitsL ds n = true → DrL G M H ds vs → DpAll G.K H vs (toPyL ds)
  | [], _, vs, _, r => by rw [show vs = [] from r]; exact .nil
  | d :: ds, n, vs, h, r => by
    obtain ⟨v, ws, rfl, q, t⟩ := r
    simp only [fitsL, Bool.and_eq_true] at h
    simp only [toPyL]
    exact .cons (Dr.dp d n v h.1 q) (DrL.dp ds n ws h.2 t)
end
/-- two texts -/
def bothS : D → D → Bool
  | .str _, .str _ => true
  | _, _ => false
theorem bothS_ok {a b : D} (h : bothS a b = true) : ∃ x y, a = .str x ∧ b = .str y := by
  cases a with
  | str x =>
    cases b with
    | str y => exact ⟨x, y, rfl, rfl⟩
    | _ => cases h
  | _ => cases h
def dEq (a b : D) : Option D := if (bothS a b || (fits a 40 && fits b 40)) = true then some (.bl (deq a b)) else none
def dNe (a b : D) : Option D := if (bothS a b || (fits a 40 && fits b 40)) = true then some (.bl (!deq a b)) else none
theorem dec_str {i j : Str} : decide (V.str i = V.str j) = (i == j) := by
  rw [Bool.eq_iff_iff]
  simp
theorem op_eqB {X : Cx} (hu : X.A.units + 64 < cLine) : OpR X (compareOp .Eq) (fun x y H Q => rEq x y H Q ∨ rEqD X.K x y H Q) := op_eq.or (op_eqD hu)
theorem op_neB {X : Cx} (hu : X.A.units + 64 < cLine) : OpR X (compareOp .NotEq) (fun x y H Q => rNe x y H Q ∨ rNeD X.K x y H Q) := op_ne.or (op_neD hu)
theorem od_eq : OpD G (fun x y H Q => rEq x y H Q ∨ rEqD G.K x y H Q) dEq := by
  intro ι M H dx dy d x y Q hm rx ry e hq
  unfold dEq at e
  split at e
  · rename_i h
    cases e
    rcases Bool.or_eq_true_iff.mp h with h | h
    · obtain ⟨a, b, rfl, rfl⟩ := bothS_ok h
      obtain rfl : x = .str a := rx
      obtain rfl : y = .str b := ry
      refine .inl ⟨rfl, ?_⟩
      rw [dec_str]
      exact hq _ _ (.refl _ _) rfl
    · rw [Bool.and_eq_true] at h
      refine .inr ⟨toPy dx, toPy dy, Dr.dp (G := G.at ι) _ _ _ h.1 rx, Dr.dp (G := G.at ι) _ _ _ h.2 ry, fits_shaped h.1 (by decide), fits_shaped h.2 (by decide), ?_⟩
      rw [eqv_deq _ _ _ _ h.1 h.2]
      exact hq _ _ (.refl _ _) rfl
  · cases e
theorem od_ne : OpD G (fun x y H Q => rNe x y H Q ∨ rNeD G.K x y H Q) dNe := by
  intro ι M H dx dy d x y Q hm rx ry e hq
  unfold dNe at e
  split at e
  · rename_i h
    cases e
    rcases Bool.or_eq_true_iff.mp h with h | h
    · obtain ⟨a, b, rfl, rfl⟩ := bothS_ok h
      obtain rfl : x = .str a := rx
      obtain rfl : y = .str b := ry
      refine .inl ⟨rfl, ?_⟩
      rw [dec_str]
      exact hq _ _ (.refl _ _) rfl
    · rw [Bool.and_eq_true] at h
      refine .inr ⟨toPy dx, toPy dy, Dr.dp (G := G.at ι) _ _ _ h.1 rx, Dr.dp (G := G.at ι) _ _ _ h.2 ry, fits_shaped h.1 (by decide), fits_shaped h.2 (by decide), ?_⟩
      rw [eqv_deq _ _ _ _ h.1 h.2]
      exact hq _ _ (.refl _ _) rfl
  · cases e
end
end Ph
end
section
set_option Elab.async false
set_option linter.all false
set_option maxRecDepth 100000
/-! Ph, part D: statements (tS), targets, walks, loops. -/
namespace Ph
open PySem PySem.Spec PyProof.Rows L2

/-- how a statement ends -/
inductive Fl where
  | nx (ρ : En) (π : Store) | rt (d : D) (π : Store) | bk (ρ : En) (π : Store) | ct (ρ : En) (π : Store)
abbrev SS := En → Store → Res Fl
/-- what is wanted behind a statement that began at (ι, π, H) -/
def Fw (F : Fx) (ι : List Addr) (π : Store) (H : Hp) (D : Ends) : Fl → Prop
  | .nx ρ π' => ∀ ι' σ' H', At F ι' σ' ρ π' H' → Gr Nm ι π H ι' π' H' → D.nx σ' H'
  | .rt d π' => ∀ v ι' H', Wo F ι' π' H' → Gr Nm ι π H ι' π' H' → Dr (F.G.at ι') (Mu F.M0 ι' π') H' d v → D.rt v H'
  | .bk ρ π' => ∀ ι' σ' H', At F ι' σ' ρ π' H' → Gr Nm ι π H ι' π' H' → D.bk σ' H'
  | .ct ρ π' => ∀ ι' σ' H', At F ι' σ' ρ π' H' → Gr Nm ι π H ι' π' H' → D.ct σ' H'
def tS (F : Fx) (E : XK) (f : SS) : TS := fun D σ H => ∃ ι ρ π, At F ι σ ρ π H ∧ Go F E (f ρ π) (Fw F ι π H D)
theorem Fw.from {F : Fx} {ι ι1 : List Addr} {π π1 : Store} {H H1 : Hp} {D : Ends} (g : Gr Nm ι π H ι1 π1 H1) (fl : Fl) (h : Fw F ι π H D fl) : Fw F ι1 π1 H1 D fl := by
  cases fl with
  | nx ρ π' => exact fun ι' σ' H' A g' => h ι' σ' H' A (g.trans g')
  | rt d π' => exact fun v ι' H' W g' r => h v ι' H' W (g.trans g') r
  | bk ρ π' => exact fun ι' σ' H' A g' => h ι' σ' H' A (g.trans g')
  | ct ρ π' => exact fun ι' σ' H' A g' => h ι' σ' H' A (g.trans g')
theorem _root_.L2.PS.weak {X : Cx} {e : Stmt} {t t' : TS} (h : PS X e t) (w : ∀ D σ H, t' D σ H → t D σ H) : PS X e t' := ⟨fun pins s σ H D I q => h.run pins s σ H D I (w D σ H q)⟩
theorem _root_.L2.PSs.weak {X : Cx} {e : List Stmt} {t t' : TS} (h : PSs X e t) (w : ∀ D σ H, t' D σ H → t D σ H) : PSs X e t' := ⟨fun pins s σ H D I q => h.run pins s σ H D I (w D σ H q)⟩
theorem _root_.L2.PG.weak {X : Cx} {e : Expr} {t t' : TG} (h : PG X e t) (w : ∀ v σ H Q, t' v σ H Q → t v σ H Q) : PG X e t' := ⟨fun pins s σ H v u Q I r q => h.run pins s σ H v u Q I r (w v σ H Q q)⟩
theorem _root_.L2.PI.weak {X : Cx} {tg e : Expr} {t t' : TI} (h : PI X tg e t) (w : ∀ σ H R, t' σ H R → t σ H R) : PI X tg e t' := ⟨fun pins s σ H R I q => h.run pins s σ H R I (w σ H R q)⟩
theorem _root_.L2.PTs.weak {X : Cx} {e : List Expr} {t t' : TT} (h : PTs X e t) (w : ∀ σ H Q, t' σ H Q → t σ H Q) : PTs X e t' := ⟨fun pins s σ H Q I q => h.run pins s σ H Q I (w σ H Q q)⟩

/-! ### small statements -/
def sNil : SS := fun ρ π => .ok (.nx ρ π)
def sSeq (f g : SS) : SS := fun ρ π => (f ρ π).bind fun fl => match fl with
  | .nx ρ1 π1 => g ρ1 π1
  | x => .ok x
def sRet (e : SE) : SS := fun ρ π => (e ρ π).bind fun p => .ok (.rt p.1 p.2)
def sRetN : SS := fun _ π => .ok (.rt .non π)
def sIf (c : ST) (f g : SS) : SS := fun ρ π => (c ρ π).bind fun p => if p.1 = true then f ρ p.2 else g ρ p.2
def sSet (i : Nat) (e : SE) : SS := fun ρ π => (e ρ π).bind fun p => .ok (.nx (ρ.set i (some p.1)) p.2)
def sExpr (e : SE) : SS := fun ρ π => (e ρ π).bind fun p => .ok (.nx ρ p.2)
/-- a statement that is not told -/
def sFail : SS := fun _ _ => .fail
section
variable {X : Cx} {F : Fx} {E : XK} {st : Stmt} {rest body orelse : List Stmt} {e c : Expr} {pos pos' : Pos} {f g : SS} {fe : SE} {ft : ST}
theorem ss_nil : PSs X [] (tS F E sNil) := pss_nil.weak fun D σ H h => by
  obtain ⟨ι, ρ, π, A, h⟩ := h
  exact h ι σ H A (.refl _ _ _ _)
theorem ss_cons (h1 : PS X st (tS F E f)) (h2 : PSs X rest (tS F E g)) : PSs X (st :: rest) (tS F E (sSeq f g)) :=
  (pss_cons h1 h2).weak fun D σ H h => by
    obtain ⟨ι, ρ, π, A, h⟩ := h
    refine ⟨ι, ρ, π, A, Go.mono (fun fl hf => ?_) (Go.bind h)⟩
    cases fl with
    | nx ρ1 π1 => exact fun ι1 σ1 H1 A1 S1 => ⟨ι1, ρ1, π1, A1, Go.mono (Fw.from S1) hf⟩
    | rt d π1 => exact hf
    | bk ρ1 π1 => exact hf
    | ct ρ1 π1 => exact hf
theorem ss_one (h1 : PS X st (tS F E f)) : PSs X [st] (tS F E f) := pss_one h1
theorem s_ret (he : PE X e (tX F E fe)) : PS X (.Return (some e) pos) (tS F E (sRet fe)) := (ps_ret he).weak fun D σ H h => by
  obtain ⟨ι, ρ, π, A, h⟩ := h
  refine ⟨ι, ρ, π, A, Go.mono (fun p hp v ι' H' A1 e1 r1 => ?_) (Go.bind h)⟩
  exact hp v ι' H' A1.wo e1 r1
theorem s_retN : PS X (.Return none pos) (tS F E sRetN) := ps_retN.weak fun D σ H h => by
  obtain ⟨ι, ρ, π, A, h⟩ := h
  exact h .non ι H A.wo (.refl _ _ _ _) rfl
theorem s_if (hc : PT X c (tXT F E ft)) (ha : PSs X body (tS F E f)) (hb : PSs X orelse (tS F E g)) : PS X (.If c body orelse pos) (tS F E (sIf ft f g)) := (ps_if hc ha hb).weak fun D σ H h => by
  obtain ⟨ι, ρ, π, A, h⟩ := h
  refine ⟨ι, ρ, π, A, Go.mono (fun p hp ι' H' A1 e1 => ?_) (Go.bind h)⟩
  obtain ⟨k, π1⟩ := p
  cases k with
  | true =>
    show tS F E f D σ H'
    exact ⟨ι', ρ, π1, A1, Go.mono (Fw.from e1) hp⟩
  | false =>
    show tS F E g D σ H'
    exact ⟨ι', ρ, π1, A1, Go.mono (Fw.from e1) hp⟩
theorem s_set {i : Nat} {x : Str} (hN : X.N.Nodup) (he : PE X e (tX F E fe)) (hi : X.N[i]? = some x := by rfl) (hx : Loc X.env.scope x := by first | exact .inl rfl | exact .inr rfl)
    (hs : swapsWith e (some (.Name x pos')) pos.line X.env = pure false := by rfl) (hf : X.fn x = true ∨ X.env.scope.names.lookup x = some .local := by first | exact .inl rfl | exact .inr rfl | assumption) :
    PS X (.Assign [.Name x pos'] e pos) (tS F E (sSet i fe)) := (ps_set hN hi hx he hs hf).weak fun D σ H h => by
  obtain ⟨ι, ρ, π, A, h⟩ := h
  refine ⟨ι, ρ, π, A, Go.mono (fun p hp v ι' H' A1 e1 r1 => ?_) (Go.bind h)⟩
  exact hp ι' (σ.set i (some v)) H' (A1.set r1) e1
theorem s_expr (he : PE X e (tX F E fe)) (hs : swapsWith e none pos.line X.env = pure false := by rfl) : PS X (.Expr e pos) (tS F E (sExpr fe)) := (ps_expr he hs).weak fun D σ H h => by
  obtain ⟨ι, ρ, π, A, h⟩ := h
  exact ⟨ι, ρ, π, A, Go.mono (fun p hp v ι' H' A1 e1 r1 => hp ι' σ H' A1 e1) (Go.bind h)⟩
theorem s_pass : PS X (.Pass pos) (tS F E sNil) := ps_pass.weak fun D σ H h => by
  obtain ⟨ι, ρ, π, A, h⟩ := h
  exact h ι σ H A (.refl _ _ _ _)
theorem s_doc {x j pos pos'} : PS X (.Expr (.Constant (.str x) j pos) pos') (tS F E sNil) := ps_doc.weak fun D σ H h => by
  obtain ⟨ι, ρ, π, A, h⟩ := h
  exact h ι σ H A (.refl _ _ _ _)
def sBreak : SS := fun ρ π => .ok (.bk ρ π)
def sCont : SS := fun ρ π => .ok (.ct ρ π)
/-- a statement that is not told (where the data never come) -/
theorem s_fail : PS X st (tS F E sFail) := (ps_never (st := st)).weak fun D σ H h => by
  obtain ⟨ι, ρ, π, A, h⟩ := h
  exact h
end

/-! ### targets -/
abbrev STg := D → En → Store → Res (En × Store)
def tTg (F : Fx) (E : XK) (js : List Nat) (h : STg) : TG := fun v σ H Q => ∃ ι ρ π d, At F ι σ ρ π H ∧ Dr (F.G.at ι) (Mu F.M0 ι π) H d v ∧ Go F E (h d ρ π) fun q =>
  ∀ ι' σ' H', At F ι' σ' q.1 q.2 H' → Gr Nm ι π H ι' q.2 H' → (∀ i, i ∉ js → σ'[i]? = σ[i]?) → σ'.length = σ.length → Q σ' H'
def gN (i : Nat) : STg := fun d ρ π => .ok (ρ.set i (some d), π)
def gT2 (i j : Nat) : STg := fun d ρ π => match d with
  | .tup [a, b] => .ok ((ρ.set i (some a)).set j (some b), π)
  | .ptup [a, b] => .ok ((ρ.set i (some a)).set j (some b), π)
  | _ => .fail
def gT3 (i j k : Nat) : STg := fun d ρ π => match d with
  | .tup [a, b, c] => .ok (((ρ.set i (some a)).set j (some b)).set k (some c), π)
  | .ptup [a, b, c] => .ok (((ρ.set i (some a)).set j (some b)).set k (some c), π)
  | _ => .fail
section
variable {X : Cx} {F : Fx} {E : XK} {pos p1 p2 p3 : Pos}
theorem xg_name {i : Nat} {x : Str} (hN : X.N.Nodup) (hi : X.N[i]? = some x := by rfl) (hx : Loc X.env.scope x := by first | exact .inl rfl | exact .inr rfl)
    (hf : X.fn x = true ∨ X.env.scope.names.lookup x = some .local := by first | exact .inl rfl | exact .inr rfl | assumption) : PG X (.Name x pos) (tTg F E [i] (gN i)) := (pg_name hN hi hx hf).weak fun v σ H Q h => by
  obtain ⟨ι, ρ, π, d, A, r, h⟩ := h
  exact h ι (σ.set i (some v)) H (A.set r) (.refl _ _ _ _) (fun j hj => List.getElem?_set_ne (fun z => hj (by rw [z]; exact List.mem_cons_self))) (List.length_set ..)
theorem xg_tup2 {i j : Nat} {x y : Str} {k : Nat} (hK : F.G.K = X.K) (hc : X.calm = true) (hN : X.N.Nodup) (hi : X.N[i]? = some x := by rfl) (hj : X.N[j]? = some y := by rfl) (hx : Loc X.env.scope x := by first | exact .inl rfl | exact .inr rfl) (hy : Loc X.env.scope y := by first | exact .inl rfl | exact .inr rfl)
    (hfx : X.fn x = true ∨ X.env.scope.names.lookup x = some .local := by first | exact .inl rfl | exact .inr rfl | assumption) (hfy : X.fn y = true ∨ X.env.scope.names.lookup y = some .local := by first | exact .inl rfl | exact .inr rfl | assumption)
    (hs1 : (assignEach [.Name x p1, .Name y p2] X.env).map (·.2) = assign (.Name x p1) X.env :: (assignEach [.Name y p2] X.env).map (·.2) := by rfl) (hs2 : (assignEach [.Name y p2] X.env).map (·.2) = assign (.Name y p2) X.env :: (assignEach [] X.env).map (·.2) := by rfl)
    (hn : (assignEach [.Name x p1, .Name y p2] X.env).length = 2 := by rfl) (hst : (assignEach [.Name x p1, .Name y p2] X.env).findIdx? (·.1) = none := by rfl) :
    PG X (.Tuple [.Name x p1, .Name y p2] k pos) (tTg F E [i, j] (gT2 i j)) :=
  (pg_tup hc (pgs_cons (pg_name hN hi hx hfx) (pgs_cons (pg_name hN hj hy hfy) pgs_nil hs2) hs1) hn hst).weak fun v σ H Q h => by
    obtain ⟨ι, ρ, π, d, A, r, h⟩ := h
    have go : ∀ a1 b1, (∃ a xs, v = .ref a ∧ SqT F.G.K H a xs ∧ DrL (F.G.at ι) (Mu F.M0 ι π) H [a1, b1] xs) → (∀ ι' σ' H', At F ι' σ' ((ρ.set i (some a1)).set j (some b1)) π H' → Gr Nm ι π H ι' π H' → (∀ m, m ∉ [i, j] → σ'[m]? = σ[m]?) → σ'.length = σ.length → Q σ' H') →
        gTup X.K 2 (gCons (gName i) (gCons (gName j) gNil)) v σ H Q := fun a1 b1 r h => by
      obtain ⟨a, xs, rfl, s, q⟩ := r
      obtain ⟨v1, w1, rfl, r1, q⟩ := q
      obtain ⟨v2, w2, rfl, r2, q⟩ := q
      obtain rfl : w2 = [] := q
      rw [← hK]
      exact ⟨a, _, rfl, s, rfl, v1, _, rfl, v2, _, rfl, rfl, h ι ((σ.set i (some v1)).set j (some v2)) H ((A.set r1).set r2) (.refl _ _ _ _) (fun m hm => by
        rw [List.getElem?_set_ne (fun z => hm (by rw [z]; simp)), List.getElem?_set_ne (fun z => hm (by rw [z]; simp))]) (by simp)⟩
    unfold gT2 at h
    split at h
    · rename_i a1 b1
      obtain ⟨a, xs, ev, s, q⟩ := r
      exact go a1 b1 ⟨a, xs, ev, s.sq, q⟩ h
    · rename_i a1 b1
      exact go a1 b1 r h
    · exact h.elim
theorem xg_tup3 {i j l : Nat} {x y z : Str} {k : Nat} (hK : F.G.K = X.K) (hc : X.calm = true) (hN : X.N.Nodup) (hi : X.N[i]? = some x := by rfl) (hj : X.N[j]? = some y := by rfl) (hl : X.N[l]? = some z := by rfl) (hx : Loc X.env.scope x := by first | exact .inl rfl | exact .inr rfl) (hy : Loc X.env.scope y := by first | exact .inl rfl | exact .inr rfl) (hz : Loc X.env.scope z := by first | exact .inl rfl | exact .inr rfl)
    (hfx : X.fn x = true ∨ X.env.scope.names.lookup x = some .local := by first | exact .inl rfl | exact .inr rfl | assumption) (hfy : X.fn y = true ∨ X.env.scope.names.lookup y = some .local := by first | exact .inl rfl | exact .inr rfl | assumption) (hfz : X.fn z = true ∨ X.env.scope.names.lookup z = some .local := by first | exact .inl rfl | exact .inr rfl | assumption)
    (hs1 : (assignEach [.Name x p1, .Name y p2, .Name z p3] X.env).map (·.2) = assign (.Name x p1) X.env :: (assignEach [.Name y p2, .Name z p3] X.env).map (·.2) := by rfl) (hs2 : (assignEach [.Name y p2, .Name z p3] X.env).map (·.2) = assign (.Name y p2) X.env :: (assignEach [.Name z p3] X.env).map (·.2) := by rfl)
    (hs3 : (assignEach [.Name z p3] X.env).map (·.2) = assign (.Name z p3) X.env :: (assignEach [] X.env).map (·.2) := by rfl)
    (hn : (assignEach [.Name x p1, .Name y p2, .Name z p3] X.env).length = 3 := by rfl) (hst : (assignEach [.Name x p1, .Name y p2, .Name z p3] X.env).findIdx? (·.1) = none := by rfl) :
    PG X (.Tuple [.Name x p1, .Name y p2, .Name z p3] k pos) (tTg F E [i, j, l] (gT3 i j l)) :=
  (pg_tup hc (pgs_cons (pg_name hN hi hx hfx) (pgs_cons (pg_name hN hj hy hfy) (pgs_cons (pg_name hN hl hz hfz) pgs_nil hs3) hs2) hs1) hn hst).weak fun v σ H Q h => by
    obtain ⟨ι, ρ, π, d, A, r, h⟩ := h
    have go : ∀ a1 b1 c1, (∃ a xs, v = .ref a ∧ SqT F.G.K H a xs ∧ DrL (F.G.at ι) (Mu F.M0 ι π) H [a1, b1, c1] xs) → (∀ ι' σ' H', At F ι' σ' (((ρ.set i (some a1)).set j (some b1)).set l (some c1)) π H' → Gr Nm ι π H ι' π H' → (∀ m, m ∉ [i, j, l] → σ'[m]? = σ[m]?) → σ'.length = σ.length → Q σ' H') →
        gTup X.K 3 (gCons (gName i) (gCons (gName j) (gCons (gName l) gNil))) v σ H Q := fun a1 b1 c1 r h => by
      obtain ⟨a, xs, rfl, s, q⟩ := r
      obtain ⟨v1, w1, rfl, r1, q⟩ := q
      obtain ⟨v2, w2, rfl, r2, q⟩ := q
      obtain ⟨v3, w3, rfl, r3, q⟩ := q
      obtain rfl : w3 = [] := q
      rw [← hK]
      exact ⟨a, _, rfl, s, rfl, v1, _, rfl, v2, _, rfl, v3, _, rfl, rfl, h ι (((σ.set i (some v1)).set j (some v2)).set l (some v3)) H (((A.set r1).set r2).set r3) (.refl _ _ _ _) (fun m hm => by
        rw [List.getElem?_set_ne (fun z => hm (by rw [z]; simp)), List.getElem?_set_ne (fun z => hm (by rw [z]; simp)), List.getElem?_set_ne (fun z => hm (by rw [z]; simp))]) (by simp)⟩
    unfold gT3 at h
    split at h
    · rename_i a1 b1 c1
      obtain ⟨a, xs, ev, s, q⟩ := r
      exact go a1 b1 c1 ⟨a, xs, ev, s.sq, q⟩ h
    · rename_i a1 b1 c1
      exact go a1 b1 c1 r h
    · exact h.elim
end

/-! ### what is walked -/
/-- a walk that yields data, whatever may change being changed -/
structure Wk (G : Gx) (ι : List Addr) (M : Addr → Prop) (J : It) (H1 : Hp) (ds : List D) : Prop where
  stop : ∀ i H', Ev M H1 H' → ds.length ≤ i → J.stop i H'
  go : ∀ i H', Ev M H1 H' → i < ds.length → J.go i H'
  yld : ∀ i x H' H'' d ι2 M2, Ev M H1 H' → ι <+: ι2 → (∀ a, M2 a → H1 a ≠ none → M a) → (∀ a, M2 a → H' a ≠ none) → ds[i]? = some d → J.yld i H' x H'' → Ev Nm H' H'' ∧ Dr (G.at ι2) M2 H'' d x
def tI (F : Fx) (E : XK) (f : SA) : TI := fun σ H R => ∃ ι ρ π, At F ι σ ρ π H ∧ Go F E (f ρ π) fun p =>
  ∀ J ι' H', At F ι' σ ρ p.2 H' → Gr Nm ι π H ι' p.2 H' → Wk F.G ι' (Mu F.M0 ι' p.2) J H' p.1 → R J H'
/-- the items of a list, of a tuple -/
def lst? : D → Res (List D)
  | .lst l => .ok l
  | _ => .fail
def tup? : D → Res (List D)
  | .tup l => .ok l
  | _ => .fail
@[simp] theorem lst?_lst (l : List D) : lst? (.lst l) = .ok l := rfl
@[simp] theorem tup?_tup (l : List D) : tup? (.tup l) = .ok l := rfl
def iL (e : SE) : SA := fun ρ π => (e ρ π).bind fun p => (lst? p.1).bind fun l => .ok (l, p.2)
def iT (e : SE) : SA := fun ρ π => (e ρ π).bind fun p => (tup? p.1).bind fun l => .ok (l, p.2)
/-- 0, 1, .. -/
def rangeD (lo hi : Int) : List D := (List.range (hi - lo).toNat).map fun i : Nat => D.int (lo + (i : Int))
def rng1 : List D → Res (List D)
  | [.int n] => if n ≤ 1000000 ∧ -1000000 ≤ n then .ok (rangeD 0 n) else .fail
  | _ => .fail
def rng2 : List D → Res (List D)
  | [.int m, .int n] => if n ≤ 1000000 ∧ -1000000 ≤ n ∧ m ≤ 1000000 ∧ -1000000 ≤ m then .ok (rangeD m n) else .fail
  | _ => .fail
def iR (g : List D → Res (List D)) (as : SA) : SA := fun ρ π => (as ρ π).bind fun p => (g p.1).bind fun l => .ok (l, p.2)
section
variable {X : Cx} {F : Fx} {E : XK} {tg e : Expr} {es : List Expr} {fe : SE} {as : SA} {p pos : Pos}
theorem wk_list {G : Gx} {ι : List Addr} {K : PySem.W.Frag} {M : Addr → Prop} {H1 : Hp} {a : Addr} {xs : List V} {ds : List D} (h : H1 a = some (.lst xs)) (n : ¬ M a) (r : DrL (G.at ι) M H1 ds xs) : Wk G ι M (Itl K a) H1 ds where
  stop := fun i H' x hi => ⟨xs, SqL.of (x.keep _ _ h n), by rw [r.length]; exact hi⟩
  go := fun i H' x hi => by
    obtain ⟨v, e, _⟩ := r.get (List.getElem?_eq_getElem hi)
    exact ⟨xs, v, SqL.of (x.keep _ _ h n), e⟩
  yld := fun i v H' H'' d ι2 M2 x p m m' hd y => by
    obtain ⟨rfl, y⟩ := y
    have e := y xs (SqL.of (x.keep _ _ h n))
    obtain ⟨u, e1, r1⟩ := r.get hd
    rw [e] at e1
    cases e1
    exact ⟨.refl _ _, Dr.mv p x m _ _ r1⟩
theorem wk_tup {G : Gx} {ι : List Addr} {M : Addr → Prop} {H1 : Hp} {a : Addr} {xs : List V} {ds : List D} (h : SqT G.K H1 a xs) (r : DrL (G.at ι) M H1 ds xs) : Wk G ι M (Itt G.K a) H1 ds where
  stop := fun i H' x hi => ⟨xs, sqT_ev x h, by rw [r.length]; exact hi⟩
  go := fun i H' x hi => by
    obtain ⟨v, e, _⟩ := r.get (List.getElem?_eq_getElem hi)
    exact ⟨xs, v, sqT_ev x h, e⟩
  yld := fun i v H' H'' d ι2 M2 x p m m' hd y => by
    obtain ⟨rfl, y⟩ := y
    have e := y xs (sqT_ev x h)
    obtain ⟨u, e1, r1⟩ := r.get hd
    rw [e] at e1
    cases e1
    exact ⟨.refl _ _, Dr.mv p x m _ _ r1⟩
theorem wk_range {G : Gx} {ι : List Addr} {M : Addr → Prop} {H1 : Hp} {lo hi : Int} : Wk G ι M (Itr lo (hi - lo).toNat) H1 (rangeD lo hi) where
  stop := fun i H' x h => by
    have e : (rangeD lo hi).length = (hi - lo).toNat := by unfold rangeD; simp
    rw [e] at h
    exact h
  go := fun i H' x h => by
    have e : (rangeD lo hi).length = (hi - lo).toNat := by unfold rangeD; simp
    rw [e] at h
    exact h
  yld := fun i v H' H'' d ι2 M2 x p m m' hd y => by
    obtain ⟨rfl, rfl⟩ := y
    unfold rangeD at hd
    rw [List.getElem?_map] at hd
    cases e : (List.range (hi - lo).toNat)[i]? with
    | none => rw [e] at hd; cases hd
    | some j =>
      rw [e] at hd
      cases hd
      obtain ⟨h1, h2⟩ := List.getElem?_eq_some_iff.mp e
      rw [List.getElem_range] at h2
      subst h2
      exact ⟨.refl _ _, rfl⟩
theorem xi_list (hK : F.G.K = X.K) (he : PE X e (tX F E fe)) : PI X tg e (tI F E (iL fe)) := (pi_list he).weak fun σ H R h => by
  obtain ⟨ι, ρ, π, A, h⟩ := h
  refine ⟨ι, ρ, π, A, Go.mono (fun q hq v ι' H' A1 e1 r1 => ?_) (Go.bind h)⟩
  have hq := Go.bind hq
  cases e : q.1 with
  | lst l =>
    rw [e] at r1 hq
    obtain ⟨a, xs, rfl, n, s, r⟩ := r1
    exact ⟨a, rfl, ⟨xs, SqL.of s⟩, hq _ ι' H' A1 e1 (wk_list s n r)⟩
  | _ => rw [e] at hq; exact hq.elim
theorem xi_tup (hK : F.G.K = X.K) (he : PE X e (tX F E fe)) : PI X tg e (tI F E (iT fe)) := (pi_tup he).weak fun σ H R h => by
  obtain ⟨ι, ρ, π, A, h⟩ := h
  refine ⟨ι, ρ, π, A, Go.mono (fun q hq v ι' H' A1 e1 r1 => ?_) (Go.bind h)⟩
  have hq := Go.bind hq
  cases e : q.1 with
  | tup l =>
    rw [e] at r1 hq
    obtain ⟨a, xs, rfl, s, r⟩ := r1
    rw [← hK]
    exact ⟨a, rfl, ⟨xs, s.sq⟩, hq _ ι' H' A1 e1 (wk_tup s.sq r)⟩
  | _ => rw [e] at hq; exact hq.elim
theorem xi_range1 (hm : X.mg "range" = none) (ha : PA X [e] (tXA F E as)) (hg : Gl X "range" := by rfl) (hs : starEach [e] X.env = [(false, eval e X.env)] := by rfl) : PI X tg (.Call (.Name "range" p) [e] [] pos) (tI F E (iR rng1 as)) :=
  (pi_range1 hg hm ha hs).weak fun σ H R h => by
    obtain ⟨ι, ρ, π, A, h⟩ := h
    refine ⟨ι, ρ, π, A, Go.mono (fun q hq vs ι' H' A1 e1 r1 => ?_) (Go.bind h)⟩
    have hq := Go.bind hq
    unfold rng1 at hq
    split at hq
    · rename_i n e
      rw [e] at r1
      obtain ⟨v, ws, rfl, q1, q2⟩ := r1
      obtain rfl : v = .int n := q1
      obtain rfl : ws = [] := q2
      split at hq
      · rename_i hn
        have en : n.toNat = (n - 0).toNat := by rw [Int.sub_zero]
        refine ⟨n, rfl, by omega, by omega, ?_⟩
        rw [en]
        exact hq _ ι' H' A1 e1 wk_range
      · exact hq.elim
    · exact hq.elim
theorem xi_range2 {a b : Expr} (hm : X.mg "range" = none) (ha : PA X [a, b] (tXA F E as)) (hg : Gl X "range" := by rfl) (hs : starEach [a, b] X.env = [(false, eval a X.env), (false, eval b X.env)] := by rfl) (hs2 : starEach [b] X.env = [(false, eval b X.env)] := by rfl) :
    PI X tg (.Call (.Name "range" p) [a, b] [] pos) (tI F E (iR rng2 as)) :=
  (pi_range2 hg hm ha hs hs2).weak fun σ H R h => by
    obtain ⟨ι, ρ, π, A, h⟩ := h
    refine ⟨ι, ρ, π, A, Go.mono (fun q hq vs ι' H' A1 e1 r1 => ?_) (Go.bind h)⟩
    have hq := Go.bind hq
    unfold rng2 at hq
    split at hq
    · rename_i m n e
      rw [e] at r1
      obtain ⟨v, ws, rfl, q1, q2⟩ := r1
      obtain rfl : v = .int m := q1
      obtain ⟨v, ws, rfl, q1, q2⟩ := q2
      obtain rfl : v = .int n := q1
      obtain rfl : ws = [] := q2
      split at hq
      · rename_i hn
        exact ⟨m, n, rfl, ⟨by omega, by omega, by omega, by omega⟩, hq _ ι' H' A1 e1 wk_range⟩
      · exact hq.elim
    · exact hq.elim
end

/-! ### for -/
def sLoop (tg : STg) (body : SS) : List D → En → Store → Res Fl
  | [], ρ, π => .ok (.nx ρ π)
  | d :: ds, ρ, π => (tg d ρ π).bind fun q => (body q.1 q.2).bind fun fl => match fl with
    | .nx ρ2 π2 => sLoop tg body ds ρ2 π2
    | .ct ρ2 π2 => sLoop tg body ds ρ2 π2
    | .bk ρ2 π2 => .ok (.nx ρ2 π2)
    | .rt r π2 => .ok (.rt r π2)
def sFor (items : SA) (tg : STg) (body : SS) : SS := fun ρ π => (items ρ π).bind fun p => sLoop tg body p.1 ρ p.2
section
variable {X : Cx} {F : Fx} {js : List Nat} {E : XK} {tg iter : Expr} {body : List Stmt} {items : SA} {h : STg} {fb : SS} {pos : Pos}
theorem s_for (hp : PassesOwn (model X.prog X.w) X.A X.env X.xe) (hc : X.calm = true) (hi : PI X tg iter (tI F E items)) (hg : PG X tg (tTg F E js h)) (hb : PSs X body (tS F E fb))
    (hs : ∀ x, foldedSetIterable iter X.env x = pure x := by intro _; rfl) : PS X (.For tg iter body [] pos) (tS F E (sFor items h fb)) := (ps_for hp hc hi hg hb hs).weak fun D σ H hh => by
  obtain ⟨ι, ρ, π, A, hh⟩ := hh
  refine ⟨ι, ρ, π, A, Go.mono (fun p hq J ι1 H1 A1 e1 W => ?_) (Go.bind hh)⟩
  refine ⟨fun i m σ' H' => m = p.1.length - i ∧ i ≤ p.1.length ∧ ∃ ι' ρ' π', At F ι' σ' ρ' π' H' ∧ Gr Nm ι1 p.2 H1 ι' π' H' ∧ Go F E (sLoop h fb (p.1.drop i) ρ' π') (Fw F ι π H D), ⟨p.1.length, by simp, Nat.zero_le _, ι1, ρ, p.2, A1, .refl _ _ _ _, hq⟩, ?_⟩
  rintro i m σ' H' ⟨rfl, hle, ι', ρ', π', A', S', hl⟩
  have ev : Ev (Mu F.M0 ι1 p.2) H1 H' := S'.evM fun _ z => z.elim
  by_cases hlt : i < p.1.length
  · refine .inr ⟨W.go i H' ev hlt, fun σ2 H2 => i + 1 ≤ p.1.length ∧ ∃ ι' ρ' π', At F ι' σ2 ρ' π' H2 ∧ Gr Nm ι1 p.2 H1 ι' π' H2 ∧ Go F E (sLoop h fb (p.1.drop (i + 1)) ρ' π') (Fw F ι π H D), fun σ2 H2 ⟨z, q⟩ => ⟨p.1.length - (i + 1), by omega, rfl, z, q⟩, fun x H'' y => ?_⟩
    have hd : p.1[i]? = some p.1[i] := List.getElem?_eq_getElem hlt
    obtain ⟨ex, rx⟩ := W.yld i x H' H'' _ ι' (Mu F.M0 ι' π') ev S'.pre S'.mu A'.mx hd y
    have A'' := A'.same ex
    have S'' : Gr Nm ι1 p.2 H1 ι' π' H'' := S'.trans (.of_ev ex)
    rw [List.drop_eq_getElem_cons hlt] at hl
    have hl := Go.bind hl
    refine ⟨ι', ρ', π', p.1[i], A'', rx, Go.mono (fun q hq ι2 σ2 H2 A2 g2 same2 _ => ?_) hl⟩
    refine ⟨ι2, q.1, q.2, A2, Go.mono (fun fl hf => ?_) (Go.bind hq)⟩
    have T : ∀ {ι3 π3 H3}, Gr Nm ι2 q.2 H2 ι3 π3 H3 → Gr Nm ι1 p.2 H1 ι3 π3 H3 := fun S3 => (S''.trans g2).trans S3
    cases fl with
    | nx ρ3 π3 => exact fun ι3 σ3 H3 A3 S3 => ⟨hlt, ι3, ρ3, π3, A3, T S3, hf⟩
    | ct ρ3 π3 => exact fun ι3 σ3 H3 A3 S3 => ⟨hlt, ι3, ρ3, π3, A3, T S3, hf⟩
    | bk ρ3 π3 => exact fun ι3 σ3 H3 A3 S3 => hf ι3 σ3 H3 A3 (e1.trans (T S3))
    | rt d π3 => exact Fw.from (F := F) (D := D) (e1.trans (S''.trans g2)) (.rt d π3) hf
  · have e : i = p.1.length := by omega
    subst e
    refine .inl ⟨W.stop _ H' ev (Nat.le_refl _), ?_⟩
    rw [List.drop_length] at hl
    exact hl ι' σ' H' A' (e1.trans S')
end

/-! ### break, continue, while -/
section
variable {X : Cx} {F : Fx} {E : XK} {pos : Pos}
theorem s_break : PS X (.Break pos) (tS F E sBreak) := ps_break.weak fun D σ H h => by
  obtain ⟨ι, ρ, π, A, h⟩ := h
  exact h ι σ H A (.refl _ _ _ _)
theorem s_cont : PS X (.Continue pos) (tS F E sCont) := ps_continue.weak fun D σ H h => by
  obtain ⟨ι, ρ, π, A, h⟩ := h
  exact h ι σ H A (.refl _ _ _ _)
end
end Ph
end
section
set_option Elab.async false
set_option linter.all false
set_option maxRecDepth 100000
/-! Ph, part E: while; comprehensions. -/
namespace Ph
open PySem PySem.Spec PyProof.Rows L2

/-! ### while -/
def sWh (c : ST) (fb : SS) : Nat → En → Store → Res Fl
  | 0, _, _ => .fail
  | n + 1, ρ, π => (c ρ π).bind fun b => if b.1 = true then (fb ρ b.2).bind fun fl => match fl with
    | .nx ρ2 π2 => sWh c fb n ρ2 π2
    | .ct ρ2 π2 => sWh c fb n ρ2 π2
    | .bk ρ2 π2 => .ok (.nx ρ2 π2)
    | .rt r π2 => .ok (.rt r π2)
    else .ok (.nx ρ b.2)
open Classical in
/-- while c: body -/
noncomputable def sWhile (c : ST) (fb : SS) : SS := fun ρ π => if h : ∃ n, sWh c fb n ρ π ≠ .fail then sWh c fb h.choose ρ π else .fail
theorem sWh_more {c : ST} {fb : SS} : ∀ {n m : Nat} {ρ : En} {π : Store}, sWh c fb n ρ π ≠ .fail → n ≤ m → sWh c fb m ρ π = sWh c fb n ρ π
  | 0, _, _, _, h, _ => absurd rfl h
  | n + 1, 0, _, _, _, h => absurd h (by omega)
  | n + 1, m + 1, ρ, π, h, hm => by
    simp only [sWh] at h ⊢
    cases e : c ρ π with
    | fail => rfl
    | xc k d π' => rfl
    | ok b =>
      rw [e] at h
      simp only [Res.bind_ok] at h ⊢
      split
      · rename_i hb
        rw [if_pos hb] at h
        cases e2 : fb ρ b.2 with
        | fail => rfl
        | xc k d π' => rfl
        | ok fl =>
          rw [e2] at h
          simp only [Res.bind_ok] at h ⊢
          cases fl with
          | nx ρ2 π2 => exact sWh_more h (by omega)
          | ct ρ2 π2 => exact sWh_more h (by omega)
          | bk ρ2 π2 => rfl
          | rt d π2 => rfl
      · rfl
theorem sWhile_eq {c : ST} {fb : SS} {n : Nat} {ρ : En} {π : Store} (h : sWh c fb n ρ π ≠ .fail) : sWhile c fb ρ π = sWh c fb n ρ π := by
  unfold sWhile
  have ex : ∃ n, sWh c fb n ρ π ≠ .fail := ⟨n, h⟩
  rw [dif_pos ex]
  have hc := ex.choose_spec
  rcases Nat.le_total n ex.choose with z | z
  · exact sWh_more h z
  · exact (sWh_more hc z).symm
section
variable {X : Cx} {F : Fx} {E : XK} {c : Expr} {body : List Stmt} {ft : ST} {fb : SS} {pos : Pos}
theorem s_while (hp : PassesOwn (model X.prog X.w) X.A X.env X.xe) (hc : PT X c (tXT F E ft)) (hb : PSs X body (tS F E fb)) : PS X (.While c body [] pos) (tS F E (sWhile ft fb)) := (ps_while hp hc hb).weak fun D σ H hh => by
  obtain ⟨ι, ρ, π, A, hh⟩ := hh
  have nf : sWhile ft fb ρ π ≠ .fail := fun z => by rw [z] at hh; exact hh
  unfold sWhile at hh nf
  split at hh
  case isFalse => exact hh.elim
  rename_i ex
  refine ⟨fun m σ' H' => ∃ ι' ρ' π', At F ι' σ' ρ' π' H' ∧ Gr Nm ι π H ι' π' H' ∧ Go F E (sWh ft fb m ρ' π') (Fw F ι π H D), ⟨ex.choose, ι, ρ, π, A, .refl _ _ _ _, hh⟩, ?_⟩
  rintro m σ' H' ⟨ι', ρ', π', A', S', hl⟩
  cases m with
  | zero => exact hl.elim
  | succ n =>
    refine ⟨ι', ρ', π', A', Go.mono (fun b hq ι1 H1 A1 e1 => ?_) (Go.bind hl)⟩
    obtain ⟨k, π1⟩ := b
    cases k with
    | true =>
      refine ⟨fun σ2 H2 => ∃ ι2 ρ2 π2, At F ι2 σ2 ρ2 π2 H2 ∧ Gr Nm ι π H ι2 π2 H2 ∧ Go F E (sWh ft fb n ρ2 π2) (Fw F ι π H D), fun σ2 H2 q => ⟨n, Nat.lt_succ_self n, q⟩, ι1, ρ', π1, A1, Go.mono (fun fl hf => ?_) (Go.bind hq)⟩
      have S1 := S'.trans e1
      cases fl with
      | nx ρ3 π3 => exact fun ι3 σ3 H3 A3 S3 => ⟨ι3, ρ3, π3, A3, S1.trans S3, hf⟩
      | ct ρ3 π3 => exact fun ι3 σ3 H3 A3 S3 => ⟨ι3, ρ3, π3, A3, S1.trans S3, hf⟩
      | bk ρ3 π3 => exact fun ι3 σ3 H3 A3 S3 => hf ι3 σ3 H3 A3 (S1.trans S3)
      | rt d π3 => exact Fw.from (F := F) (D := D) S1 (.rt d π3) hf
    | false =>
      have hq : ∀ ι' σ' H', At F ι' σ' ρ' π1 H' → Gr Nm ι π H ι' π1 H' → D.nx σ' H' := hq
      show D.nx σ' H1
      exact hq ι1 σ' H1 A1 (S'.trans e1)
end

/-! ### comprehensions -/
/-- no exception leaves a comprehension -/
def noX {α : Type} : Res α → Res α
  | .ok a => .ok a
  | _ => .fail
theorem Go.noX {F F' : Fx} {E E' : XK} {α : Type} {r : Res α} {K : α → Prop} (h : Go F E (noX r) K) : Go F' E' r K := by
  cases r with
  | fail => exact h
  | ok a => exact h
  | xc c d => exact h.elim
@[simp] theorem noX_ok {α : Type} (a : α) : noX (Res.ok a) = .ok a := rfl
def wipeE (ρ : En) : List Nat → En
  | [] => ρ
  | v :: vs => (wipeE ρ vs).set v none
def lcLoop (tg : STg) (t : ST) (e : SE) : List D → En → Store → Res (List D × Store)
  | [], _, π => .ok ([], π)
  | d :: ds, ρ, π => (noX (tg d ρ π)).bind fun q => (noX (t q.1 q.2)).bind fun b =>
    if b.1 = true then (noX (e q.1 b.2)).bind fun y => (lcLoop tg t e ds ρ y.2).bind fun r => .ok (y.1 :: r.1, r.2)
    else lcLoop tg t e ds ρ b.2
def small5 {α : Type} (l : List D) (a : α) : Res α := if l.length ≤ 100000 then .ok a else .fail
def eLc (items : SA) (vs : List Nat) (tg : STg) (t : ST) (e : SE) : SE := fun ρ π => (items ρ π).bind fun p => (small5 p.1 ()).bind fun _ => (lcLoop tg t e p.1 (wipeE ρ vs) p.2).bind fun r => .ok (.lst r.1, r.2)
def tYesD : ST := fun _ π => .ok (true, π)
/-- two clauses: the second source's items, its own names, target and test -/
def small3 {α : Type} (l : List D) (a : α) : Res α := if l.length ≤ 300 then .ok a else .fail
def lcLoop2 (tg : STg) (t : ST) (items1 : SA) (vs1 : List Nat) (tg1 : STg) (t1 : ST) (e : SE) : List D → En → Store → Res (List D × Store)
  | [], _, π => .ok ([], π)
  | d :: ds, ρ, π => (noX (tg d ρ π)).bind fun q => (noX (t q.1 q.2)).bind fun b =>
    if b.1 = true then (noX (items1 q.1 b.2)).bind fun p => (small3 p.1 ()).bind fun _ => (lcLoop tg1 t1 e p.1 (wipeE q.1 vs1) p.2).bind fun y => (lcLoop2 tg t items1 vs1 tg1 t1 e ds ρ y.2).bind fun r => .ok (y.1 ++ r.1, r.2)
    else lcLoop2 tg t items1 vs1 tg1 t1 e ds ρ b.2
def eLc2 (items : SA) (vs vs1 : List Nat) (tg : STg) (t : ST) (items1 : SA) (tg1 : STg) (t1 : ST) (e : SE) : SE := fun ρ π => (items ρ π).bind fun p => (small3 p.1 ()).bind fun _ => (lcLoop2 tg t items1 vs1 tg1 t1 e p.1 (wipeE ρ vs) p.2).bind fun r => .ok (.lst r.1, r.2)

section
variable {F : Fx} {ι : List Addr} {σ : L2.St} {ρ : En} {π : Store} {H : Hp}
theorem At.wipe (A : At F ι σ ρ π H) : ∀ {vs : List Nat}, At F ι (wipe σ vs) (wipeE ρ vs) π H
  | [] => A
  | v :: vs => At.unset (At.wipe A)
theorem wipe_same {σ : L2.St} {vs : List Nat} {i : Nat} (h : i ∉ vs) : (L2.wipe σ vs)[i]? = σ[i]? := wipe_out h
theorem wipe_len {σ : L2.St} (vs : List Nat) : (L2.wipe σ vs).length = σ.length := wipe_length σ vs
theorem wipe_none {σ : L2.St} : ∀ {vs : List Nat} {i : Nat}, i ∈ vs → i < σ.length → (L2.wipe σ vs)[i]? = some none
  | [], _, h, _ => by cases h
  | v :: vs, i, h, hl => by
    show ((L2.wipe σ vs).set v none)[i]? = some none
    by_cases e : v = i
    · subst e
      rw [List.getElem?_set_self (by rw [wipe_len]; exact hl)]
    · rw [List.getElem?_set_ne e]
      rcases List.mem_cons.mp h with z | z
      · exact absurd z.symm e
      · exact wipe_none z hl
theorem wipe_eq {σ σ2 : L2.St} {vs : List Nat} (hl : σ2.length = σ.length) (h : ∀ i, i ∉ vs → σ2[i]? = σ[i]?) : L2.wipe σ2 vs = L2.wipe σ vs := by
  refine List.ext_getElem? fun i => ?_
  by_cases hi : i ∈ vs
  · by_cases z : i < σ.length
    · rw [wipe_none hi z, wipe_none hi (by rw [hl]; exact z)]
    · rw [List.getElem?_eq_none (by rw [wipe_len]; omega), List.getElem?_eq_none (by rw [wipe_len]; omega)]
  · rw [wipe_same hi, wipe_same hi, h i hi]
end
abbrev EN : XK := fun _ _ _ => False
/-- for all, for some -/
theorem _root_.L2.PE.ex {α : Type} {X : Cx} {e : Expr} {t : α → TE} (h : ∀ m, PE X e (t m)) : PE X e (fun σ H Q => ∃ m, t m σ H Q) := ⟨fun pins s σ H Q I ⟨m, q⟩ => (h m).run pins s σ H Q I q⟩
theorem _root_.L2.PTs.ex {α : Type} {X : Cx} {e : List Expr} {t : α → TT} (h : ∀ m, PTs X e (t m)) : PTs X e (fun σ H Q => ∃ m, t m σ H Q) := ⟨fun pins s σ H Q I ⟨m, q⟩ => (h m).run pins s σ H Q I q⟩
theorem _root_.L2.PG.ex {α : Type} {X : Cx} {e : Expr} {t : α → TG} (h : ∀ m, PG X e (t m)) : PG X e (fun v σ H Q => ∃ m, t m v σ H Q) := ⟨fun pins s σ H v u Q I r ⟨m, q⟩ => (h m).run pins s σ H v u Q I r q⟩
theorem _root_.L2.PI.ex {α : Type} {X : Cx} {tg e : Expr} {t : α → TI} (h : ∀ m, PI X tg e (t m)) : PI X tg e (fun σ H R => ∃ m, t m σ H R) := ⟨fun pins s σ H R I ⟨m, q⟩ => (h m).run pins s σ H R I q⟩

/-- where a walk of a comprehension stands: Dl the hidden list -/
structure Lw (F : Fx) (Dl : Addr) (ι1 : List Addr) (π1 : Store) (H1 : Hp) (σc : L2.St) (ρc : En) (ι : List Addr) (π : Store) (acc : List D) (H : Hp) : Prop where
  at_ : At (F.wm (Hid F Dl)) ι σc ρc π H
  gr : Gr (fun a => a = Dl) ι1 π1 H1 ι π H
  lst : ∃ xs, H Dl = some (.lst xs) ∧ DrL (F.G.at ι) (Mu (Hid F Dl) ι π) H acc xs
section
variable {X : Cx} {F : Fx} {js js1 : List Nat} {E : XK} {elt tg iter tg1 iter1 c : Expr} {ifs ifs1 : List Expr} {scope : Scope} {own : List (Str × Nat)} {pos py spos : Pos} {items items1 : SA} {h h1 : STg} {ft ft1 : ST} {fe : SE} {y : Str}
theorem xs_nil : PTs X [] (tXT F E tYesD) := pts_nil.weak fun σ H Q hh => by
  obtain ⟨ι, ρ, π, A, hh⟩ := hh
  exact hh ι H A (.refl _ _ _ _)
theorem xs_one (ht : PT X c (tXT F E ft)) : PTs X [c] (tXT F E ft) := pts_one ht
theorem Gr.out {C : Addr → Prop} {ι ι' : List Addr} {π π' : Store} {H H' : Hp} {a : Addr} {o : HO} (g : Gr C ι π H ι' π' H') (h : H a = some o) (n : a ∉ ι) : a ∉ ι' := fun z => by
  have q := g.frs a z n
  rw [h] at q
  cases q
theorem Gr.kept {ι ι' : List Addr} {π π' : Store} {H H' : Hp} {a : Addr} {o : HO} (g : Gr Nm ι π H ι' π' H') (h : H a = some o) (n : a ∉ ι) : H' a = some o := g.ev.keep a o h fun z => by
  rcases z with z | ⟨m, c, z, _⟩
  · exact z
  · exact n (List.mem_of_getElem? z)
/-- one item: the target, the test, the element, appended to the hidden list -/
theorem lc_turn {Dl : Addr} {ι1 : List Addr} {π1 : Store} {H1 : Hp} {σc : L2.St} {ρc : En} {ι : List Addr} {π : Store} {H : Hp} {x : V} {d : D} {ds : List D} {acc : List D} {K : List D × Store → Prop} {ws : List Nat} {Nx : Hp → Prop}
    (h0 : F.H0 Dl = none) (hι : Dl ∉ ι) (hws : ∀ i ∈ js, i ∈ ws) (L : Lw F Dl ι1 π1 H1 σc ρc ι π acc H)
    (rx : Dr (F.G.at ι) (Mu (Hid F Dl) ι π) H d x) (hz : acc.length < 100000) (hg : Go F E (lcLoop h ft fe (d :: ds) ρc π) K)
    (nx : ∀ ι' H' π' new, Lw F Dl ι1 π1 H1 σc ρc ι' π' (acc ++ new) H' → Gr (fun a => a = Dl) ι π H ι' π' H' → new.length ≤ 1 → Go F E (lcLoop h ft fe ds ρc π') (fun r => K (new ++ r.1, r.2)) → Nx H') :
    ∃ M, tTg (F.wm M) EN js h x σc H fun σ2 H2 => L2.wipe σ2 ws = L2.wipe σc ws ∧ ∃ M, tXT (F.wm M) EN ft σ2 H2 fun b H3 =>
      if b = true then ∃ M, tX (F.wm M) EN fe σ2 H3 fun y H4 => ∃ acc, H4 Dl = some (.lst acc) ∧ acc.length < sizeLine ∧ Nx (upd H4 Dl (.lst (acc ++ [y]))) else Nx H3 := by
  have hg := Go.bind hg
  obtain ⟨A, G0, xs, hD, ra⟩ := L
  refine ⟨Hid F Dl, ι, ρc, π, d, A, rx, Go.noX (F := F) (E := E) (Go.mono (fun q hq ι2 σ2 H2 A2 g2 same len => ?_) hg)⟩
  have hq := Go.bind hq
  refine ⟨wipe_eq len fun i hi => same i fun z => hi (hws i z), Hid F Dl, ι2, q.1, q.2, A2, Go.noX (F := F) (E := E) (Go.mono (fun b hb ι3 H3 A3 g3 => ?_) hq)⟩
  have g13 : Gr Nm ι π H ι3 b.2 H3 := g2.trans g3
  have hD3 : H3 Dl = some (.lst xs) := g13.kept hD hι
  have hι3 := g13.out hD hι
  obtain ⟨k, π3⟩ := b
  cases k with
  | false =>
    show Nx H3
    refine nx ι3 H3 π3 [] ⟨A.go A3.wo g13 fun _ z => z.elim, G0.trans g13.nm, xs, hD3, ?_⟩ g13.nm (Nat.zero_le _) hb
    rw [List.append_nil]
    exact DrL.gr g13 (fun _ z => z.elim) ra
  | true =>
    show ∃ M, tX (F.wm M) EN fe σ2 H3 _
    have hb := Go.bind hb
    refine ⟨Hid F Dl, ι3, q.1, π3, A3, Go.noX (F := F) (E := E) (Go.mono (fun y hy v ι4 H4 A4 g4 r4 => ?_) hb)⟩
    have hy := Go.bind hy
    have g14 : Gr Nm ι π H ι4 y.2 H4 := g13.trans g4
    have hD4 : H4 Dl = some (.lst xs) := g14.kept hD hι
    have hι4 := g14.out hD hι
    have ra4 : DrL (F.G.at ι4) (Mu (Hid F Dl) ι4 y.2) H4 acc xs := DrL.gr g14 (fun _ z => z.elim) ra
    have hp : Ev (Mu (Hid F Dl) ι4 y.2) H4 (upd H4 Dl (.lst (xs ++ [v]))) := .put (.inl (.inr rfl)) hD4
    have gp : Gr (fun a => a = Dl) ι4 y.2 H4 ι4 y.2 (upd H4 Dl (.lst (xs ++ [v]))) := ⟨.put (.inl rfl) hD4, List.prefix_refl _, fun _ h n => absurd h n, fun _ h _ => h⟩
    have A4' : At (F.wm (Hid F Dl)) ι4 σc ρc y.2 H4 := A.go A4.wo g14 fun _ z => z.elim
    refine ⟨xs, hD4, by rw [ra4.length]; exact Nat.lt_of_lt_of_le hz (big (Nat.le_refl _)), ?_⟩
    refine nx ι4 _ y.2 [y.1] ⟨A4'.put (.inr rfl) hι4 h0 hD4 _, (G0.trans g14.nm).trans gp, xs ++ [v], upd_same, DrL.ev hp _ _ (ra4.append (.one r4))⟩ (g14.nm.trans gp) (Nat.le_refl _) ?_
    exact Go.mono (fun r hr => hr) hy

theorem lc_weak {σ : L2.St} {H : Hp} {Q : VK} (hj : (js.all fun i => (own.map (·.2)).contains i) = true) (hh : tX F E (eLc items (own.map (·.2)) h ft fe) σ H Q) :
    tLc (tI F E items) (fun v σ H Q => ∃ M, tTg (F.wm M) EN js h v σ H Q) (fun σ H Q => ∃ M, tXT (F.wm M) EN ft σ H Q) (fun σ H Q => ∃ M, tX (F.wm M) EN fe σ H Q) (own.map (·.2)) σ H Q := by
  have hjn : ∀ i ∈ js, i ∈ own.map (·.2) := fun i hi => List.contains_iff_mem.mp (List.all_eq_true.mp hj i hi)
  generalize own.map (·.2) = vs at *
  obtain ⟨ι, ρ, π, A, hh⟩ := hh
  refine ⟨ι, ρ, π, A, Go.mono (fun p hp J ι1 H1 A1 e1 W Dl hD => ?_) (Go.bind hh)⟩
  have hp := Go.bind hp
  unfold small5 at hp
  split at hp
  case isFalse => exact hp.elim
  rename_i hz
  have hp := Go.bind (show Go F E (Res.bind (lcLoop h ft fe p.1 (wipeE ρ vs) p.2) _) _ from hp)
  have A1w : At F ι1 (L2.wipe σ vs) (wipeE ρ vs) p.2 H1 := A1.wipe
  have h0 : F.H0 Dl = none := A1.wo.gr.ev.fresh hD
  have hι1 : Dl ∉ ι1 := fun z => A1.wo.wd.in_ Dl z hD
  have gn : Gr (fun a => a = Dl) ι1 p.2 H1 ι1 p.2 (upd H1 Dl (.lst [])) := .of_ev (.new hD)
  refine ⟨fun i m H2 => m = p.1.length - i ∧ i ≤ p.1.length ∧ ∃ ι' π' acc, Lw F Dl ι1 p.2 (upd H1 Dl (.lst [])) (L2.wipe σ vs) (wipeE ρ vs) ι' π' acc H2 ∧ acc.length ≤ i ∧
      Go F E (lcLoop h ft fe (p.1.drop i) (wipeE ρ vs) π') (fun r => Kv F ι σ ρ π H Q (.lst (acc ++ r.1), r.2)),
    ⟨p.1.length, by simp, Nat.zero_le _, ι1, p.2, [], ⟨A1w.hide hD _, .refl _ _ _ _, [], upd_same, rfl⟩, Nat.le_refl _, hp⟩, ?_⟩
  rintro i m H2 ⟨rfl, hle, ι', π', acc, L, hal, hl⟩
  have evN : Ev (Mu Nm ι1 p.2) H1 H2 := ⟨fun a o e n => L.gr.ev.keep a o (by rw [upd_ne (ne_of_none e hD)]; exact e) fun z => by
      rcases z with z | z
      · rw [z, hD] at e; cases e
      · exact n (.inr z), fun a xs e => L.gr.ev.tup a xs (by rw [upd_ne (ne_of_none e hD)]; exact e), fun a o u e => L.gr.ev.frz a o u (by rw [upd_ne (ne_of_none e hD)]; exact e), fun a φ e => L.gr.ev.ext a φ (by rw [upd_ne (ne_of_none e hD)]; exact e), fun a e => L.gr.ev.there a (by
        by_cases z : a = Dl
        · rw [z, upd_same]; exact fun q => nomatch q
        · rw [upd_ne z]; exact e)⟩
  have ev : Ev (Mu F.M0 ι1 p.2) H1 H2 := evN.mono fun a z _ => z.elim (fun z => z.elim) .inr
  have muH : ∀ a, Mu (Hid F Dl) ι' π' a → H1 a ≠ none → Mu F.M0 ι1 p.2 a := fun a z n => by
    rcases z with (z | z) | z
    · exact .inl z
    · rw [z] at n; exact absurd hD n
    · refine .inr (L.gr.live a z ?_)
      by_cases e : a = Dl
      · rw [e, upd_same]; exact fun q => nomatch q
      · rw [upd_ne e]; exact n
  have hι' : Dl ∉ ι' := L.gr.out (o := .lst []) upd_same hι1
  by_cases hlt : i < p.1.length
  · refine .inr ⟨W.go i H2 ev hlt, fun H3 => i + 1 ≤ p.1.length ∧ ∃ ι' π' acc, Lw F Dl ι1 p.2 (upd H1 Dl (.lst [])) (L2.wipe σ vs) (wipeE ρ vs) ι' π' acc H3 ∧ acc.length ≤ i + 1 ∧
      Go F E (lcLoop h ft fe (p.1.drop (i + 1)) (wipeE ρ vs) π') (fun r => Kv F ι σ ρ π H Q (.lst (acc ++ r.1), r.2)), fun H3 ⟨z, q⟩ => ⟨p.1.length - (i + 1), by omega, rfl, z, q⟩, fun x H'' y => ?_⟩
    have hd : p.1[i]? = some p.1[i] := List.getElem?_eq_getElem hlt
    obtain ⟨ex, rx⟩ := W.yld i x H2 H'' _ ι' (Mu (Hid F Dl) ι' π') ev (List.IsPrefix.trans (List.prefix_refl _) L.gr.pre) muH L.at_.mx hd y
    rw [List.drop_eq_getElem_cons hlt] at hl
    obtain ⟨A2, g2, xs, hD2, ra⟩ := L
    have t := lc_turn (Nx := fun H3 => i + 1 ≤ p.1.length ∧ ∃ ι' π' acc, Lw F Dl ι1 p.2 (upd H1 Dl (.lst [])) (L2.wipe σ vs) (wipeE ρ vs) ι' π' acc H3 ∧ acc.length ≤ i + 1 ∧
      Go F E (lcLoop h ft fe (p.1.drop (i + 1)) (wipeE ρ vs) π') (fun r => Kv F ι σ ρ π H Q (.lst (acc ++ r.1), r.2)))
      (ws := vs) h0 hι' hjn ⟨A2.same ex, g2.trans (.of_ev ex), xs, ex.keep _ _ hD2 id, DrL.ev ex.nm _ _ ra⟩ rx (by omega) hl
      (fun ι3 H3 π3 new L3 _ hn hl3 => ⟨hlt, ι3, π3, acc ++ new, L3, by rw [List.length_append]; omega, Go.mono (fun r hr => by rw [List.append_assoc]; exact hr) hl3⟩)
    have hw : L2.wipe (L2.wipe σ vs) vs = L2.wipe σ vs := wipe_eq (wipe_len _) fun i hi => wipe_same hi
    rw [hw] at t
    exact t
  · have e : i = p.1.length := by omega
    subst e
    refine .inl ⟨W.stop _ H2 ev (Nat.le_refl _), ?_⟩
    rw [List.drop_length] at hl
    have hl : Kv F ι σ ρ π H Q (.lst (acc ++ []), π') := hl
    rw [List.append_nil] at hl
    obtain ⟨A2, g2, xs, hD2, ra⟩ := L
    have As := A2.show_ (F := F) fun a z => .inl z
    have g12 : Gr Nm ι1 p.2 H1 ι' π' H2 := ⟨evN, g2.pre, fun a h n => ?_, fun a h n => g2.live a h ?_⟩
    · refine hl _ ι' H2 (A1.go As.wo g12 fun _ z => z.elim) (e1.trans g12) ⟨Dl, xs, rfl, fun z => ?_, hD2, ?_⟩
      · rcases z with z | ⟨n, c, z, _⟩
        · exact A1.wo.wd.m0 Dl z hD
        · exact hι' (List.mem_of_getElem? z)
      · refine DrL.chg (fun a z _ => ?_) _ _ ra
        rcases z with z | z
        · exact .inl (.inl z)
        · exact .inr z
    · have q := g2.frs a h n
      by_cases e : a = Dl
      · rw [e]; exact hD
      · rw [upd_ne e] at q; exact q
    · by_cases e : a = Dl
      · rw [e, upd_same]; exact fun q => nomatch q
      · rw [upd_ne e]; exact n

/-- the heap before the hidden list and a place of the walk -/
theorem lw_ev {Dl : Addr} {ι1 ι' : List Addr} {π1 π' : Store} {H1 H2 : Hp} (g : Gr (fun a => a = Dl) ι1 π1 (upd H1 Dl (.lst [])) ι' π' H2) (hD : H1 Dl = none) : Gr Nm ι1 π1 H1 ι' π' H2 :=
  ⟨⟨fun a o e n => g.ev.keep a o (by rw [upd_ne (ne_of_none e hD)]; exact e) fun z => by
      rcases z with z | z
      · rw [z, hD] at e; cases e
      · exact n (.inr z), fun a xs e => g.ev.tup a xs (by rw [upd_ne (ne_of_none e hD)]; exact e), fun a o u e => g.ev.frz a o u (by rw [upd_ne (ne_of_none e hD)]; exact e), fun a φ e => g.ev.ext a φ (by rw [upd_ne (ne_of_none e hD)]; exact e), fun a e => g.ev.there a (by
        by_cases z : a = Dl
        · rw [z, upd_same]; exact fun q => nomatch q
        · rw [upd_ne z]; exact e)⟩, g.pre, fun a h n => by
    have q := g.frs a h n
    by_cases e : a = Dl
    · rw [e]; exact hD
    · rw [upd_ne e] at q; exact q, fun a h n => g.live a h (by
    by_cases e : a = Dl
    · rw [e, upd_same]; exact fun q => nomatch q
    · rw [upd_ne e]; exact n)⟩
theorem lw_mu {Dl : Addr} {ι1 ι' : List Addr} {π1 π' : Store} {H1 H2 : Hp} (g : Gr Nm ι1 π1 H1 ι' π' H2) (hD : H1 Dl = none) : ∀ a, Mu (Hid F Dl) ι' π' a → H1 a ≠ none → Mu F.M0 ι1 π1 a := fun a z n => by
  rcases z with (z | z) | z
  · exact .inl z
  · rw [z] at n; exact absurd hD n
  · exact .inr (g.live a z n)
/-- the walk has ended -/
theorem lw_end {σ : L2.St} {ρ : En} {ι : List Addr} {π : Store} {H : Hp} {Q : VK} {Dl : Addr} {ι1 ι' : List Addr} {π1 π' : Store} {H1 H2 : Hp} {vs : List Nat} {acc : List D} (A1 : At F ι1 σ ρ π1 H1) (e1 : Gr Nm ι π H ι1 π1 H1) (hD : H1 Dl = none)
    (L : Lw F Dl ι1 π1 (upd H1 Dl (.lst [])) (L2.wipe σ vs) (wipeE ρ vs) ι' π' acc H2) (hl : Kv F ι σ ρ π H Q (.lst acc, π')) : Q (.ref Dl) H2 := by
  have g12 := lw_ev L.gr hD
  have hι' : Dl ∉ ι' := L.gr.out (o := .lst []) upd_same fun z => A1.wo.wd.in_ Dl z hD
  obtain ⟨A2, g2, xs, hD2, ra⟩ := L
  have As := A2.show_ (F := F) fun a z => .inl z
  refine hl _ ι' H2 (A1.go As.wo g12 fun _ z => z.elim) (e1.trans g12) ⟨Dl, xs, rfl, fun z => ?_, hD2, ?_⟩
  · rcases z with z | ⟨n, c, z, _⟩
    · exact A1.wo.wd.m0 Dl z hD
    · exact hι' (List.mem_of_getElem? z)
  · refine DrL.chg (fun a z _ => ?_) _ _ ra
    rcases z with z | z
    · exact .inl (.inl z)
    · exact .inr z
theorem lc2_weak {vs1 : List Nat} {σ : L2.St} {H : Hp} {Q : VK} (hj : (js.all fun i => (own.map (·.2)).contains i) = true) (hj1 : (js1.all fun i => vs1.contains i) = true) (hh : tX F E (eLc2 items (own.map (·.2)) vs1 h ft items1 h1 ft1 fe) σ H Q) :
    tLc2 (tI F E items) (fun v σ H Q => ∃ M, tTg (F.wm M) EN js h v σ H Q) (fun σ H Q => ∃ M, tXT (F.wm M) EN ft σ H Q) (fun σ H R => ∃ M, tI (F.wm M) EN items1 σ H R) (fun v σ H Q => ∃ M, tTg (F.wm M) EN js1 h1 v σ H Q) (fun σ H Q => ∃ M, tXT (F.wm M) EN ft1 σ H Q)
      (fun σ H Q => ∃ M, tX (F.wm M) EN fe σ H Q) (own.map (·.2)) vs1 σ H Q := by
  have hjn : ∀ i ∈ js, i ∈ own.map (·.2) := fun i hi => List.contains_iff_mem.mp (List.all_eq_true.mp hj i hi)
  have hjn1 : ∀ i ∈ js1, i ∈ vs1 := fun i hi => List.contains_iff_mem.mp (List.all_eq_true.mp hj1 i hi)
  generalize own.map (·.2) = vs at *
  obtain ⟨ι, ρ, π, A, hh⟩ := hh
  refine ⟨ι, ρ, π, A, Go.mono (fun p hp J ι1 H1 A1 e1 W Dl hD => ?_) (Go.bind hh)⟩
  have hp := Go.bind hp
  unfold small3 at hp
  split at hp
  case isFalse => exact hp.elim
  rename_i hz
  have hp := Go.bind (show Go F E (Res.bind (lcLoop2 h ft items1 vs1 h1 ft1 fe p.1 (wipeE ρ vs) p.2) _) _ from hp)
  have A1w : At F ι1 (L2.wipe σ vs) (wipeE ρ vs) p.2 H1 := A1.wipe
  have h0 : F.H0 Dl = none := A1.wo.gr.ev.fresh hD
  have hι1 : Dl ∉ ι1 := fun z => A1.wo.wd.in_ Dl z hD
  refine ⟨fun i m H2 => m = p.1.length - i ∧ i ≤ p.1.length ∧ ∃ ι' π' acc, Lw F Dl ι1 p.2 (upd H1 Dl (.lst [])) (L2.wipe σ vs) (wipeE ρ vs) ι' π' acc H2 ∧ acc.length ≤ i * 300 ∧
      Go F E (lcLoop2 h ft items1 vs1 h1 ft1 fe (p.1.drop i) (wipeE ρ vs) π') (fun r => Kv F ι σ ρ π H Q (.lst (acc ++ r.1), r.2)),
    ⟨p.1.length, by simp, Nat.zero_le _, ι1, p.2, [], ⟨A1w.hide hD _, .refl _ _ _ _, [], upd_same, rfl⟩, Nat.zero_le _, hp⟩, ?_⟩
  rintro i m H2 ⟨rfl, hle, ι', π', acc, L, hal, hl⟩
  have g12 := lw_ev L.gr hD
  have ev : Ev (Mu F.M0 ι1 p.2) H1 H2 := g12.evM fun _ z => z.elim
  have hι' : Dl ∉ ι' := L.gr.out (o := .lst []) upd_same hι1
  by_cases hlt : i < p.1.length
  · refine .inr ⟨W.go i H2 ev hlt, fun H3 => i + 1 ≤ p.1.length ∧ ∃ ι' π' acc, Lw F Dl ι1 p.2 (upd H1 Dl (.lst [])) (L2.wipe σ vs) (wipeE ρ vs) ι' π' acc H3 ∧ acc.length ≤ (i + 1) * 300 ∧
      Go F E (lcLoop2 h ft items1 vs1 h1 ft1 fe (p.1.drop (i + 1)) (wipeE ρ vs) π') (fun r => Kv F ι σ ρ π H Q (.lst (acc ++ r.1), r.2)), fun H3 ⟨z, q⟩ => ⟨p.1.length - (i + 1), by omega, rfl, z, q⟩, fun x H'' y => ?_⟩
    have hd : p.1[i]? = some p.1[i] := List.getElem?_eq_getElem hlt
    obtain ⟨ex, rx⟩ := W.yld i x H2 H'' _ ι' (Mu (Hid F Dl) ι' π') ev g12.pre (lw_mu g12 hD) L.at_.mx hd y
    rw [List.drop_eq_getElem_cons hlt] at hl
    have hl := Go.bind hl
    obtain ⟨A2, g2, xs, hD2, ra⟩ := L
    have hDx : H'' Dl = some (.lst xs) := ex.keep _ _ hD2 id
    have A2x := A2.same ex
    have g2x := g2.trans (.of_ev ex)
    have rax : DrL (F.G.at ι') (Mu (Hid F Dl) ι' π') H'' acc xs := DrL.ev ex.nm _ _ ra
    have hw : L2.wipe (L2.wipe σ vs) vs = L2.wipe σ vs := wipe_eq (wipe_len _) fun i hi => wipe_same hi
    refine ⟨Hid F Dl, ι', wipeE ρ vs, π', p.1[i], A2x, rx, Go.noX (F := F) (E := E) (Go.mono (fun q hq ι2 σ2 H2' B2 gt same len => ?_) hl)⟩
    have hq := Go.bind hq
    refine ⟨(wipe_eq len fun i hi => same i fun z => hi (hjn i z)).trans hw, Hid F Dl, ι2, q.1, q.2, B2, Go.noX (F := F) (E := E) (Go.mono (fun b hb ι3 H3 B3 g3 => ?_) hq)⟩
    have g13 : Gr Nm ι' π' H'' ι3 b.2 H3 := gt.trans g3
    have L3 : Lw F Dl ι1 p.2 (upd H1 Dl (.lst [])) (L2.wipe σ vs) (wipeE ρ vs) ι3 b.2 acc H3 := ⟨A2x.go B3.wo g13 fun _ z => z.elim, g2x.trans g13.nm, xs, g13.kept hDx hι', DrL.gr g13 (fun _ z => z.elim) rax⟩
    obtain ⟨kb, π3⟩ := b
    cases kb with
    | false => exact ⟨hlt, ι3, π3, acc, L3, by omega, hb⟩
    | true =>
      have hb := Go.bind hb
      refine ⟨Hid F Dl, ι3, q.1, π3, B3, Go.noX (F := F) (E := E) (Go.mono (fun r hr J1 ι4 H4 B4 g4 V => ?_) hb)⟩
      have hr := Go.bind hr
      unfold small3 at hr
      split at hr
      case isFalse => exact hr.elim
      rename_i hz1
      have hr := Go.bind (show Go F E (Res.bind (lcLoop h1 ft1 fe r.1 (wipeE q.1 vs1) r.2) _) _ from hr)
      have hι3 : Dl ∉ ι3 := L3.gr.out (o := .lst []) upd_same hι1
      obtain ⟨A3, G3, xs3, hD3, ra3⟩ := L3
      have hι4 : Dl ∉ ι4 := g4.out hD3 hι3
      have L4 : Lw F Dl ι1 p.2 (upd H1 Dl (.lst [])) (L2.wipe σ vs) (wipeE ρ vs) ι4 r.2 acc H4 := ⟨A3.go B4.wo g4 fun _ z => z.elim, G3.trans g4.nm, xs3, g4.kept hD3 hι3, DrL.gr g4 (fun _ z => z.elim) ra3⟩
      -- where the inner walk stands, in its own frame
      have M4 : Lw F Dl ι4 r.2 H4 (L2.wipe σ2 vs1) (wipeE q.1 vs1) ι4 r.2 acc H4 := ⟨B4.wipe, .refl _ _ _ _, L4.lst⟩
      refine ⟨fun j k H5 => k = r.1.length - j ∧ j ≤ r.1.length ∧ ∃ ι5 π5 acc5, Lw F Dl ι4 r.2 H4 (L2.wipe σ2 vs1) (wipeE q.1 vs1) ι5 π5 acc5 H5 ∧ acc5.length ≤ i * 300 + j ∧ Go F E (lcLoop h1 ft1 fe (r.1.drop j) (wipeE q.1 vs1) π5) (fun y => Go F E (lcLoop2 h ft items1 vs1 h1 ft1 fe (p.1.drop (i + 1)) (wipeE ρ vs) y.2) (fun s => Kv F ι σ ρ π H Q (.lst (acc5 ++ y.1 ++ s.1), s.2))),
        ⟨r.1.length, by simp, Nat.zero_le _, ι4, r.2, acc, M4, by omega, ?_⟩, ?_⟩
      · exact Go.mono (fun y hy => Go.mono (fun s hs => by
          have hs : Kv F ι σ ρ π H Q (.lst (acc ++ (y.1 ++ s.1)), s.2) := hs
          rw [← List.append_assoc] at hs
          exact hs) (Go.bind hy)) hr
      · rintro j k H5 ⟨rfl, hjle, ι5, π5, acc5, L5, hal5, hl5⟩
        have ev5 : Ev (Mu (Hid F Dl) ι4 r.2) H4 H5 := L5.gr.evM fun a z => .inr z
        by_cases hjlt : j < r.1.length
        · refine .inr ⟨V.go j H5 ev5 hjlt, fun H6 => j + 1 ≤ r.1.length ∧ ∃ ι5 π5 acc5, Lw F Dl ι4 r.2 H4 (L2.wipe σ2 vs1) (wipeE q.1 vs1) ι5 π5 acc5 H6 ∧ acc5.length ≤ i * 300 + (j + 1) ∧ Go F E (lcLoop h1 ft1 fe (r.1.drop (j + 1)) (wipeE q.1 vs1) π5) (fun y => Go F E (lcLoop2 h ft items1 vs1 h1 ft1 fe (p.1.drop (i + 1)) (wipeE ρ vs) y.2) (fun s => Kv F ι σ ρ π H Q (.lst (acc5 ++ y.1 ++ s.1), s.2))),
            fun H6 ⟨z, q'⟩ => ⟨r.1.length - (j + 1), by omega, rfl, z, q'⟩, fun x5 H5' y5 => ?_⟩
          have hd5 : r.1[j]? = some r.1[j] := List.getElem?_eq_getElem hjlt
          obtain ⟨ex5, rx5⟩ := V.yld j x5 H5 H5' _ ι5 (Mu (Hid F Dl) ι5 π5) ev5 L5.gr.pre (fun a z n => L5.gr.mu a z n) L5.at_.mx hd5 y5
          rw [List.drop_eq_getElem_cons hjlt] at hl5
          have hι5 : Dl ∉ ι5 := by
            obtain ⟨_, _, _, hDd, _⟩ := L4
            exact L5.gr.out hDd hι4
          obtain ⟨A5, g5, xs5, hD5, ra5⟩ := L5
          have hw1 : L2.wipe (L2.wipe σ2 vs1) vs1 = L2.wipe σ2 vs1 := wipe_eq (wipe_len _) fun i hi => wipe_same hi
          have t := lc_turn (Nx := fun H6 => j + 1 ≤ r.1.length ∧ ∃ ι5 π5 acc5, Lw F Dl ι4 r.2 H4 (L2.wipe σ2 vs1) (wipeE q.1 vs1) ι5 π5 acc5 H6 ∧ acc5.length ≤ i * 300 + (j + 1) ∧ Go F E (lcLoop h1 ft1 fe (r.1.drop (j + 1)) (wipeE q.1 vs1) π5) (fun y => Go F E (lcLoop2 h ft items1 vs1 h1 ft1 fe (p.1.drop (i + 1)) (wipeE ρ vs) y.2) (fun s => Kv F ι σ ρ π H Q (.lst (acc5 ++ y.1 ++ s.1), s.2))))
            (ws := vs1) h0 hι5 hjn1 ⟨A5.same ex5, g5.trans (.of_ev ex5), xs5, ex5.keep _ _ hD5 id, DrL.ev ex5.nm _ _ ra5⟩ rx5 (by
              have h1 : i * 300 ≤ 299 * 300 := Nat.mul_le_mul_right _ (by omega)
              omega) hl5
            (fun ι6 H6 π6 new L6 _ hn hl6 => ⟨hjlt, ι6, π6, acc5 ++ new, L6, by rw [List.length_append]; omega,
              Go.mono (fun y hy => Go.mono (fun s hs => by
                have hs : Kv F ι σ ρ π H Q (.lst (acc5 ++ (new ++ y.1) ++ s.1), s.2) := hs
                rw [← List.append_assoc acc5 new] at hs
                exact hs) hy) hl6⟩)
          rw [hw1] at t
          exact t
        · have ej : j = r.1.length := by omega
          subst ej
          refine .inl ⟨V.stop _ H5 ev5 (Nat.le_refl _), ?_⟩
          rw [List.drop_length] at hl5
          have hl5 : Go F E (lcLoop2 h ft items1 vs1 h1 ft1 fe (p.1.drop (i + 1)) (wipeE ρ vs) π5) (fun s => Kv F ι σ ρ π H Q (.lst (acc5 ++ [] ++ s.1), s.2)) := hl5
          rw [List.append_nil] at hl5
          obtain ⟨A4, G4, _⟩ := L4
          obtain ⟨A5, g5, q5⟩ := L5
          exact ⟨hlt, ι5, π5, acc5, ⟨A4.go (C := fun a => a = Dl) A5.wo g5 fun a z => .inr z, G4.trans g5, q5⟩, by omega, hl5⟩
  · have e : i = p.1.length := by omega
    subst e
    refine .inl ⟨W.stop _ H2 ev (Nat.le_refl _), ?_⟩
    rw [List.drop_length] at hl
    have hl : Kv F ι σ ρ π H Q (.lst (acc ++ []), π') := hl
    rw [List.append_nil] at hl
    exact lw_end A1 e1 hD L hl
abbrev Shr (X : Cx) (scope : Scope) (P : Cx → Prop) : Prop := ∀ (s : Shared) (H : Hp) (C : Addr) (cl : List (Str × Addr)) (fp : List Addr), P (X.blk s H scope (compEnvC scope cl C X.env) fp)
section
variable (hc : X.calm = true) (hN : X.N.Nodup) (hi : PI X tg iter (tI F E items)) (ok : BlkOk X.N X.env.scope scope own)
    (hg : ∀ (M : Addr → Prop) (s : Shared) (H : Hp) (C : Addr) (cl : List (Str × Addr)) (fp : List Addr), PG (X.blk s H scope (compEnvC scope cl C X.env) fp) tg (tTg (F.wm M) EN js h))
    (ht : ∀ (M : Addr → Prop) (s : Shared) (H : Hp) (C : Addr) (cl : List (Str × Addr)) (fp : List Addr), PTs (X.blk s H scope (compEnvC scope cl C X.env) fp) ifs (tXT (F.wm M) EN ft))
    (he : ∀ (M : Addr → Prop) (s : Shared) (H : Hp) (C : Addr) (cl : List (Str × Addr)) (fp : List Addr), PE (X.blk s H scope (compEnvC scope cl C X.env) fp) elt (tX (F.wm M) EN fe))
    (hi1 : ∀ (M : Addr → Prop) (s : Shared) (H : Hp) (C : Addr) (cl : List (Str × Addr)) (fp : List Addr), PI (X.blk s H scope (compEnvC scope cl C X.env) fp) tg1 iter1 (tI (F.wm M) EN items1))
    (hg1 : ∀ (M : Addr → Prop) (s : Shared) (H : Hp) (C : Addr) (cl : List (Str × Addr)) (fp : List Addr), PG (X.blk s H scope (compEnvC scope cl C X.env) fp) tg1 (tTg (F.wm M) EN js1 h1))
    (ht1 : ∀ (M : Addr → Prop) (s : Shared) (H : Hp) (C : Addr) (cl : List (Str × Addr)) (fp : List Addr), PTs (X.blk s H scope (compEnvC scope cl C X.env) fp) ifs1 (tXT (F.wm M) EN ft1))
include hc hN hi ok hg ht he
theorem x_lc (hj : (js.all fun i => (own.map (·.2)).contains i) = true := by rfl) (hs : ∀ x, foldedSetIterable iter X.env x = pure x := by intro _; rfl) :
    PE X (.ListComp elt [⟨tg, iter, ifs, 0⟩] scope pos) (tX F E (eLc items (own.map (·.2)) h ft fe)) :=
  (pe_lc hc hN hi ok (fun s H C cl fp => PG.ex fun M => hg M s H C cl fp) (fun s H C cl fp => PTs.ex fun M => ht M s H C cl fp) (fun s H C cl fp => PE.ex fun M => he M s H C cl fp) hs).weak fun σ H Q hh => lc_weak hj hh
/-- name = [..] -/
theorem s_setLc {i : Nat} (hy : X.N[i]? = some y := by rfl) (hyl : X.env.scope.names.lookup y = some .local := by rfl) (hsw : swapsWith (.ListComp elt [⟨tg, iter, ifs, 0⟩] scope pos) (some (.Name y py)) spos.line X.env = pure true := by refine sw_true ?_ ?_ ?_ ?_ <;> rfl)
    (hj : (js.all fun i => (own.map (·.2)).contains i) = true := by rfl) (hs : ∀ x, foldedSetIterable iter X.env x = pure x := by intro _; rfl) :
    PS X (.Assign [.Name y py] (.ListComp elt [⟨tg, iter, ifs, 0⟩] scope pos) spos) (tS F E (sSet i (eLc items (own.map (·.2)) h ft fe))) :=
  (ps_setLc hc hN hy hyl hsw hi ok (fun s H C cl fp => PG.ex fun M => hg M s H C cl fp) (fun s H C cl fp => PTs.ex fun M => ht M s H C cl fp) (fun s H C cl fp => PE.ex fun M => he M s H C cl fp) hs).weak fun D σ H hh => by
    refine lc_weak (E := E) (Q := fun x H1 => D.nx (σ.set i (some x)) H1) hj ?_
    obtain ⟨ι, ρ, π, A, hh⟩ := hh
    exact ⟨ι, ρ, π, A, Go.mono (fun p hp v ι' H' A1 e1 r1 => hp ι' _ H' (A1.set r1) e1) (Go.bind hh)⟩
include hi1 hg1 ht1
theorem x_lc2 {vs1 : List Nat} (hj : (js.all fun i => (own.map (·.2)).contains i) = true := by rfl) (hj1 : (js1.all fun i => vs1.contains i) = true := by rfl) (hv1 : (vs1.all fun i => (own.map (·.2)).contains i) = true := by rfl)
    (hs : ∀ x, foldedSetIterable iter X.env x = pure x := by intro _; rfl) (hs1 : ∀ env x, foldedSetIterable iter1 env x = pure x := by intro _ _; rfl) :
    PE X (.ListComp elt [⟨tg, iter, ifs, 0⟩, ⟨tg1, iter1, ifs1, 0⟩] scope pos) (tX F E (eLc2 items (own.map (·.2)) vs1 h ft items1 h1 ft1 fe)) :=
  (pe_lc2 hc hN hi ok (fun i hi => List.contains_iff_mem.mp (List.all_eq_true.mp hv1 i hi)) (fun s H C cl fp => PG.ex fun M => hg M s H C cl fp) (fun s H C cl fp => PTs.ex fun M => ht M s H C cl fp) (fun s H C cl fp => PI.ex fun M => hi1 M s H C cl fp) (fun s H C cl fp => PG.ex fun M => hg1 M s H C cl fp)
    (fun s H C cl fp => PTs.ex fun M => ht1 M s H C cl fp) (fun s H C cl fp => PE.ex fun M => he M s H C cl fp) hs hs1).weak fun σ H Q hh => lc2_weak hj hj1 hh
theorem s_setLc2 {i : Nat} {vs1 : List Nat} (hy : X.N[i]? = some y := by rfl) (hyl : X.env.scope.names.lookup y = some .local := by rfl) (hsw : swapsWith (.ListComp elt [⟨tg, iter, ifs, 0⟩, ⟨tg1, iter1, ifs1, 0⟩] scope pos) (some (.Name y py)) spos.line X.env = pure true := by refine sw_true ?_ ?_ ?_ ?_ <;> rfl)
    (hj : (js.all fun i => (own.map (·.2)).contains i) = true := by rfl) (hj1 : (js1.all fun i => vs1.contains i) = true := by rfl) (hv1 : (vs1.all fun i => (own.map (·.2)).contains i) = true := by rfl)
    (hs : ∀ x, foldedSetIterable iter X.env x = pure x := by intro _; rfl) (hs1 : ∀ env x, foldedSetIterable iter1 env x = pure x := by intro _ _; rfl) :
    PS X (.Assign [.Name y py] (.ListComp elt [⟨tg, iter, ifs, 0⟩, ⟨tg1, iter1, ifs1, 0⟩] scope pos) spos) (tS F E (sSet i (eLc2 items (own.map (·.2)) vs1 h ft items1 h1 ft1 fe))) :=
  (ps_setLc2 hc hN hy hyl hsw hi ok (fun i hi => List.contains_iff_mem.mp (List.all_eq_true.mp hv1 i hi)) (fun s H C cl fp => PG.ex fun M => hg M s H C cl fp) (fun s H C cl fp => PTs.ex fun M => ht M s H C cl fp) (fun s H C cl fp => PI.ex fun M => hi1 M s H C cl fp) (fun s H C cl fp => PG.ex fun M => hg1 M s H C cl fp)
    (fun s H C cl fp => PTs.ex fun M => ht1 M s H C cl fp) (fun s H C cl fp => PE.ex fun M => he M s H C cl fp) hs hs1).weak fun D σ H hh => by
    refine lc2_weak (E := E) (Q := fun x H1 => D.nx (σ.set i (some x)) H1) hj hj1 ?_
    obtain ⟨ι, ρ, π, A, hh⟩ := hh
    exact ⟨ι, ρ, π, A, Go.mono (fun p hp v ι' H' A1 e1 r1 => hp ι' _ H' (A1.set r1) e1) (Go.bind hh)⟩
end
end
end Ph
end
section
set_option Elab.async false
set_option linter.all false
set_option maxRecDepth 100000
/-! Ph, part F: in, is None, built-in functions, slices, zip, fields. -/
namespace Ph
open PySem PySem.Spec PyProof.Rows L2

/-! ### flat data -/
def flatD : D → Bool
  | .non | .bl _ | .int _ | .str _ => true
  | _ => false
section
variable {G : Gx} {M : Addr → Prop} {H : Hp}
theorem flat_v {d : D} {v : V} (h : flatD d = true) (r : Dr G M H d v) : flatV v = true := by
  cases d with
  | non => rw [show v = .non from r]; rfl
  | bl b => rw [show v = .bl b from r]; rfl
  | int i => rw [show v = .int i from r]; rfl
  | str s => rw [show v = .str s from r]; rfl
  | _ => cases h
theorem flat_all : ∀ {ds : List D} {vs : List V}, ds.all flatD = true → DrL G M H ds vs → vs.all flatV = true
  | [], vs, _, r => by rw [show vs = [] from r]; rfl
  | d :: ds, vs, h, r => by
    obtain ⟨v, ws, rfl, q, t⟩ := r
    rw [List.all_cons, Bool.and_eq_true] at h
    rw [List.all_cons, Bool.and_eq_true]
    exact ⟨flat_v h.1 q, flat_all h.2 t⟩
theorem flat_eq {a b : D} {x y : V} (ha : flatD a = true) (hb : flatD b = true) (ra : Dr G M H a x) (rb : Dr G M H b y) : eqV x y = deq a b := by
  cases a with
  | non => rw [show x = .non from ra]; cases b with
    | non => rw [show y = .non from rb]; rfl
    | bl c => rw [show y = .bl c from rb]; rfl
    | int i => rw [show y = .int i from rb]; rfl
    | str s => rw [show y = .str s from rb]; rfl
    | _ => cases hb
  | bl c => rw [show x = .bl c from ra]; cases b with
    | non => rw [show y = .non from rb]; rfl
    | bl c => rw [show y = .bl c from rb]; simp [eqV, deq]
    | int i => rw [show y = .int i from rb]; simp [eqV, deq]
    | str s => rw [show y = .str s from rb]; rfl
    | _ => cases hb
  | int i => rw [show x = .int i from ra]; cases b with
    | non => rw [show y = .non from rb]; rfl
    | bl c => rw [show y = .bl c from rb]; simp [eqV, deq]
    | int i => rw [show y = .int i from rb]; simp [eqV, deq]
    | str s => rw [show y = .str s from rb]; rfl
    | _ => cases hb
  | str s => rw [show x = .str s from ra]; cases b with
    | non => rw [show y = .non from rb]; rfl
    | bl c => rw [show y = .bl c from rb]; rfl
    | int i => rw [show y = .int i from rb]; rfl
    | str s => rw [show y = .str s from rb]; simp [eqV, deq]
    | _ => cases hb
  | _ => cases ha
theorem in_eq {a : D} {x : V} (ha : flatD a = true) (ra : Dr G M H a x) : ∀ {ds : List D} {vs : List V}, ds.all flatD = true → DrL G M H ds vs → inV x vs = ds.any fun y => deq y a
  | [], vs, _, r => by rw [show vs = [] from r]; rfl
  | d :: ds, vs, h, r => by
    obtain ⟨v, ws, rfl, q, t⟩ := r
    rw [List.all_cons, Bool.and_eq_true] at h
    show ((v :: ws).any fun y => eqV y x) = _
    rw [List.any_cons, List.any_cons, flat_eq h.1 ha q ra]
    have := in_eq ha ra h.2 t
    unfold inV at this
    rw [this]
end
def itemsD : D → Option (List D)
  | .tup l => some l
  | .lst l => some l
  | _ => none
def dIn (neg : Bool) (a b : D) : Option D := (itemsD b).bind fun l => if (flatD a && l.all flatD) = true then some (.bl (if neg then !(l.any fun y => deq y a) else l.any fun y => deq y a)) else none
theorem od_in {G : Gx} {neg : Bool} : OpD G (rIn G.K neg) (dIn neg) := by
  intro ι M H dx dy d x y Q hm rx ry e hq
  unfold dIn at e
  cases dy with
  | lst l =>
    obtain ⟨a, xs, rfl, n, s, r⟩ := ry
    simp only [itemsD, Option.bind_some] at e
    split at e
    · rename_i h
      rw [Bool.and_eq_true] at h
      cases e
      refine ⟨a, xs, rfl, .inl (SqL.of s), flat_v h.1 rx, flat_all h.2 r, ?_⟩
      rw [in_eq h.1 rx h.2 r]
      exact hq _ _ (.refl _ _) rfl
    · cases e
  | tup l =>
    obtain ⟨a, xs, rfl, s, r⟩ := ry
    simp only [itemsD, Option.bind_some] at e
    split at e
    · rename_i h
      rw [Bool.and_eq_true] at h
      cases e
      refine ⟨a, xs, rfl, .inr s.sq, flat_v h.1 rx, flat_all h.2 r, ?_⟩
      rw [in_eq h.1 rx h.2 r]
      exact hq _ _ (.refl _ _) rfl
    · cases e
  | _ => cases e
def isN : D → Bool
  | .non => true
  | _ => false
theorem isN_v {G : Gx} {M : Addr → Prop} {H : Hp} {d : D} {v : V} (r : Dr G M H d v) : decide (v = .non) = isN d := by
  cases d with
  | non => rw [show v = .non from r]; rfl
  | bl b => rw [show v = .bl b from r]; rfl
  | int i => rw [show v = .int i from r]; rfl
  | str s => rw [show v = .str s from r]; rfl
  | tup l => obtain ⟨a, xs, rfl, _⟩ := r; rfl
  | lst l => obtain ⟨a, xs, rfl, _⟩ := r; rfl
  | obj c l => obtain ⟨a, dx, xs, rfl, _⟩ := r; rfl
  | dic => obtain ⟨a, rfl, _⟩ := r; rfl
  | ptup l => obtain ⟨a, xs, rfl, _⟩ := r; rfl
  | ptr n => obtain ⟨a, rfl, _⟩ := r; rfl
  | fn a => rw [show v = .ref a from r]; rfl
  | scr l => obtain ⟨a, xs, rfl, _⟩ := r; rfl
def dIsN (a b : D) : Option D := if isN b = true then some (.bl (isN a)) else none
def dNotN (a b : D) : Option D := if isN b = true then some (.bl (!isN a)) else none
theorem isN_eq {G : Gx} {M : Addr → Prop} {H : Hp} {d : D} {v : V} (h : isN d = true) (r : Dr G M H d v) : v = .non := by
  have q := isN_v r
  rw [h] at q
  exact of_decide_eq_true q
theorem od_isN {G : Gx} : OpD G (fun x y H Q => y = .non ∧ Q (.bl (decide (x = .non))) H) dIsN := by
  intro ι M H dx dy d x y Q hm rx ry e hq
  unfold dIsN at e
  split at e
  · rename_i h
    cases e
    refine ⟨isN_eq h ry, ?_⟩
    rw [isN_v rx]
    exact hq _ _ (.refl _ _) rfl
  · cases e
theorem od_notN {G : Gx} : OpD G (fun x y H Q => y = .non ∧ Q (.bl (!decide (x = .non))) H) dNotN := by
  intro ι M H dx dy d x y Q hm rx ry e hq
  unfold dNotN at e
  split at e
  · rename_i h
    cases e
    refine ⟨isN_eq h ry, ?_⟩
    rw [isN_v rx]
    exact hq _ _ (.refl _ _) rfl
  · cases e

/-! ### chains: a op b op c -/
def eChain (o o' : D → D → Option D) (a b c : SE) : SE := fun ρ π => (a ρ π).bind fun x => (b ρ x.2).bind fun y => (Res.of (o x.1 y.1)).bind fun z => (bl? z).bind fun k =>
  if k = true then (c ρ y.2).bind fun u => (Res.of (o' y.1 u.1)).bind fun w => .ok (w, u.2) else .ok (.bl false, y.2)

/-! ### built-in functions -/
def fLen : List D → Res D
  | [.tup l] => .ok (.int l.length)
  | [.lst l] => .ok (.int l.length)
  | [.scr l] => .ok (.int l.length)
  | [.str z] => if z.length ≤ 100000 then .ok (.int z.length) else .fail
  | _ => .fail
def boolsOf : List D → Option (List Bool)
  | [] => some []
  | .bl b :: r => (boolsOf r).map (b :: ·)
  | _ :: _ => none
def intsOf : List D → Option (List Int)
  | [] => some []
  | .int b :: r => (intsOf r).map (b :: ·)
  | _ :: _ => none
section
variable {G : Gx} {M : Addr → Prop} {H : Hp}
theorem bools_v : ∀ {ds : List D} {bs : List Bool} {vs : List V}, boolsOf ds = some bs → DrL G M H ds vs → vs = bs.map V.bl
  | [], bs, vs, e, r => by cases e; exact r
  | d :: ds, bs, vs, e, r => by
    obtain ⟨v, ws, rfl, q, t⟩ := r
    cases d with
    | bl b =>
      unfold boolsOf at e
      cases e1 : boolsOf ds with
      | none => rw [e1] at e; cases e
      | some cs =>
        rw [e1] at e
        cases e
        rw [bools_v e1 t, show v = .bl b from q] <;> rfl
    | _ => cases e
theorem ints_v : ∀ {ds : List D} {bs : List Int} {vs : List V}, intsOf ds = some bs → DrL G M H ds vs → vs = bs.map V.int
  | [], bs, vs, e, r => by cases e; exact r
  | d :: ds, bs, vs, e, r => by
    obtain ⟨v, ws, rfl, q, t⟩ := r
    cases d with
    | int b =>
      unfold intsOf at e
      cases e1 : intsOf ds with
      | none => rw [e1] at e; cases e
      | some cs =>
        rw [e1] at e
        cases e
        rw [ints_v e1 t, show v = .int b from q] <;> rfl
    | _ => cases e
theorem ints_d : ∀ (ns : List Int), DrL G M H (ns.map D.int) (ns.map V.int)
  | [] => rfl
  | n :: ns => ⟨_, _, rfl, rfl, ints_d ns⟩
theorem one_v {d : D} {vs : List V} (r : DrL G M H [d] vs) : ∃ v, vs = [v] ∧ Dr G M H d v := by
  obtain ⟨v, ws, rfl, q, t⟩ := r
  exact ⟨v, by rw [show ws = [] from t], q⟩
theorem two_v {d e : D} {vs : List V} (r : DrL G M H [d, e] vs) : ∃ v w, vs = [v, w] ∧ Dr G M H d v ∧ Dr G M H e w := by
  obtain ⟨v, ws, rfl, q, t⟩ := r
  obtain ⟨w, rfl, q2⟩ := one_v t
  exact ⟨v, w, rfl, q, q2⟩
end
def fAll : List D → Res D
  | [.lst l] => (Res.of (boolsOf l)).bind fun bs => .ok (.bl (bs.all id))
  | _ => .fail
def fAny : List D → Res D
  | [.lst l] => (Res.of (boolsOf l)).bind fun bs => .ok (.bl (bs.any id))
  | _ => .fail
def fSum : List D → Res D
  | [.lst l] => (Res.of (intsOf l)).bind fun bs => .ok (.int bs.sum)
  | _ => .fail
def fAbs : List D → Res D
  | [.int i] => .ok (.int (if i < 0 then -i else i))
  | _ => .fail
def fMax2 : List D → Res D
  | [.int i, .int j] => .ok (.int (if j > i then j else i))
  | _ => .fail
def fMin2 : List D → Res D
  | [.int i, .int j] => .ok (.int (if j < i then j else i))
  | _ => .fail
def fInt : List D → Res D
  | [.int i] => .ok (.int i)
  | [.bl k] => .ok (.int (if k then 1 else 0))
  | _ => .fail
def fGcd : List D → Res D
  | [.int i, .int j] => .ok (.int (Nat.gcd i.natAbs j.natAbs : Nat))
  | _ => .fail
/-- ints in ascending order -/
def insI (x : Int) : List Int → List Int
  | [] => [x]
  | y :: ys => if x ≤ y then x :: y :: ys else y :: insI x ys
def sortI : List Int → List Int
  | [] => []
  | x :: xs => insI x (sortI xs)
theorem insI_perm (x : Int) : ∀ l : List Int, (insI x l).Perm (x :: l)
  | [] => .refl _
  | y :: ys => by
    unfold insI
    split
    · exact .refl _
    · exact ((insI_perm x ys).cons y).trans (.swap x y ys)
theorem sortI_perm : ∀ l : List Int, (sortI l).Perm l
  | [] => .refl _
  | x :: xs => (insI_perm x _).trans ((sortI_perm xs).cons x)
theorem insI_sorted (x : Int) : ∀ l : List Int, l.Pairwise (· ≤ ·) → (insI x l).Pairwise (· ≤ ·)
  | [], _ => by simp [insI]
  | y :: ys, h => by
    unfold insI
    rw [List.pairwise_cons] at h
    split
    · rename_i hxy
      rw [List.pairwise_cons]
      refine ⟨fun z hz => ?_, by rw [List.pairwise_cons]; exact h⟩
      rcases List.mem_cons.mp hz with rfl | hz
      · exact hxy
      · exact Int.le_trans hxy (h.1 z hz)
    · rename_i hxy
      rw [List.pairwise_cons]
      refine ⟨fun z hz => ?_, insI_sorted x ys h.2⟩
      rcases List.mem_cons.mp ((insI_perm x ys).mem_iff.mp hz) with rfl | hz
      · omega
      · exact h.1 z hz
theorem sortI_sorted : ∀ l : List Int, (sortI l).Pairwise (· ≤ ·)
  | [] => .nil
  | x :: xs => insI_sorted x _ (sortI_sorted xs)
theorem sortI_uniq {a b : List Int} (hp : a.Perm b) (ha : a.Pairwise (· ≤ ·)) : a = sortI b := PySem.W.ksm_same (hp.trans (sortI_perm b).symm) ha (sortI_sorted b)
def fSorted : List D → Res D
  | [.lst l] => (Res.of (intsOf l)).bind fun bs => if bs.length < 64 then .ok (.lst ((sortI bs).map D.int)) else .fail
  | _ => .fail
def fTuple : List D → Res D
  | [.lst l] => .ok (.tup l)
  | [.tup l] => .ok (.tup l)
  | _ => .fail
def fList : List D → Res D
  | [.lst l] => .ok (.lst l)
  | [.tup l] => .ok (.lst l)
  | _ => .fail
section
variable {G : Gx}
abbrev rLen (K : PySem.W.Frag) : List V → Hp → VK → Prop := fun xs H Q => ∃ x n, xs = [x] ∧ LenV K x H n ∧ Q (.int n) H
theorem fd_len : FnD G (rLen G.K) fLen := by
  intro ι M H ds d vs Q hm r e hq
  unfold fLen at e
  split at e
  · rename_i l
    obtain ⟨v, rfl, a, xs, rfl, s, q⟩ := one_v r
    cases e
    refine ⟨_, xs.length, rfl, .inr ⟨xs, s.sq, rfl⟩, ?_⟩
    rw [q.length]
    exact hq _ _ (.refl _ _) rfl
  · rename_i l
    obtain ⟨v, rfl, a, xs, rfl, n, s, q⟩ := one_v r
    cases e
    refine ⟨_, xs.length, rfl, .inl ⟨xs, SqL.of s, rfl⟩, ?_⟩
    rw [q.length]
    exact hq _ _ (.refl _ _) rfl
  · rename_i l
    obtain ⟨v, rfl, a, xs, rfl, s, q⟩ := one_v r
    cases e
    refine ⟨_, xs.length, rfl, .inl ⟨xs, s.sq, rfl⟩, ?_⟩
    rw [q.length]
    exact hq _ _ (.refl _ _) rfl
  · rename_i z
    obtain ⟨v, rfl, q⟩ := one_v r
    obtain rfl : v = .str z := q
    split at e
    · rename_i hz
      cases e
      exact ⟨_, z.length, rfl, ⟨big hz, rfl⟩, hq _ _ (.refl _ _) rfl⟩
    · cases e
  · cases e
theorem fd_all : FnD G (rAll G.K) fAll := by
  intro ι M H ds d vs Q hm r e hq
  unfold fAll at e
  split at e
  · rename_i l
    obtain ⟨v, rfl, a, xs, rfl, n, s, q⟩ := one_v r
    cases eb : boolsOf l with
    | none => rw [eb] at e; cases e
    | some bs =>
      rw [eb] at e
      cases e
      exact ⟨a, bs, rfl, by rw [← bools_v eb q]; exact SqL.of s, hq _ _ (.refl _ _) rfl⟩
  · cases e
theorem fd_any : FnD G (rAny G.K) fAny := by
  intro ι M H ds d vs Q hm r e hq
  unfold fAny at e
  split at e
  · rename_i l
    obtain ⟨v, rfl, a, xs, rfl, n, s, q⟩ := one_v r
    cases eb : boolsOf l with
    | none => rw [eb] at e; cases e
    | some bs =>
      rw [eb] at e
      cases e
      exact ⟨a, bs, rfl, by rw [← bools_v eb q]; exact SqL.of s, hq _ _ (.refl _ _) rfl⟩
  · cases e
theorem fd_sum : FnD G (rSum G.K) fSum := by
  intro ι M H ds d vs Q hm r e hq
  unfold fSum at e
  split at e
  · rename_i l
    obtain ⟨v, rfl, a, xs, rfl, n, s, q⟩ := one_v r
    cases eb : intsOf l with
    | none => rw [eb] at e; cases e
    | some bs =>
      rw [eb] at e
      cases e
      exact ⟨a, bs, rfl, by rw [← ints_v eb q]; exact SqL.of s, hq _ _ (.refl _ _) rfl⟩
  · cases e
theorem fd_sorted : FnD G (rSorted G.K) fSorted := by
  intro ι M H ds d vs Q hm r e hq
  unfold fSorted at e
  split at e
  · rename_i l
    obtain ⟨v, rfl, a, xs, rfl, n, s, q⟩ := one_v r
    cases eb : intsOf l with
    | none => rw [eb] at e; cases e
    | some bs =>
      rw [eb] at e
      simp only [Res.of_some, Res.bind_ok] at e
      split at e
      · rename_i h64
        cases e
        refine ⟨a, bs, rfl, by rw [← ints_v eb q]; exact SqL.of s, h64, fun ns' p hp hs hn => ?_⟩
        rw [sortI_uniq hp hs]
        exact hq _ _ (.new hn) (.lstN (ints_d _) hn hm)
      · cases e
  · cases e
theorem fd_tuple : FnD G (fun xs H Q => ∃ p ys, xs = [.ref p] ∧ ((SqL G.K H p ys ∧ NewT H ys Q) ∨ (SqT G.K H p ys ∧ Q (.ref p) H))) fTuple := by
  intro ι M H ds d vs Q hm r e hq
  unfold fTuple at e
  split at e
  · rename_i l
    obtain ⟨v, rfl, a, xs, rfl, n, s, q⟩ := one_v r
    cases e
    exact ⟨a, xs, rfl, .inl ⟨SqL.of s, fun p o hp hn => hq _ _ (.new hp) (.tupN q hp hn)⟩⟩
  · rename_i l
    obtain ⟨v, rfl, a, xs, rfl, s, q⟩ := one_v r
    cases e
    exact ⟨a, xs, rfl, .inr ⟨s.sq, hq _ _ (.refl _ _) ⟨a, xs, rfl, s, q⟩⟩⟩
  · cases e
theorem fd_list : FnD G (fun xs H Q => ∃ p ys, xs = [.ref p] ∧ (SqL G.K H p ys ∨ SqT G.K H p ys) ∧ ∀ l, H l = none → Q (.ref l) (upd H l (.lst ys))) fList := by
  intro ι M H ds d vs Q hm r e hq
  unfold fList at e
  split at e
  · rename_i l
    obtain ⟨v, rfl, a, xs, rfl, n, s, q⟩ := one_v r
    cases e
    exact ⟨a, xs, rfl, .inl (SqL.of s), fun p hp => hq _ _ (.new hp) (.lstN q hp hm)⟩
  · rename_i l
    obtain ⟨v, rfl, a, xs, rfl, s, q⟩ := one_v r
    cases e
    exact ⟨a, xs, rfl, .inr s.sq, fun p hp => hq _ _ (.new hp) (.lstN q hp hm)⟩
  · cases e
theorem fd_abs : FnD G (fun xs H Q => ∃ i, xs = [.int i] ∧ Q (.int (if i < 0 then -i else i)) H) fAbs := by
  intro ι M H ds d vs Q hm r e hq
  unfold fAbs at e
  split at e
  · rename_i i
    obtain ⟨v, rfl, q⟩ := one_v r
    obtain rfl : v = .int i := q
    cases e
    exact ⟨i, rfl, hq _ _ (.refl _ _) rfl⟩
  · cases e
theorem fd_max2 : FnD G (fun xs H Q => ∃ i j, xs = [.int i, .int j] ∧ Q (.int (if j > i then j else i)) H) fMax2 := by
  intro ι M H ds d vs Q hm r e hq
  unfold fMax2 at e
  split at e
  · rename_i i j
    obtain ⟨v, w, rfl, q, q2⟩ := two_v r
    obtain rfl : v = .int i := q
    obtain rfl : w = .int j := q2
    cases e
    exact ⟨i, j, rfl, hq _ _ (.refl _ _) rfl⟩
  · cases e
theorem fd_min2 : FnD G (fun xs H Q => ∃ i j, xs = [.int i, .int j] ∧ Q (.int (if j < i then j else i)) H) fMin2 := by
  intro ι M H ds d vs Q hm r e hq
  unfold fMin2 at e
  split at e
  · rename_i i j
    obtain ⟨v, w, rfl, q, q2⟩ := two_v r
    obtain rfl : v = .int i := q
    obtain rfl : w = .int j := q2
    cases e
    exact ⟨i, j, rfl, hq _ _ (.refl _ _) rfl⟩
  · cases e
theorem fd_gcd : FnD G rGcd fGcd := by
  intro ι M H ds d vs Q hm r e hq
  unfold fGcd at e
  split at e
  · rename_i i j
    obtain ⟨v, w, rfl, q, q2⟩ := two_v r
    obtain rfl : v = .int i := q
    obtain rfl : w = .int j := q2
    cases e
    exact ⟨i, j, rfl, hq _ _ (.refl _ _) rfl⟩
  · cases e
theorem fd_int : FnD G (fun xs H Q => (∃ i, xs = [.int i] ∧ Q (.int i) H) ∨ ∃ k, xs = [.bl k] ∧ Q (.int (if k then 1 else 0)) H) fInt := by
  intro ι M H ds d vs Q hm r e hq
  unfold fInt at e
  split at e
  · rename_i i
    obtain ⟨v, rfl, q⟩ := one_v r
    obtain rfl : v = .int i := q
    cases e
    exact .inl ⟨i, rfl, hq _ _ (.refl _ _) rfl⟩
  · rename_i k
    obtain ⟨v, rfl, q⟩ := one_v r
    obtain rfl : v = .bl k := q
    cases e
    exact .inr ⟨k, rfl, hq _ _ (.refl _ _) rfl⟩
  · cases e
end
/-- a built-in function tells no own exception -/
def NoXc (g : List D → Res D) : Prop := ∀ ds c d π, g ds ≠ .xc c d π
theorem of_noxc {α β : Type} {o : Option α} {f : α → Res β} {c : Nat} {d : D} {π : Store} (h : ∀ a, f a ≠ .xc c d π) : (Res.of o).bind f ≠ .xc c d π := by
  cases o with
  | none => exact fun z => nomatch z
  | some a => exact h a
theorem nx_len : NoXc fLen := fun ds c d π => by
  unfold fLen
  split
  · exact fun z => nomatch z
  · exact fun z => nomatch z
  · exact fun z => nomatch z
  · split <;> exact fun z => nomatch z
  · exact fun z => nomatch z
theorem nx_all : NoXc fAll := fun ds c d π => by
  unfold fAll
  split
  · exact of_noxc fun _ z => nomatch z
  · exact fun z => nomatch z
theorem nx_any : NoXc fAny := fun ds c d π => by
  unfold fAny
  split
  · exact of_noxc fun _ z => nomatch z
  · exact fun z => nomatch z
theorem nx_sum : NoXc fSum := fun ds c d π => by
  unfold fSum
  split
  · exact of_noxc fun _ z => nomatch z
  · exact fun z => nomatch z
theorem nx_sorted : NoXc fSorted := fun ds c d π => by
  unfold fSorted
  split
  · exact of_noxc fun _ => by split <;> exact fun z => nomatch z
  · exact fun z => nomatch z
theorem nx_tuple : NoXc fTuple := fun ds c d π => by unfold fTuple; split <;> exact fun z => nomatch z
theorem nx_list : NoXc fList := fun ds c d π => by unfold fList; split <;> exact fun z => nomatch z
theorem nx_abs : NoXc fAbs := fun ds c d π => by unfold fAbs; split <;> exact fun z => nomatch z
theorem nx_max2 : NoXc fMax2 := fun ds c d π => by unfold fMax2; split <;> exact fun z => nomatch z
theorem nx_min2 : NoXc fMin2 := fun ds c d π => by unfold fMin2; split <;> exact fun z => nomatch z
theorem nx_gcd : NoXc fGcd := fun ds c d π => by unfold fGcd; split <;> exact fun z => nomatch z
theorem nx_int : NoXc fInt := fun ds c d π => by unfold fInt; split <;> exact fun z => nomatch z

section
variable {X : Cx} {F : Fx} {E : XK} {e a b c : Expr} {es : List Expr} {pos p : Pos} {fa fb fc fe : SE} {as : SA} {x : Str} {g : List D → Res D} {r : List V → Hp → VK → Prop} {id T : String}
theorem x_callB (hc : CallR X (.builtin id) r) (hf : FnD F.G r g) (nx : NoXc g) (hm : X.mg x = none) (hv : bootBuiltins x = some (.builtin id)) (ha : PA X (e :: es) (tXA F E as)) (hg : Gl X x := by rfl) (hn : x ≠ "__name__" := by decide) (hdb : (x == ("__debug__" : Str)) = false := by decide)
    (he : starEach (e :: es) X.env = (false, eval e X.env) :: starEach es X.env := by rfl) (hpl : (backTo pos (starEach es X.env)).any (·.1) = false := by rfl) : PE X (.Call (.Name x p) (e :: es) [] pos) (tX F E (eFn g as)) :=
  (pe_callB hc hg hm hv ha hn hdb he hpl).weak fun _ _ _ h => fn_weak nx hf h
theorem x_callT (hc : CallR X (.type T) r) (hf : FnD F.G r g) (nx : NoXc g) (hm : X.mg x = none) (hv : bootBuiltins x = some (.type T)) (ha : PA X (e :: es) (tXA F E as)) (hg : Gl X x := by rfl) (hn : x ≠ "__name__" := by decide) (hdb : (x == ("__debug__" : Str)) = false := by decide)
    (he : starEach (e :: es) X.env = (false, eval e X.env) :: starEach es X.env := by rfl) (hpl : (backTo pos (starEach es X.env)).any (·.1) = false := by rfl) : PE X (.Call (.Name x p) (e :: es) [] pos) (tX F E (eFn g as)) :=
  (pe_callTy hc hg hm hv ha hn hdb he hpl).weak fun _ _ _ h => fn_weak nx hf h
theorem x_gcd (hm : X.mg x = some (.builtin "math.gcd")) (ha : PA X (e :: es) (tXA F E as)) (hg : Gl X x := by rfl) (hdb : (x == ("__debug__" : Str)) = false := by decide)
    (he : starEach (e :: es) X.env = (false, eval e X.env) :: starEach es X.env := by rfl) (hpl : (backTo pos (starEach es X.env)).any (·.1) = false := by rfl) : PE X (.Call (.Name x p) (e :: es) [] pos) (tX F E (eFn fGcd as)) :=
  (pe_callBfun cr_gcd hg hm ha hdb he hpl).weak fun _ _ _ h => fn_weak nx_gcd fd_gcd h
theorem x_chain {op op' : CmpOp} {r r' : R2} {o o' : D → D → Option D} (hr : OpR X (compareOp op) r) (hr' : OpR X (compareOp op') r') (ho : OpD F.G r o) (ho' : OpD F.G r' o') (ha : PE X a (tX F E fa)) (hb : PE X b (tX F E fb)) (hcc : PE X c (tX F E fc))
    (hm : lastMarks [op, op'] [b, c] = false := by with_unfolding_all rfl) : PE X (.Compare a [op, op'] [b, c] pos) (tX F E (eChain o o' fa fb fc)) := (pe_chain hr hr' ha hb hcc hm).weak fun σ H Q h => by
  obtain ⟨ι, ρ, π, A, h⟩ := h
  refine ⟨ι, ρ, π, A, Go.mono (fun p hp x ι1 H1 A1 e1 r1 => ⟨ι1, ρ, p.2, A1, Go.mono (fun q hq y ι2 H2 A2 e2 r2 => ?_) (Go.bind hp)⟩) (Go.bind h)⟩
  have hq := Go.bind hq
  cases e : o p.1 q.1 with
  | none => rw [e] at hq; exact hq.elim
  | some d =>
    rw [e] at hq
    have hq : Go F E _ _ := Go.bind (r := bl? d) hq
    refine ho _ _ _ _ _ _ _ _ _ A2.mx (Dr.gr e2 (fun _ z => z.elim) r1) r2 e fun v H3 x3 r3 => ?_
    cases d with
    | bl k =>
      refine ⟨k, r3, ?_⟩
      cases k with
      | true =>
        have hq := Go.bind (show Go F E ((fc ρ q.2).bind fun u => (Res.of (o' q.1 u.1)).bind fun w => .ok (w, u.2)) _ from hq)
        show tX F E fc σ H3 _
        refine ⟨ι2, ρ, q.2, A2.same x3, Go.mono (fun u hu z ι4 H4 A4 e4 r4 => ?_) hq⟩
        have hu := Go.bind hu
        cases e5 : o' q.1 u.1 with
        | none => rw [e5] at hu; exact hu.elim
        | some w =>
          rw [e5] at hu
          have hu : Kv F ι σ ρ π H Q (w, u.2) := hu
          have g34 : Gr Nm ι2 q.2 H2 ι4 u.2 H4 := (Gr.of_ev x3).trans e4
          exact ho' _ _ _ _ _ _ _ _ _ A4.mx (Dr.gr g34 (fun _ z => z.elim) r2) r4 e5 fun v H5 x5 r5 => hu v _ H5 (A4.same x5) (((e1.trans e2).trans g34).trans (.of_ev x5)) r5
      | false =>
        have hq : Kv F ι σ ρ π H Q (.bl false, q.2) := hq
        show Q (.bl false) H3
        exact hq _ _ H3 (A2.same x3) ((e1.trans e2).trans (.of_ev x3)) rfl
    | _ => exact hq.elim
end
end Ph
end
section
set_option Elab.async false
set_option linter.all false
set_option maxRecDepth 100000
/-! Ph, part G: isinstance, slices, zip, fields, methods of built-in types, raise; a def as a whole. -/
namespace Ph
open PySem PySem.Spec PyProof.Rows L2

/-! ### isinstance -/
/-- the name of a built-in type of data; instances have none -/
def tyName : D → Option String
  | .non => some "NoneType"
  | .bl _ => some "bool"
  | .int _ => some "int"
  | .str _ => some "str"
  | .tup _ => some "tuple"
  | .lst _ => some "list"
  | .dic => some "dict"
  | .ptup _ => some "tuple"
  | .obj _ _ => none
  | .ptr _ => none
  | .fn _ => none
  | .scr _ => none
/-- isinstance(d, T), T built in -/
def dIs (T : String) (d : D) : Option D := (tyName d).bind fun n => (kitB n T).map fun b => .bl b
theorem ty_t {K : PySem.W.Frag} {H : Hp} {a : Addr} {xs : List V} (s : SqT K H a xs) : TyX K H (.ref a) (.type "tuple") := by
  rcases s with (s | ⟨o, s⟩) | ⟨o, its, n, h1, h2, _⟩
  · exact .base (.tup s)
  · exact .fTuple s
  · exact .kTuple h1 h2
theorem ty_x {G : Gx} {M : Addr → Prop} {H : Hp} {d : D} {v : V} {n : String} (h : tyName d = some n) (r : Dr G M H d v) : TyX G.K H v (.type n) := by
  cases d with
  | non => cases h; rw [show v = .non from r]; exact .base .non
  | bl b => cases h; rw [show v = .bl b from r]; exact .base (.bl b)
  | int i => cases h; rw [show v = .int i from r]; exact .base (.int i)
  | str s => cases h; rw [show v = .str s from r]; exact .base (.str s)
  | tup l =>
    cases h
    obtain ⟨a, xs, rfl, s, _⟩ := r
    exact ty_t s.sq
  | ptup l =>
    cases h
    obtain ⟨a, xs, rfl, s, _⟩ := r
    exact ty_t s
  | lst l =>
    cases h
    obtain ⟨a, xs, rfl, _, s, _⟩ := r
    exact .base (.lst s)
  | dic =>
    cases h
    obtain ⟨a, rfl, _, s⟩ := r
    exact .base (.dK s)
  | obj c l => cases h
  | ptr n => cases h
  | fn a => cases h
  | scr l => cases h
/-- isinstance(d, C), C the own class of number c; the written part tells it of built-in types and of the own classes ks -/
structure IsC (G : Gx) (C : Addr) (c : Nat) (ks : List Nat) : Prop where
  cls : G.cls c = C
  no : ∀ n ∈ ["NoneType", "bool", "int", "str", "tuple", "list", "dict"], PySem.W.kitOne G.K (.type n) (.ref C) = some false
  yes : PySem.W.kitOne G.K (.ref C) (.ref C) = some true
  oth : ∀ k ∈ ks, PySem.W.kitOne G.K (.ref (G.cls k)) (.ref C) = some false
  tyx : ∀ k ∈ c :: ks, ∀ (H : Hp) (a dx : Addr) (fs : List (Str × V)), H a = some (.ins (G.cls k) dx fs) → TyX G.K H (.ref a) (.ref (G.cls k))
/-- the own class of an instance -/
def clsD (d : D) (π : Store) : Option Nat := match d with
  | .obj k _ => some k
  | .ptr n => match π[n]? with
    | some (.ins k _) => some k
    | _ => none
  | _ => none
def dIsC (c : Nat) (ks : List Nat) (d : D) (π : Store) : Option D :=
  match d with
  | .fn _ | .scr _ => none
  | .obj _ _ | .ptr _ => (clsD d π).bind fun k => if k = c then some (.bl true) else if ks.contains k = true then some (.bl false) else none
  | _ => some (.bl false)
def eUnS (op : D → Store → Option D) (a : SE) : SE := fun ρ π => (a ρ π).bind fun x => (Res.of (op x.1 x.2)).bind fun z => .ok (z, x.2)
theorem inst_at {F : Fx} {ι : List Addr} {σ : L2.St} {ρ : En} {π : Store} {H : Hp} {d : D} {v : V} {c : Nat} (A : At F ι σ ρ π H) (r : Dr (F.G.at ι) (Mu F.M0 ι π) H d v) (h : clsD d π = some c) :
    ∃ a dx xs, v = .ref a ∧ H a = some (.ins (F.G.cls c) dx ((F.G.flds c).zip xs)) := by
  cases d with
  | obj k l =>
    cases h
    obtain ⟨a, dx, xs, e, _, s, _⟩ := r
    exact ⟨a, dx, xs, e, s⟩
  | ptr n =>
    obtain ⟨a, e, ea⟩ := r
    cases ec : π[n]? with
    | none => simp only [clsD, ec] at h; cases h
    | some cl =>
      cases cl with
      | ins k l =>
        simp only [clsD, ec] at h
        cases h
        obtain ⟨b, eb, dx, xs, s, _⟩ := A.wo.wd.cel n _ ec
        have eb' : ι[n]? = some b := eb
        have ea' : ι[n]? = some a := ea
        rw [ea'] at eb'
        cases eb'
        exact ⟨a, dx, xs, e, s⟩
      | lst l => simp only [clsD, ec] at h; cases h
      | dct l => simp only [clsD, ec] at h; cases h
      | tab b q => simp only [clsD, ec] at h; cases h
      | gone => simp only [clsD, ec] at h; cases h
      | dki _ => simp only [clsD, ec] at h; cases h
      | dkt _ => simp only [clsD, ec] at h; cases h
  | _ => cases h
section
variable {X : Cx} {F : Fx} {E : XK} {e : Expr} {pos p p2 : Pos} {fe : SE}
theorem isi_weak {T : String} {σ : L2.St} {H : Hp} {Q : VK} (hK : F.G.K = X.K) (h : tX F E (eUn (dIs T) fe) σ H Q) : tCB (rIsi X.K) (tCons (tX F E fe) (tCons (tC (.ty T)) tNil)) σ H Q := by
  obtain ⟨ι, ρ, π, A, h⟩ := h
  refine ⟨ι, ρ, π, A, Go.mono (fun p hp v ι1 H1 A1 e1 r1 => ?_) (Go.bind h)⟩
  have hq := Go.bind hp
  cases ed : dIs T p.1 with
  | none => rw [ed] at hq; exact hq.elim
  | some d =>
    rw [ed] at hq
    have hq : Kv F ι σ ρ π H Q (d, p.2) := hq
    unfold dIs at ed
    cases en : tyName p.1 with
    | none => rw [en] at ed; cases ed
    | some n =>
      rw [en] at ed
      cases ek : kitB n T with
      | none => rw [Option.bind_some, ek] at ed; cases ed
      | some b =>
        rw [Option.bind_some, ek] at ed
        cases ed
        refine ⟨v, .ty T, .type n, .type T, b, rfl, .ty T, ?_, kit_ty ek, hq _ ι1 H1 A1 e1 rfl⟩
        rw [← hK]
        exact ty_x (G := F.G.at ι1) en r1
theorem x_is {T : String} {y : Str} (hm : X.mg "isinstance" = none) (hmT : X.mg y = none) (hv : bootBuiltins y = some (.type T)) (he : PE X e (tX F E fe)) (hK : F.G.K = X.K := by rfl) (hg : Gl X "isinstance" := by rfl) (hgT : Gl X y := by rfl) (hn : y ≠ "__name__" := by decide) (hd : (y == ("__debug__" : Str)) = false := by decide)
    (hs : starEach (e :: [.Name y p2]) X.env = (false, eval e X.env) :: starEach [.Name y p2] X.env := by rfl) (hpl : (backTo pos (starEach [.Name y p2] X.env)).any (·.1) = false := by rfl) :
    PE X (.Call (.Name "isinstance" p) [e, .Name y p2] [] pos) (tX F E (eUn (dIs T) fe)) :=
  (pe_callB call_isi hg hm (by decide +kernel) (pa_cons he (pa_cons (pe_bltn (v := .ty T) hgT hmT hv rfl hn hd) pa_nil) hs) (by decide) (by decide) hs hpl).weak fun _ _ _ h => isi_weak hK h
theorem x_isC {C : Addr} {c : Nat} {ks : List Nat} {y : Str} (I : IsC F.G C c ks) (hm : X.mg "isinstance" = none) (hmT : X.mg y = some (.ref C)) (he : PE X e (tX F E fe)) (hK : F.G.K = X.K := by rfl) (hg : Gl X "isinstance" := by rfl) (hgT : Gl X y := by rfl) (hd : (y == ("__debug__" : Str)) = false := by decide)
    (hs : starEach (e :: [.Name y p2]) X.env = (false, eval e X.env) :: starEach [.Name y p2] X.env := by rfl) (hpl : (backTo pos (starEach [.Name y p2] X.env)).any (·.1) = false := by rfl) :
    PE X (.Call (.Name "isinstance" p) [e, .Name y p2] [] pos) (tX F E (eUnS (dIsC c ks) fe)) :=
  (pe_callB call_isi hg hm (by decide +kernel) (pa_cons he (pa_cons (pe_glob (v := .ref C) hgT hmT rfl hd) pa_nil) hs) (by decide) (by decide) hs hpl).weak fun σ H Q h => by
    obtain ⟨ι, ρ, π, A, h⟩ := h
    refine ⟨ι, ρ, π, A, Go.mono (fun p hp v ι1 H1 A1 e1 r1 => ?_) (Go.bind h)⟩
    have hq := Go.bind hp
    have go : ∀ (n : String), n ∈ ["NoneType", "bool", "int", "str", "tuple", "list", "dict"] → tyName p.1 = some n → dIsC c ks p.1 p.2 = some (.bl false) → rIsi X.K [v, .ref C] H1 Q := fun n hn e1' e2' => by
      rw [e2'] at hq
      have hq : Kv F ι σ ρ π H Q (.bl false, p.2) := hq
      refine ⟨v, .ref C, .type n, .ref C, false, rfl, .own C, by rw [← hK]; exact ty_x (G := F.G.at ι1) e1' r1, by rw [← hK]; exact I.no n hn, hq _ ι1 H1 A1 e1 rfl⟩
    have goI : ∀ o : Option Nat, clsD p.1 p.2 = o → dIsC c ks p.1 p.2 = (o.bind fun k => if k = c then some (D.bl true) else if ks.contains k = true then some (.bl false) else none) → rIsi X.K [v, .ref C] H1 Q := fun o eo ed => by
      rw [ed] at hq
      cases o with
      | none => exact hq.elim
      | some k =>
        obtain ⟨a, dx, xs, rfl, s⟩ := inst_at A1 r1 eo
        rw [Option.bind_some] at hq
        by_cases hk : k = c
        · rw [if_pos hk] at hq
          have hq : Kv F ι σ ρ π H Q (.bl true, p.2) := hq
          subst hk
          have ty := I.tyx k List.mem_cons_self H1 a dx _ s
          rw [I.cls] at ty
          exact ⟨.ref a, .ref C, .ref C, .ref C, true, rfl, .own C, by rw [← hK]; exact ty, by rw [← hK]; exact I.yes, hq _ ι1 H1 A1 e1 rfl⟩
        · rw [if_neg hk] at hq
          by_cases hk2 : ks.contains k = true
          · rw [if_pos hk2] at hq
            have hq : Kv F ι σ ρ π H Q (.bl false, p.2) := hq
            have hm := List.contains_iff_mem.mp hk2
            exact ⟨.ref a, .ref C, .ref (F.G.cls k), .ref C, false, rfl, .own C, by rw [← hK]; exact I.tyx k (List.mem_cons_of_mem _ hm) H1 a dx _ s, by rw [← hK]; exact I.oth k hm, hq _ ι1 H1 A1 e1 rfl⟩
          · rw [if_neg hk2] at hq
            exact hq.elim
    obtain ⟨d, π1⟩ := p
    cases d with
    | obj k l => exact goI _ rfl rfl
    | ptr n => exact goI _ rfl rfl
    | non => exact go "NoneType" (by decide) rfl rfl
    | bl b => exact go "bool" (by decide) rfl rfl
    | int i => exact go "int" (by decide) rfl rfl
    | str s => exact go "str" (by decide) rfl rfl
    | tup l => exact go "tuple" (by decide) rfl rfl
    | lst l => exact go "list" (by decide) rfl rfl
    | dic => exact go "dict" (by decide) rfl rfl
    | ptup l => exact go "tuple" (by decide) rfl rfl
    | fn a => exact hq.elim
    | scr l => exact hq.elim
end

/-! ### slices -/
abbrev SO := En → Store → Res (Option Int × Store)
def tXO (F : Fx) (E : XK) (f : SO) : TO := fun σ H Q => ∃ ι ρ π, At F ι σ ρ π H ∧ Go F E (f ρ π) fun p => ∀ ι' H', At F ι' σ ρ p.2 H' → Gr Nm ι π H ι' p.2 H' → Q p.1 H'
def oNone : SO := fun _ π => .ok (none, π)
def int? : D → Res Int
  | .int i => .ok i
  | _ => .fail
def oSome (e : SE) : SO := fun ρ π => (e ρ π).bind fun p => (int? p.1).bind fun i => .ok (some i, p.2)
def cutD (l : List D) (lo hi : Option Int) : List D := (l.drop (HT.sIx l.length 0 lo)).take (HT.sIx l.length l.length hi - HT.sIx l.length 0 lo)
def eSl (e : SE) (lo hi : SO) : SE := fun ρ π => (e ρ π).bind fun p => (lo ρ p.2).bind fun q => (hi ρ q.2).bind fun r =>
  match p.1 with
  | .tup l => .ok (.tup (cutD l q.1 r.1), r.2)
  | .lst l => .ok (.lst (cutD l q.1 r.1), r.2)
  | .scr l => .ok (.lst (cutD l q.1 r.1), r.2)
  | _ => .fail
theorem cut_dr {G : Gx} {M : Addr → Prop} {H : Hp} {l : List D} {xs : List V} (r : DrL G M H l xs) (lo hi : Option Int) : DrL G M H (cutD l lo hi) (cutV xs lo hi) := by
  unfold cutD cutV
  rw [r.length]
  exact DrL.take _ (DrL.drop _ r)
section
variable {X : Cx} {F : Fx} {E : XK} {e : Expr} {lo hi : Option Expr} {pos p2 : Pos} {fe : SE} {fl fh : SO}
theorem _root_.L2.PO.weak {X : Cx} {e : Option Expr} {t t' : TO} (h : PO X e t) (w : ∀ σ H Q, t' σ H Q → t σ H Q) : PO X e t' := ⟨fun pins s σ H Q I q => h.run pins s σ H Q I (w σ H Q q)⟩
theorem xo_none : PO X none (tXO F E oNone) := po_none.weak fun σ H Q h => by
  obtain ⟨ι, ρ, π, A, h⟩ := h
  exact h ι H A (.refl _ _ _ _)
theorem xo_some (he : PE X e (tX F E fe)) : PO X (some e) (tXO F E (oSome fe)) := (po_some he).weak fun σ H Q h => by
  obtain ⟨ι, ρ, π, A, h⟩ := h
  refine ⟨ι, ρ, π, A, Go.mono (fun p hp v ι' H' A1 e1 r1 => ?_) (Go.bind h)⟩
  have hq := Go.bind hp
  cases e : p.1 with
  | int i =>
    rw [e] at hq r1
    exact ⟨i, r1, hq ι' H' A1 e1⟩
  | _ => rw [e] at hq; exact hq.elim
/-- the bounds of a slice -/
def eSlB (e : SE) (lo hi : SO) (g : D → Option Int → Option Int → Store → Res (D × Store)) : SE := fun ρ π => (e ρ π).bind fun p => (lo ρ p.2).bind fun q => (hi ρ q.2).bind fun r => g p.1 q.1 r.1 r.2
theorem x_slice (he : PE X e (tX F E fe)) (hl : PO X lo (tXO F E fl)) (hh : PO X hi (tXO F E fh)) (hK : F.G.K = X.K := by rfl) : PE X (.Subscript e (.Slice lo hi none p2) pos) (tX F E (eSl fe fl fh)) :=
  (pe_slice (sl_tupF.or sl_list) he hl hh).weak fun σ H Q h => by
    obtain ⟨ι, ρ, π, A, h⟩ := h
    refine ⟨ι, ρ, π, A, Go.mono (fun p hp v ι1 H1 A1 e1 r1 => ⟨ι1, ρ, p.2, A1, Go.mono (fun q hq ι2 H2 A2 e2 => ⟨ι2, ρ, q.2, A2, Go.mono (fun r hr ι3 H3 A3 e3 => ?_) (Go.bind hq)⟩) (Go.bind hp)⟩) (Go.bind h)⟩
    have r3 := Dr.gr (e2.trans e3) (fun _ z => z.elim) r1
    have ee := (e1.trans e2).trans e3
    cases e : p.1 with
    | tup l =>
      rw [e] at hr r3
      have hr : Kv F ι σ ρ π H Q (.tup (cutD l q.1 r.1), r.2) := hr
      obtain ⟨a, xs, rfl, s, rx⟩ := r3
      refine .inl ⟨a, xs, rfl, by rw [← hK]; exact s.sq, fun hw => ?_, fun hw n o hn hd => ?_⟩
      · refine hr _ ι3 H3 A3 ee ⟨a, xs, rfl, s, ?_⟩
        have e : cutD l q.1 r.1 = l := by
          unfold cutD
          rw [rx.length] at hw
          rw [hw.1, hw.2, Nat.sub_zero, List.drop_zero, List.take_length]
        rw [e]
        exact rx
      · exact hr _ ι3 _ (A3.same (.new hn)) (ee.trans (.of_ev (.new hn))) (.tupN (cut_dr rx _ _) hn hd)
    | lst l =>
      rw [e] at hr r3
      have hr : Kv F ι σ ρ π H Q (.lst (cutD l q.1 r.1), r.2) := hr
      obtain ⟨a, xs, rfl, n, s, rx⟩ := r3
      exact .inr ⟨a, xs, rfl, SqL.of s, fun p hp => hr _ ι3 _ (A3.same (.new hp)) (ee.trans (.of_ev (.new hp))) (.lstN (cut_dr rx _ _) hp A3.mx)⟩
    | scr l =>
      rw [e] at hr r3
      have hr : Kv F ι σ ρ π H Q (.lst (cutD l q.1 r.1), r.2) := hr
      obtain ⟨a, xs, rfl, s, rx⟩ := r3
      exact .inr ⟨a, xs, rfl, by rw [← hK]; exact s.sq, fun p hp => hr _ ι3 _ (A3.same (.new hp)) (ee.trans (.of_ev (.new hp))) (.lstN (cut_dr rx _ _) hp A3.mx)⟩
    | _ => rw [e] at hr; exact hr.elim
end

/-! ### fields of an instance that nobody changes -/
/-- the class of number c at C, its field f the i-th -/
structure FldC (G : Gx) (C : Addr) (c : Nat) (f : Str) (i : Nat) : Prop where
  cls : G.cls c = C
  cl : Cls G.K C
  no : NoAttr G.K C f
  at_ : (G.flds c)[i]? = some f
  nd : (G.flds c).Nodup
def dFld (c i : Nat) (d : D) (π : Store) : Option D := match d with
  | .obj k l => if k = c then l[i]? else none
  | .ptr n => match π[n]? with
    | some (.ins k l) => if k = c then l[i]? else none
    | _ => none
  | _ => none
theorem lookup_zip {N : List Str} (nd : N.Nodup) : ∀ {xs : List V} {i : Nat} {f : Str} {v : V}, N[i]? = some f → xs[i]? = some v → (N.zip xs).lookup f = some v := by
  induction N with
  | nil => intro xs i f v h; simp at h
  | cons g N ih =>
    intro xs i f v h1 h2
    rw [List.nodup_cons] at nd
    cases xs with
    | nil => simp at h2
    | cons x xs =>
      cases i with
      | zero =>
        simp at h1 h2
        subst h1 h2
        simp [List.lookup]
      | succ i =>
        have h1 : N[i]? = some f := by simpa using h1
        have h2 : xs[i]? = some v := by simpa using h2
        have ne : f ≠ g := fun z => nd.1 (by rw [← z]; exact List.mem_of_getElem? h1)
        have q : (f == g) = false := by simpa using ne
        simp only [List.zip_cons_cons, List.lookup, q]
        exact ih nd.2 h1 h2
section
variable {X : Cx} {F : Fx} {E : XK} {e : Expr} {f : Str} {pos : Pos} {fe : SE} {C : Addr} {c i : Nat}
theorem x_fld (I : FldC F.G C c f i) (he : PE X e (tX F E fe)) (hK : F.G.K = X.K := by rfl) (hb : attributeBase e f X.env (eval e X.env) = eval e X.env := by rfl) : PE X (.Attribute e f pos) (tX F E (eUnS (dFld c i) fe)) := (pe_fld he hb).weak fun σ H Q h => by
  obtain ⟨ι, ρ, π, A, h⟩ := h
  refine ⟨ι, ρ, π, A, Go.mono (fun p hp v ι1 H1 A1 e1 r1 => ?_) (Go.bind h)⟩
  have hq := Go.bind hp
  cases ed : dFld c i p.1 p.2 with
  | none => rw [ed] at hq; exact hq.elim
  | some d =>
    rw [ed] at hq
    have hq : Kv F ι σ ρ π H Q (d, p.2) := hq
    have go : ∀ k l, (if k = c then l[i]? else none) = some d → (∃ a dx xs, v = .ref a ∧ H1 a = some (.ins (F.G.cls k) dx ((F.G.flds k).zip xs)) ∧ DrL (F.G.at ι1) (Mu F.M0 ι1 p.2) H1 l xs) → ∃ a C dx fs u, v = .ref a ∧ H1 a = some (.ins C dx fs) ∧ Cls X.K C ∧ NoAttr X.K C f ∧ fs.lookup f = some u ∧ Q u H1 := fun k l ek q => by
      obtain ⟨a, dx, xs, rfl, s, rx⟩ := q
      split at ek
      · rename_i hk
        subst hk
        obtain ⟨u, e2, r2⟩ := rx.get ek
        rw [I.cls] at s
        exact ⟨a, C, dx, _, u, rfl, s, by rw [← hK]; exact I.cl, by rw [← hK]; exact I.no, lookup_zip I.nd I.at_ e2, hq _ ι1 H1 A1 e1 r2⟩
      · cases ek
    obtain ⟨d1, π1⟩ := p
    cases d1 with
    | obj k l =>
      obtain ⟨a, dx, xs, rfl, _, s, hl, rx⟩ := r1
      exact go k l ed ⟨a, dx, xs, rfl, s, rx⟩
    | ptr n =>
      obtain ⟨a, rfl, ea⟩ := r1
      cases ec : π1[n]? with
      | none => simp only [dFld, ec] at ed; cases ed
      | some cl =>
        cases cl with
        | ins k l =>
          simp only [dFld, ec] at ed
          obtain ⟨b, eb, dx, xs, s, _, rx⟩ := A1.wo.wd.cel n _ ec
          have ea' : ι1[n]? = some a := ea
          rw [ea'] at eb
          cases eb
          exact go k l ed ⟨a, dx, xs, rfl, s, rx⟩
        | lst l => simp only [dFld, ec] at ed; cases ed
        | dct l => simp only [dFld, ec] at ed; cases ed
        | tab b q => simp only [dFld, ec] at ed; cases ed
        | gone => simp only [dFld, ec] at ed; cases ed
        | dki _ => simp only [dFld, ec] at ed; cases ed
        | dkt _ => simp only [dFld, ec] at ed; cases ed
    | _ => cases ed
end

/-! ### t.index(x) of flat data -/
def rIndexT (K : PySem.W.Frag) : V → List V → Hp → VK → Prop := fun x xs H Q => ∃ (a : Addr) (ys : List V) (y : V) (j : Nat) (z : V), x = V.ref a ∧ xs = [y] ∧ SqT K H a ys ∧ flatV y = true ∧ ys.all flatV = true ∧ ys[j]? = some z ∧ eqV z y = true ∧
  (∀ (m : Nat) (z' : V), m < j → ys[m]? = some z' → eqV z' y = false) ∧ Q (.int (j : Nat)) H
theorem mt_indexT {X : Cx} : MtR X "tuple.index" (rIndexT X.K) := by
  intro pins s σ H x xs v us Q I rx rxs h
  obtain ⟨a, ys, y, j, z, rfl, rfl, hs, fy, fys, hz, hzj, hno, q⟩ := h
  cases rx
  cases rxs with
  | cons ry rt =>
    rename_i uy ut
    cases rt
    obtain ⟨its, rv, ⟨⟨cls, dd, data, sl⟩, ho, hc, n, hd⟩, hlen⟩ := I.tuple hs
    simp only at hc hd
    subst hc hd
    obtain ⟨u, hu, ru⟩ := rv.get hz
    obtain ⟨hjl, hje⟩ := List.getElem?_eq_some_iff.mp hu
    have hvl := rv.length
    have hj : j < its.toArray.size := by simpa using hjl
    refine call_meets PySem.F.slot_tuple_index ⟨_, ho, rfl⟩ PySem.F.entry_tuple_index (PySem.F.args_tuple_index_2 _ _)
      (TI.tuple_indexAt a its.toArray n dd sl uy (eqU y) j hj ?_ ?_) ⟨ho, fun u' hu' => mem_eqAt ry fy rv fys u' (by simpa using hu'), ?_⟩
    · have e1 : its.toArray[j] = u := by simpa using hje
      rw [e1, eqU_of ru (flat_at fys hz)]
      exact hzj
    · intro m hm hmj
      have hml : m < its.length := by simpa using hm
      have hmy : m < ys.length := by omega
      have hy' : ys[m]? = some ys[m] := List.getElem?_eq_getElem hmy
      obtain ⟨u2, hu2, ru2⟩ := rv.get hy'
      obtain ⟨_, hme⟩ := List.getElem?_eq_some_iff.mp hu2
      have e1 : its.toArray[m] = u2 := by simpa using hme
      rw [e1, eqU_of ru2 (flat_at fys hy')]
      exact hno m _ hmj hy'
    · exact ⟨.int (j : Nat), H, I.tok _, ⟨_, rfl⟩, q⟩
/-- the first place of an equal one -/
def idxD (y : D) : List D → Nat → Option Nat
  | [], _ => none
  | d :: ds, n => if deq d y = true then some n else idxD y ds (n + 1)
def dTIdx : D → D → Option D
  | .tup l, y => if (flatD y && l.all flatD) = true then (idxD y l 0).map fun n => .int (n : Nat) else none
  | _, _ => none
theorem idxD_at {y : D} : ∀ {l : List D} {n j : Nat}, idxD y l n = some j → ∃ i, j = n + i ∧ (∃ d, l[i]? = some d ∧ deq d y = true) ∧ ∀ m d, m < i → l[m]? = some d → deq d y = false
  | [], n, j, h => by cases h
  | d :: l, n, j, h => by
    unfold idxD at h
    split at h
    · rename_i hd
      cases h
      exact ⟨0, rfl, ⟨d, rfl, hd⟩, fun m e hm => absurd hm (Nat.not_lt_zero _)⟩
    · rename_i hd
      obtain ⟨i, e1, ⟨d', e2, e3⟩, e4⟩ := idxD_at h
      refine ⟨i + 1, by omega, ⟨d', by simpa using e2, e3⟩, fun m e hm he => ?_⟩
      cases m with
      | zero =>
        simp at he
        subst he
        simpa using hd
      | succ m => exact e4 m e (by omega) (by simpa using he)
def dTIdxM : List D → Res D
  | [.tup l, y] => if (flatD y && l.all flatD) = true then (Res.of (idxD y l 0)).bind fun n => .ok (.int (n : Nat)) else .fail
  | _ => .fail
/-- t.m(e): the receiver, then the argument -/
def eTM (g : D → D → Option D) (o e : SE) : SE := fun ρ π => (o ρ π).bind fun p => (tup? p.1).bind fun _ => (e ρ p.2).bind fun q => (Res.of (g p.1 q.1)).bind fun z => .ok (z, q.2)
section
variable {X : Cx} {F : Fx} {E : XK} {o e : Expr} {cpos apos : Pos} {fo fe : SE}
theorem x_tindex (ho : PE X o (tX F E fo)) (he : PE X e (tX F E fe)) (hK : F.G.K = X.K := by rfl) (hbase : attributeBase o "index" X.env (eval o X.env) = eval o X.env := by rfl)
    (hfew : ((backTo cpos (starEach [e] X.env)).all (fun x => !x.1) && (backToKw cpos (keywordEach [] X.env)).all (fun x => x.1.isSome)
      && decide ([e].length + ([] : List Keyword).length + (if ([] : List Keyword).isEmpty then 0 else 1) < 30)) = true := by rfl)
    (hline : (apos.endLine == cpos.line) = true := by rfl) (hs : starEach [e] X.env = (false, eval e X.env) :: starEach [] X.env := by rfl) (hplain : (backTo cpos (starEach [] X.env)).any (·.1) = false := by rfl) :
    PE X (.Call (.Attribute o "index" apos) [e] [] cpos) (tX F E (eTM dTIdx fo fe)) :=
  (pe_tm PySem.F.slot_tuple_index PySem.F.type_tuple_index mt_indexT ho (pa_cons he pa_nil hs) hbase hfew hline hs hplain).weak fun σ H Q h => by
    obtain ⟨ι, ρ, π, A, h⟩ := h
    refine ⟨ι, ρ, π, A, Go.mono (fun p hp v ι1 H1 A1 e1 r1 => ?_) (Go.bind h)⟩
    have hp := Go.bind hp
    obtain ⟨d, π1⟩ := p
    cases d with
    | tup l =>
      obtain ⟨a, xs, rfl, s, rx⟩ := r1
      have hp := Go.bind (show Go F E ((fe ρ π1).bind fun q => (Res.of (dTIdx (.tup l) q.1)).bind fun z => .ok (z, q.2)) _ from hp)
      refine ⟨⟨a, xs, rfl, by rw [← hK]; exact s⟩, ι1, ρ, π1, A1, Go.mono (fun q hq y ι2 H2 A2 e2 r2 => ?_) hp⟩
      have hq := Go.bind hq
      cases ei : dTIdx (.tup l) q.1 with
      | none => rw [ei] at hq; exact hq.elim
      | some d =>
        rw [ei] at hq
        have hq : Kv F ι σ ρ π H Q (d, q.2) := hq
        unfold dTIdx at ei
        dsimp only at ei
        split at ei
        · rename_i hf
          rw [Bool.and_eq_true] at hf
          cases en : idxD q.1 l 0 with
          | none => rw [en] at ei; cases ei
          | some n =>
            rw [en] at ei
            cases ei
            obtain ⟨i, e3, ⟨d', e4, e5⟩, e6⟩ := idxD_at en
            have hi : n = i := by omega
            subst hi
            have rx2 := DrL.gr e2 (fun _ z => z.elim) rx
            obtain ⟨z, ez, rz⟩ := rx2.get e4
            have fd' : flatD d' = true := List.all_eq_true.mp hf.2 d' (List.mem_of_getElem? e4)
            refine ⟨a, xs, y, n, z, rfl, rfl, by rw [← hK]; exact sqT_ev e2.ev s.sq, flat_v hf.1 r2, flat_all hf.2 rx2, ez, by rw [flat_eq fd' hf.1 rz r2]; exact e5, fun m z' hm hz' => ?_, hq _ ι2 H2 A2 (e1.trans e2) rfl⟩
            obtain ⟨dm, em, rm⟩ := rx2.get' hz'
            have fdm : flatD dm = true := List.all_eq_true.mp hf.2 dm (List.mem_of_getElem? em)
            rw [flat_eq fdm hf.1 rm r2]
            exact e6 m dm hm em
        · cases ei
    | _ => exact hp.elim
end
end Ph
end
section
set_option Elab.async false
set_option linter.all false
set_option maxRecDepth 100000
/-! Ph, part H: zip; defs as a whole; raise; pairs assigned. -/
namespace Ph
open PySem PySem.Spec PyProof.Rows L2

/-! ### zip -/
def zipD : List D → Res (List D)
  | [.tup a, .tup b] => .ok (List.zipWith (fun x y => .ptup [x, y]) a b)
  | [.lst a, .lst b] => .ok (List.zipWith (fun x y => .ptup [x, y]) a b)
  | _ => .fail
theorem zip_at {a b : List D} {i : Nat} {d : D} (h : (List.zipWith (fun x y => D.ptup [x, y]) a b)[i]? = some d) : ∃ x y, a[i]? = some x ∧ b[i]? = some y ∧ d = .ptup [x, y] := by
  rw [List.getElem?_zipWith] at h
  cases ea : a[i]? with
  | none => rw [ea] at h; simp at h
  | some x =>
    cases eb : b[i]? with
    | none => rw [ea, eb] at h; simp at h
    | some y =>
      rw [ea, eb] at h
      simp at h
      exact ⟨x, y, rfl, rfl, h.symm⟩
section
variable {X : Cx} {F : Fx} {E : XK} {e e2 : Expr} {as : SA} {p pos tpos : Pos} {elts : List Expr} {kk : Nat}
theorem wk_zipT {G : Gx} {ι : List Addr} {M : Addr → Prop} {H1 : Hp} {a b : Addr} {xs ys : List V} {ds es : List D} (h : SqT G.K H1 a xs) (h2 : SqT G.K H1 b ys) (r : DrL (G.at ι) M H1 ds xs) (r2 : DrL (G.at ι) M H1 es ys) :
    Wk G ι M (RZ.ItzT G.K a b) H1 (List.zipWith (fun x y => D.ptup [x, y]) ds es) where
  stop := fun i H' x hi => by
    refine ⟨xs, ys, sqT_ev x h, sqT_ev x h2, ?_⟩
    rw [List.length_zipWith] at hi
    rw [r.length, r2.length]
    omega
  go := fun i H' x hi => by
    rw [List.length_zipWith] at hi
    obtain ⟨u, e1, _⟩ := r.get (List.getElem?_eq_getElem (show i < ds.length by omega))
    obtain ⟨w, e2, _⟩ := r2.get (List.getElem?_eq_getElem (show i < es.length by omega))
    exact ⟨xs, ys, u, w, sqT_ev x h, sqT_ev x h2, e1, e2⟩
  yld := fun i v H' H'' d ι2 M2 x p m m' hd y => by
    obtain ⟨T, u, w, rfl, hn, rfl, y1, y2⟩ := y
    obtain ⟨d1, d2, e1, e2, rfl⟩ := zip_at hd
    have q1 := y1 xs (sqT_ev x h)
    have q2 := y2 ys (sqT_ev x h2)
    obtain ⟨u', e3, r3⟩ := r.get e1
    obtain ⟨w', e4, r4⟩ := r2.get e2
    rw [q1] at e3
    rw [q2] at e4
    cases e3
    cases e4
    exact ⟨.new hn, .ptupN (.cons (Dr.mv p x m _ _ r3) (.one (Dr.mv p x m _ _ r4))) hn⟩
theorem wk_zipL {G : Gx} {ι : List Addr} {K : PySem.W.Frag} {M : Addr → Prop} {H1 : Hp} {a b : Addr} {xs ys : List V} {ds es : List D} (h : H1 a = some (.lst xs)) (h2 : H1 b = some (.lst ys)) (n : ¬ M a) (n2 : ¬ M b) (r : DrL (G.at ι) M H1 ds xs) (r2 : DrL (G.at ι) M H1 es ys) :
    Wk G ι M (Itz K a b) H1 (List.zipWith (fun x y => D.ptup [x, y]) ds es) where
  stop := fun i H' x hi => by
    refine ⟨xs, ys, SqL.of (x.keep _ _ h n), SqL.of (x.keep _ _ h2 n2), ?_⟩
    rw [List.length_zipWith] at hi
    rw [r.length, r2.length]
    omega
  go := fun i H' x hi => by
    rw [List.length_zipWith] at hi
    obtain ⟨u, e1, _⟩ := r.get (List.getElem?_eq_getElem (show i < ds.length by omega))
    obtain ⟨w, e2, _⟩ := r2.get (List.getElem?_eq_getElem (show i < es.length by omega))
    exact ⟨xs, ys, u, w, SqL.of (x.keep _ _ h n), SqL.of (x.keep _ _ h2 n2), e1, e2⟩
  yld := fun i v H' H'' d ι2 M2 x p m m' hd y => by
    obtain ⟨T, u, w, rfl, hn, rfl, y1, y2⟩ := y
    obtain ⟨d1, d2, e1, e2, rfl⟩ := zip_at hd
    have q1 := y1 xs (SqL.of (x.keep _ _ h n))
    have q2 := y2 ys (SqL.of (x.keep _ _ h2 n2))
    obtain ⟨u', e3, r3⟩ := r.get e1
    obtain ⟨w', e4, r4⟩ := r2.get e2
    rw [q1] at e3
    rw [q2] at e4
    cases e3
    cases e4
    exact ⟨.new hn, .ptupN (.cons (Dr.mv p x m _ _ r3) (.one (Dr.mv p x m _ _ r4))) hn⟩
theorem xi_zip (hm : X.mg "zip" = none) (ha : PA X [e, e2] (tXA F E as)) (hK : F.G.K = X.K := by rfl) (hg : Gl X "zip" := by rfl)
    (hs : starEach [e, e2] X.env = (false, eval e X.env) :: starEach [e2] X.env := by rfl) (hpl : (backTo pos (starEach [e2] X.env)).any (·.1) = false := by rfl) :
    PI X (.Tuple elts kk tpos) (.Call (.Name "zip" p) [e, e2] [] pos) (tI F E (iR zipD as)) := (RZ.pi_zipA hg hm ha hs hpl).weak fun σ H R h => by
  obtain ⟨ι, ρ, π, A, h⟩ := h
  refine ⟨ι, ρ, π, A, Go.mono (fun q hq vs ι1 H' A1 e1 r1 => ?_) (Go.bind h)⟩
  have hq := Go.bind hq
  unfold zipD at hq
  split at hq
  · rename_i a b e
    rw [e] at r1
    obtain ⟨v, w, rfl, ⟨pa, xs, rfl, sx, rx⟩, ⟨pb, ys, rfl, sy, ry⟩⟩ := two_v r1
    refine ⟨pa, pb, xs, ys, rfl, .inr ⟨by rw [← hK]; exact sx.sq, by rw [← hK]; exact sy.sq, ?_⟩⟩
    rw [← hK]
    exact hq _ ι1 H' A1 e1 (wk_zipT sx.sq sy.sq rx ry)
  · rename_i a b e
    rw [e] at r1
    obtain ⟨v, w, rfl, ⟨pa, xs, rfl, nx, sx, rx⟩, ⟨pb, ys, rfl, ny, sy, ry⟩⟩ := two_v r1
    exact ⟨pa, pb, xs, ys, rfl, .inl ⟨SqL.of sx, SqL.of sy, hq _ ι1 H' A1 e1 (wk_zipL sx sy nx ny rx ry)⟩⟩
  · exact hq.elim
end

/-! ### a def -/
def ini (n : Nat) (ds : List D) : En := ds.map some ++ List.replicate (n - ds.length) none
def sEnd : Fl → Res (D × Store)
  | .nx _ π => .ok (.non, π)
  | .rt d π => .ok (d, π)
  | _ => .fail
@[simp] theorem sEnd_nx (ρ : En) (π : Store) : sEnd (.nx ρ π) = .ok (.non, π) := rfl
@[simp] theorem sEnd_rt (d : D) (π : Store) : sEnd (.rt d π) = .ok (d, π) := rfl
def sRun (f : SS) (n : Nat) (ds : List D) (π : Store) : Res (D × Store) := (f (ini n ds) π).bind sEnd
theorem start_ini {G : Gx} {M : Addr → Prop} {H : Hp} {N : List Str} {ds : List D} {vs : List V} (r : DrL G M H ds vs) :
    (∀ (i : Nat) (d : D), (ini N.length ds)[i]? = some (some d) → ∃ v : V, (L2.start N vs : List (Option V))[i]? = some (some v) ∧ Dr G M H d v) ∧ (L2.start N vs).length = (ini N.length ds).length := by
  have hl := r.length
  refine ⟨fun i d h => ?_, by unfold ini L2.start; simp [hl]⟩
  unfold ini at h
  unfold L2.start
  by_cases hi : i < ds.length
  · rw [List.getElem?_append_left (by simpa using hi), List.getElem?_map] at h
    rw [List.getElem?_append_left (by simpa [hl] using hi), List.getElem?_map]
    cases e : ds[i]? with
    | none => rw [e] at h; cases h
    | some d' =>
      rw [e] at h
      cases h
      obtain ⟨v, e1, r1⟩ := r.get e
      rw [e1]
      exact ⟨v, rfl, r1⟩
  · rw [List.getElem?_append_right (by simpa using hi)] at h
    rw [List.getElem?_replicate] at h
    split at h <;> cases h
section
variable {P : Program} {w : World} {K : PySem.W.Frag} {mg : Str → Option Value} {base : Heap} {x qual : Str} {st : Stmt} {N ps : List Str} {k : Nat} {G : Gx} {fs : SS}
/-- what the body computes is what is promised -/
theorem core_of {g : List D → Store → Res (D × Store)} {ds : List D} {π : Store} {M : Addr → Prop} {ι : List Addr} {H : Hp} {vs : List V} {Q : VK} {E : XK} (W : Wd G M ι π H) (r : DrL (G.at ι) (Mu M ι π) H ds vs) (n : g ds π ≠ .fail)
    (h : match g ds π with
      | .fail => False
      | .ok d => ∀ v ι' H', Gr Nm ι π H ι' d.2 H' → Wd G M ι' d.2 H' → Dr (G.at ι') (Mu M ι' d.2) H' d.1 v → Q v H'
      | .xc c d π' => Xk G M E ι π H c d π') (sem : sRun fs N.length ds π = g ds π) :
    tS ⟨G, M, H, ι, π⟩ E fs { nx := fun _ H' => Q .non H', rt := Q } (L2.start N vs) H := by
  obtain ⟨sv, sl⟩ := start_ini (N := N) r
  refine ⟨ι, ini N.length ds, π, ⟨sv, ⟨W, .refl _ _ _ _⟩, sl⟩, ?_⟩
  rw [← sem] at h
  unfold sRun at h
  cases e : fs (ini N.length ds) π with
  | fail => rw [← sem] at n; unfold sRun at n; rw [e] at n; exact absurd rfl n
  | xc c d π' => rw [e] at h; exact h
  | ok fl =>
    rw [e] at h
    cases fl with
    | nx ρ π' =>
      exact fun ι' σ' H' A g' => h .non ι' H' g' A.wo.wd rfl
    | rt d π' => exact fun v ι' H' W' g' r' => h v ι' H' g' W'.wd r'
    | bk ρ π' => rw [← sem] at n; unfold sRun at n; rw [e] at n; exact absurd rfl n
    | ct ρ π' => rw [← sem] at n; unfold sRun at n; rw [e] at n; exact absurd rfl n
theorem spS_out {g : List D → Store → Res (D × Store)} {vs : List V} {H : Hp} {Q : VK} {E : XK} (h : spS G g vs H Q E) : ∃ (M : Addr → Prop) (ι : List Addr) (π : Store) (ds : List D), DrL (G.at ι) (Mu M ι π) H ds vs ∧ g ds π ≠ .fail := by
  obtain ⟨M, ι, π, ds, W, r, h⟩ := h
  exact ⟨M, ι, π, ds, r, fun z => by rw [z] at h; exact h⟩
/-- the body's derivation, for all that a call may bring -/
abbrev Body (P : Program) (w : World) (K : PySem.W.Frag) (mg : Str → Option Value) (base : Heap) (N : List Str) (qual : Str) (scope : Scope) (G : Gx) (k : Nat) (body : List Stmt) (fs : SS) : Prop :=
  ∀ (f : Addr) (cdv : Value) (A : Around) (outer : List PySem.Env) (s : Shared) (H : Hp) (E : XK) (M : Addr → Prop) (ι : List Addr) (π : Store), Room k (A.deeper (envOfC qual scope s.heap.objs.size f cdv)) →
      PSs (cxOf (L2.CX P w) P w K mg base N qual scope f cdv A outer s H E) body (tS ⟨G, M, H, ι, π⟩ E fs)
/-- THE RULE for a def: its body's derivation, and what that computes -/
theorem fn_of_body {g : List D → Store → Res (D × Store)} {f : Addr} {fd : FuncData} (F : Fun K x qual st f fd) (S : FnScope N ps (defScope st)) (body : Body P w K mg base N qual (defScope st) G k (defBody st) fs)
    (hlen : ∀ ds π, g ds π ≠ .fail → ds.length = ps.length) (sem : ∀ ds π, g ds π ≠ .fail → sRun fs N.length ds π = g ds π) : FnOk P w K mg base (L2.CX P w) (k + 1) f fd ps (spS G g) := by
  refine F.okX S (fun vs H Q E h => ?_) (fun cdv A outer s H vs Q E hr h => ?_)
  · obtain ⟨M, ι, π, ds, r, n⟩ := spS_out h
    rw [r.length]
    exact hlen ds π n
  · obtain ⟨M, ι, π, ds, W, r, h⟩ := h
    have n : g ds π ≠ .fail := fun z => by rw [z] at h; exact h
    exact ⟨_, body f cdv A outer s H E M ι π hr, core_of W r n h (sem ds π n)⟩
theorem fn_of_bodyD {g : List D → Store → Res (D × Store)} {f : Addr} {fd : FuncData} {params : Arguments} {bd : List Stmt} {scope : Scope} {dvs : List V} {kws : List (Str × V)} (F : FunD K x qual params bd scope dvs kws f fd) (S : FnScope N ps scope) (body : Body P w K mg base N qual scope G k bd fs)
    (hlen : ∀ ds π, g ds π ≠ .fail → ds.length = ps.length) (sem : ∀ ds π, g ds π ≠ .fail → sRun fs N.length ds π = g ds π) : FnOk P w K mg base (L2.CX P w) (k + 1) f fd ps (spS G g) := by
  refine F.ok S (fun vs H Q E h => ?_) (fun cdv A outer s H vs Q E hr h => ?_)
  · obtain ⟨M, ι, π, ds, r, n⟩ := spS_out h
    rw [r.length]
    exact hlen ds π n
  · obtain ⟨M, ι, π, ds, W, r, h⟩ := h
    have n : g ds π ≠ .fail := fun z => by rw [z] at h; exact h
    exact ⟨_, body f cdv A outer s H E M ι π hr, core_of W r n h (sem ds π n)⟩
abbrev BindsH (x qual : Str) (st : Stmt) (ps : List Str) : Prop := ∀ (kV doc pm : Value) (an : Option Addr) (cdv ct : Value) (us : List Value), us.length = ps.length → bindArgs (PySem.W.fnOf x qual (defArgs st) (defBody st) (defScope st) .none kV doc pm an cdv ct) ⟨us, []⟩ = pure (ps.zip us)
theorem df_of {g : List D → Store → Res (D × Store)} (Fn : ∃ f fd, Fun K x qual st f fd ∧ mg x = some (.ref f)) (S : FnScope N ps (defScope st)) (hb : BindsH x qual st ps) (body : Body P w K mg base N qual (defScope st) G k (defBody st) fs)
    (hlen : ∀ ds π, g ds π ≠ .fail → ds.length = ps.length) (sem : ∀ ds π, g ds π ≠ .fail → sRun fs N.length ds π = g ds π) : Df P w K mg base (k + 1) x [] (spS G g) := by
  obtain ⟨f, fd, F, hm⟩ := Fn
  exact ⟨f, fd, ps, [], fn_of_body F S body hlen sem, hm, F.kp, F.binds hb, .nil⟩
theorem lift_fail {m : List D → Res D} {ds : List D} {π : Store} : liftP m ds π ≠ .fail ↔ m ds ≠ .fail := by
  unfold liftP
  cases m ds <;> simp [Res.at]
/-- a def that does not look at the cells -/
theorem df_ofP {m : List D → Res D} (Fn : ∃ f fd, Fun K x qual st f fd ∧ mg x = some (.ref f)) (S : FnScope N ps (defScope st)) (hb : BindsH x qual st ps) (body : Body P w K mg base N qual (defScope st) G k (defBody st) fs)
    (hlen : ∀ ds, m ds ≠ .fail → ds.length = ps.length) (sem : ∀ ds π, m ds ≠ .fail → sRun fs N.length ds π = (m ds).at π) : Df P w K mg base (k + 1) x [] (spP G m) :=
  df_of Fn S hb body (fun ds π h => hlen ds (lift_fail.mp h)) fun ds π h => sem ds π (lift_fail.mp h)
end

/-! ### what a def lets out -/
section
variable {P : Program} {w : World} {K : PySem.W.Frag} {mg : Str → Option Value} {base : Heap} {N : List Str} {qual : Str} {scope : Scope} {f : Addr} {cd : Value} {A : Around} {outer : List PySem.Env} {s : Shared} {H : Hp} {E : XK}
theorem takD : Takes (cxOf (L2.CX P w) P w K mg base N qual scope f cd A outer s H E) (fun cls d _ H => E cls d H) := takes_of rfl rfl rfl rfl
theorem passD : Passes (L2.CX P w) (cxOf (L2.CX P w) P w K mg base N qual scope f cd A outer s H E) E := passes_call takD (fun _ _ _ _ h => h)
theorem ownD : PassesOwn (model P w) (cxOf (L2.CX P w) P w K mg base N qual scope f cd A outer s H E).A (cxOf (L2.CX P w) P w K mg base N qual scope f cd A outer s H E).env (cxOf (L2.CX P w) P w K mg base N qual scope f cd A outer s H E).xe := passes_of rfl
end

/-! ### raise X(e) -/
/-- __init__(self, f): self.f = f -/
def spXI (K : PySem.W.Frag) (f : Str) : Sp := fun vs H Q _ => ∃ (a C : Addr) (v : V), vs = [.ref a, v] ∧ OexC K C ∧ PySem.W.findIn K (.ref C) f = some none ∧ H a = some (exo a C none) ∧
  ∀ dx, H dx = none → dx ≠ a → Q .non (upd (upd H dx (exd dx [(f, v)])) a (exo a C (some dx)))
/-- the own exception class x, number c -/
structure ExC (P : Program) (w : World) (G : Gx) (mg : Str → Option Value) (base : Heap) (k : Nat) (x : Str) (c : Nat) : Prop where
  ex : ∃ (fI : Addr) (fd : FuncData) (ps : List Str), mg x = some (.ref (G.cls c)) ∧ OexC G.K (G.cls c) ∧ PySem.W.findIn G.K (.ref (G.cls c)) "__init__" = some (some (.ref fI)) ∧ PySem.W.typeIn G.K (.ref fI) = some (.type "function") ∧
    PySem.W.findIn G.K (.ref (G.cls c)) (xfl G c) = some none ∧ FnOk P w G.K mg base (L2.CX P w) k fI fd ps (spXI G.K (xfl G c)) ∧ Binds G.K fd ps []
/-- raise C(d) -/
def sRaise (c : Nat) (e : SE) : SS := fun ρ π => (e ρ π).bind fun p => .xc c p.1 p.2
section
variable {X : Cx} {F : Fx} {E : XK} {e : Expr} {x : Str} {c k : Nat} {p pos pos2 : Pos} {fe : SE}
theorem s_raise (hc : X.calm = true) (tk : Takes X (fun cls d _ H => E cls d H)) (I : ExC X.prog X.w F.G X.mg X.base k x c) (hr : Room (k + 1) X.A) (he : PE X e (tX F E fe)) (hK : F.G.K = X.K := by rfl) (hg : Gl X x := by rfl) (hdb : (x == ("__debug__" : Str)) = false := by decide)
    (hs : starEach [e] X.env = (false, eval e X.env) :: starEach [] X.env := by rfl) (hpl : (backTo pos (starEach [] X.env)).any (·.1) = false := by rfl) (hfe : F.G.flds c ≠ [] := by exact List.cons_ne_nil _ _) :
    PS X (.Raise (some (.Call (.Name x p) [e] [] pos)) none pos2) (tS F E (sRaise c fe)) := by
  obtain ⟨fI, fd, ps, hm, T, iC, tI, no, Fn, hb⟩ := I.ex
  rw [hK] at T iC tI no Fn hb
  have mk : PMk X (.Call (.Name x p) [e] [] pos) (tMkO (F.G.cls c) (spXI X.K (xfl F.G c)) [] (tCons (tX F E fe) tNil)) := by
    have q := pmk_oex (CX := L2.CX X.prog X.w) (p := p) (pos := pos) (dvs := []) (ds := []) T iC tI Fn hr hb .nil passL hg hm (pa_cons he pa_nil hs) hdb hs hpl
    exact q
  refine (ps_raise hc tk mk).weak fun D σ H h => ?_
  obtain ⟨ι, ρ, π, A, h⟩ := h
  refine ⟨ι, ρ, π, A, Go.mono (fun q hq v ι1 H1 A1 e1 r1 => ?_) (Go.bind h)⟩
  have hq : XW F E c q.1 q.2 := hq
  show [v].length ≤ 1000 ∧ ∀ (a : Addr), H1 a = none → spXI X.K (xfl F.G c) [.ref a, v] (upd H1 a (exo a (F.G.cls c) none)) (fun v H2 => v = V.non ∧ ∃ d fs, H2 a = some (exo a (F.G.cls c) (some d)) ∧ H2 d = some (exd d fs) ∧ H1 d = none ∧ E (.ref (F.G.cls c)) (some d) (upd (del H2 a) d (HO.xd fs))) fun x x_1 x_2 => False
  refine ⟨(by show 1 ≤ 1000; decide), fun a ha => ⟨a, F.G.cls c, v, rfl, T, no, upd_same, fun dx hdx hne => ⟨rfl, dx, [(xfl F.G c, v)], upd_same, ?_, ?_, ?_⟩⟩⟩
  · rw [upd_ne hne, upd_same]
  · rw [upd_ne hne] at hdx
    exact hdx
  · rw [upd_ne hne] at hdx
    have eq : upd (del (upd (upd (upd H1 a (exo a (F.G.cls c) none)) dx (exd dx [(xfl F.G c, v)])) a (exo a (F.G.cls c) (some dx))) a) dx (.xd [(xfl F.G c, v)]) = upd H1 dx (.xd [(xfl F.G c, v)]) := by
      funext b
      by_cases h1 : b = dx
      · rw [h1, upd_same, upd_same]
      · rw [upd_ne h1, upd_ne h1]
        by_cases h2 : b = a
        · rw [h2, del_same, ha]
        · rw [del_ne h2, upd_ne h2, upd_ne h1, upd_ne h2]
    show E (.ref (F.G.cls c)) (some dx) (upd (del (upd (upd (upd H1 a (exo a (F.G.cls c) none)) dx (exd dx [(xfl F.G c, v)])) a (exo a (F.G.cls c) (some dx))) a) dx (.xd [(xfl F.G c, v)]))
    rw [eq]
    exact hq (some dx) ι1 _ (A1.wo.gr.trans (.of_ev (.new hdx))) (A1.wo.wd.same (.new hdx)) (.inl ⟨dx, v, rfl, A1.wo.gr.ev.fresh hdx, upd_same, Dr.ev (.new hdx) _ _ r1, hfe⟩)
end

/-! ### a, b = x, y -/
def sPar (i j : Nat) (as : SA) : SS := fun ρ π => (as ρ π).bind fun p => match p.1 with
  | [a, b] => .ok (.nx ((ρ.set i (some a)).set j (some b)) p.2)
  | _ => .fail
/-- target = e -/
def sAsg (h : STg) (e : SE) : SS := fun ρ π => (e ρ π).bind fun p => (h p.1 ρ p.2).bind fun q => .ok (.nx q.1 q.2)
section
variable {X : Cx} {F : Fx} {js : List Nat} {E : XK} {a b e tg : Expr} {x y : Str} {i j : Nat} {px py pt pt2 pos : Pos} {kt k2} {as : SA} {fe : SE} {h : STg}
theorem s_par (hc : X.calm = true) (hN : X.N.Nodup) (ha : PA X [a, b] (tXA F E as)) (hi : X.N[i]? = some x := by rfl) (hj : X.N[j]? = some y := by rfl) (hij : i ≠ j := by decide)
    (hx : X.env.scope.names.lookup x = some .local := by rfl) (hy : X.env.scope.names.lookup y = some .local := by rfl)
    (hw : swappedStores [.Tuple [.Name x px, .Name y py] kt pt] (.Tuple [a, b] k2 pt2) X.env = pure (some [x, y]) := by rfl)
    (hs : swapsWithSole [.Tuple [.Name x px, .Name y py] kt pt] (.Tuple [a, b] k2 pt2) pos.line X.env = pure false := by rfl) :
    PS X (.Assign [.Tuple [.Name x px, .Name y py] kt pt] (.Tuple [a, b] k2 pt2) pos) (tS F E (sPar i j as)) := (ps_par hc hN hi hj hij hx hy ha hw hs).weak fun D σ H h => by
  obtain ⟨ι, ρ, π, A, h⟩ := h
  refine ⟨ι, ρ, π, A, Go.mono (fun p hp vs ι' H' A1 e1 r1 => ?_) (Go.bind h)⟩
  obtain ⟨l, π1⟩ := p
  match l, hp, r1 with
  | [d1, d2], hp, r1 =>
    obtain ⟨v1, v2, rfl, q1, q2⟩ := two_v r1
    exact ⟨v1, v2, rfl, hp ι' _ H' ((A1.set q1).set q2) e1⟩
  | [], hp, _ => exact hp.elim
  | [_], hp, _ => exact hp.elim
  | _ :: _ :: _ :: _, hp, _ => exact hp.elim
theorem s_asg (he : PE X e (tX F E fe)) (hg : PG X tg (tTg F E js h)) (hs : swapsWithSole [tg] e pos.line X.env = pure false := by rfl) (hw : swappedStores [tg] e X.env = pure none := by rfl)
    (h1 : (assignEach [tg] X.env).map (·.2) = [assign tg X.env] := by rfl) : PS X (.Assign [tg] e pos) (tS F E (sAsg h fe)) := (ps_asg he hg hs hw h1).weak fun D σ H hh => by
  obtain ⟨ι, ρ, π, A, hh⟩ := hh
  refine ⟨ι, ρ, π, A, Go.mono (fun p hp v ι' H' A1 e1 r1 => ⟨ι', ρ, p.2, p.1, A1, r1, ?_⟩) (Go.bind hh)⟩
  exact Go.mono (fun q hq ι2 σ2 H2 A2 g2 _ _ => hq ι2 σ2 H2 A2 (e1.trans g2)) (Go.bind hp)
end
end Ph
end
section
set_option Elab.async false
set_option linter.all false
set_option maxRecDepth 100000
/-! Ph, part I: cells: read, frozen, appended to, stored into; instances made, their fields stored, their methods called. -/
namespace Ph
open PySem PySem.Spec PyProof.Rows L2

/-- a list's cell as what it holds now -/
def ld (π : Store) (d : D) : D := match d with
  | .ptr n => match π[n]? with
    | some (.lst l) => .lst l
    | _ => .ptr n
  | d => d
mutual
/-- data in which no list and no instance lies -/
def frz : D → Bool
  | .non | .bl _ | .int _ | .str _ | .ptr _ | .fn _ => true
  | .tup l => frzL l
  | .lst _ | .obj _ _ | .dic | .ptup _ | .scr _ => false
def frzL : List D → Bool
  | [] => true
  | d :: r => frz d && frzL r
end
section
variable {G : Gx} {M M' : Addr → Prop} {H H1 : Hp}
mutual
theorem frz_dr : ∀ (d : D) (v : V), frz d = true → Dr G M H d v → Dr G M' H d v
  | .non, _, _, r | .bl _, _, _, r | .int _, _, _, r | .str _, _, _, r | .ptr _, _, _, r | .fn _, _, _, r => r
  | .tup l, v, h, r => by
    obtain ⟨a, xs, e, s, q⟩ := r
    exact ⟨a, xs, e, s, frz_drL l xs (by simpa [frz] using h) q⟩
  | .lst _, _, h, _ | .obj _ _, _, h, _ | .dic, _, h, _ | .ptup _, _, h, _ | .scr _, _, h, _ => by simp [frz] at h
theorem frz_drL : ∀ (ds : List D) (vs : List V), frzL ds = true → DrL G M H ds vs → DrL G M' H ds vs
  | [], _, _, r => r
  | d :: ds, vs, h, r => by
    obtain ⟨v, ws, e, q, t⟩ := r
    simp only [frzL, Bool.and_eq_true] at h
    exact ⟨v, ws, e, frz_dr d v h.1 q, frz_drL ds ws h.2 t⟩
end
end
section
variable {F : Fx} {ι : List Addr} {σ : L2.St} {ρ : En} {π : Store} {H H1 : Hp} {n : Nat} {c c' : Cell} {v : V} {a : Addr}
theorem Wo.cell (A : Wo F ι π H) {M : Addr → Prop} (r : Dr (F.G.at ι) M H (.ptr n) v) (h : π[n]? = some c) : ∃ a, v = .ref a ∧ ι[n]? = some a ∧ Cl (F.G.at ι) (Mu F.M0 ι π) H a c := by
  obtain ⟨a, e, ea⟩ := r
  obtain ⟨b, eb, q⟩ := A.wd.cel n c h
  have ea' : ι[n]? = some a := ea
  rw [ea'] at eb
  cases eb
  exact ⟨a, e, ea', q⟩
theorem ld_dr (A : Wo F ι π H) {d : D} (r : Dr (F.G.at ι) (Mu F.M0 ι π) H d v) : Dr (F.G.at ι) Nm H (ld π d) v := by
  have go : Dr (F.G.at ι) Nm H d v := Dr.chg (fun _ z _ => z.elim) _ _ r
  cases d with
  | ptr n =>
    unfold ld
    dsimp only
    cases e : π[n]? with
    | none => exact go
    | some c =>
      cases c with
      | lst l =>
        obtain ⟨a, e1, _, xs, s, q⟩ := A.cell r e
        exact ⟨a, xs, e1, id, s, DrL.chg (fun _ z _ => z.elim) _ _ q⟩
      | _ => exact go
  | _ => exact go
theorem ld_drL (A : Wo F ι π H) : ∀ {ds : List D} {vs : List V}, DrL (F.G.at ι) (Mu F.M0 ι π) H ds vs → DrL (F.G.at ι) Nm H (ds.map (ld π)) vs
  | [], _, r => r
  | d :: ds, vs, r => by
    obtain ⟨v, ws, e, q, t⟩ := r
    exact ⟨v, ws, e, ld_dr A q, ld_drL A t⟩
/-- a cell written -/
theorem At.putC (A : At F ι σ ρ π H) (hn : ι[n]? = some a) (hc : π[n]? = some c) (h : c ≠ .gone) (x : Ev (fun b => b = a) H H1) (r : Cl (F.G.at ι) (Mu F.M0 ι (π.set n c')) H1 a c') : At F ι σ ρ (π.set n c') H1 :=
  A.go' (.put hn hc h x) (A.wo.wd.put hn hc h x r)
theorem At.gone (A : At F ι σ ρ π H) (hc : π[n]? = some c) (h : c ≠ .gone) : At F ι σ ρ (π.set n .gone) H := A.go' (.gone hc h) (A.wo.wd.gone hc h)
theorem not_mu (A : Wo F ι π H) (hn : ι[n]? = some a) (hl : n < π.length) : ¬ Mu F.M0 ι (π.set n .gone) a := fun z => by
  rcases z with z | ⟨m, c, e1, e2, e3⟩
  · exact A.wd.dis a z (List.mem_of_getElem? hn)
  · have := A.wd.inj hn e1
    subst this
    rw [List.getElem?_set_self hl] at e2
    cases e2
    exact e3 rfl
end

/-! ### operations on what cells hold now -/
def eOpL (op : D → D → Option D) (a b : SE) : SE := fun ρ π => (a ρ π).bind fun x => (b ρ x.2).bind fun y => (Res.of (op (ld y.2 x.1) (ld y.2 y.1))).bind fun z => if frz z = true then .ok (z, y.2) else .fail
def eFnL (g : List D → Res D) (as : SA) : SE := fun ρ π => (as ρ π).bind fun x => (g (x.1.map (ld x.2))).bind fun z => if frz z = true then .ok (z, x.2) else .fail
section
variable {X : Cx} {F : Fx} {E : XK} {a b e : Expr} {es : List Expr} {pos p : Pos} {fa fb fe : SE} {as : SA} {x : Str} {g : List D → Res D} {r : List V → Hp → VK → Prop} {id T : String}
theorem binL_weak {r : R2} {op : D → D → Option D} (ho : OpD F.G r op) {σ : L2.St} {H : Hp} {Q : VK} (h : tX F E (eOpL op fa fb) σ H Q) : tOp r (tX F E fa) (tX F E fb) σ H Q := by
  obtain ⟨ι, ρ, π, A, h⟩ := h
  refine ⟨ι, ρ, π, A, Go.mono (fun p hp x ι1 H1 A1 e1 r1 => ⟨ι1, ρ, p.2, A1, Go.mono (fun q hq y ι2 H2 A2 e2 r2 => ?_) (Go.bind hp)⟩) (Go.bind h)⟩
  have hq := Go.bind hq
  cases e : op (ld q.2 p.1) (ld q.2 q.1) with
  | none => rw [e] at hq; exact hq.elim
  | some d =>
    rw [e] at hq
    have hq : Go F E (if frz d = true then Res.ok (d, q.2) else .fail) (Kv F ι σ ρ π H Q) := hq
    split at hq
    · rename_i hf
      have hq : Kv F ι σ ρ π H Q (d, q.2) := hq
      exact ho _ _ _ _ _ _ _ _ _ (fun _ z => z.elim) (ld_dr A2.wo (Dr.gr e2 (fun _ z => z.elim) r1)) (ld_dr A2.wo r2) e fun v H' x r => hq v _ H' (A2.same x) ((e1.trans e2).trans (.of_ev x)) (frz_dr d v hf r)
    · exact hq.elim
theorem x_opL {op : Operator} {r : R2} {o : D → D → Option D} (hr : OpR X (binaryOp op) r) (ho : OpD F.G r o) (ha : PE X a (tX F E fa)) (hb : PE X b (tX F E fb)) : PE X (.BinOp a op b pos) (tX F E (eOpL o fa fb)) :=
  (pe_op hr ha hb).weak fun _ _ _ h => binL_weak ho h
theorem x_cmpL {op : CmpOp} {r : R2} {o : D → D → Option D} (hr : OpR X (compareOp op) r) (ho : OpD F.G r o) (ha : PE X a (tX F E fa)) (hb : PE X b (tX F E fb)) (hm : behindInMarks op b = false) : PE X (.Compare a [op] [b] pos) (tX F E (eOpL o fa fb)) :=
  (pe_cmpR hr ha hb hm).weak fun _ _ _ h => binL_weak ho h
theorem x_ixL {r : R2} {o : D → D → Option D} (hr : IxR X r) (ho : OpD F.G r o) (ha : PE X a (tX F E fa)) (hb : PE X b (tX F E fb)) (hs : PlainIx b := by intro _ _; rfl) : PE X (.Subscript a b pos) (tX F E (eOpL o fa fb)) :=
  (pe_ix hr ha hb hs).weak fun _ _ _ h => binL_weak ho h
theorem xt_cmpL {op : CmpOp} {r : R2} {o : D → D → Option D} (hr : OpR X (compareOp op) r) (ho : OpD F.G r o) (ha : PE X a (tX F E fa)) (hb : PE X b (tX F E fb)) (hm : behindInMarks op b = false) : PT X (.Compare a [op] [b] pos) (tXT F E (tB (eOpL o fa fb))) :=
  (pt_cmpR hr ha hb hm).weak fun _ _ _ h => test_weak (fun _ h => binL_weak ho h) h
theorem fnL_weak (nx : NoXc g) (hg : FnD F.G r g) {σ : L2.St} {H : Hp} {Q : VK} (h : tX F E (eFnL g as) σ H Q) : tXA F E as σ H fun vs H1 => r vs H1 Q := by
  obtain ⟨ι, ρ, π, A, h⟩ := h
  refine ⟨ι, ρ, π, A, Go.mono (fun p hp vs ι1 H1 A1 e1 r1 => ?_) (Go.bind h)⟩
  have hp := Go.bind hp
  cases e : g (p.1.map (ld p.2)) with
  | fail => rw [e] at hp; exact hp.elim
  | xc c d => exact absurd e (nx _ _ _ _)
  | ok d =>
    rw [e] at hp
    have hp : Go F E (if frz d = true then Res.ok (d, p.2) else .fail) (Kv F ι σ ρ π H Q) := hp
    split at hp
    · rename_i hf
      have hq : Kv F ι σ ρ π H Q (d, p.2) := hp
      exact hg _ _ _ _ _ _ _ (fun _ z => z.elim) (ld_drL A1.wo r1) e fun v H' x r => hq v _ H' (A1.same x) (e1.trans (.of_ev x)) (frz_dr d v hf r)
    · exact hp.elim
theorem x_callBL (hc : CallR X (.builtin id) r) (hf : FnD F.G r g) (nx : NoXc g) (hm : X.mg x = none) (hv : bootBuiltins x = some (.builtin id)) (ha : PA X (e :: es) (tXA F E as)) (hg : Gl X x := by rfl) (hn : x ≠ "__name__" := by decide) (hdb : (x == ("__debug__" : Str)) = false := by decide)
    (he : starEach (e :: es) X.env = (false, eval e X.env) :: starEach es X.env := by rfl) (hpl : (backTo pos (starEach es X.env)).any (·.1) = false := by rfl) : PE X (.Call (.Name x p) (e :: es) [] pos) (tX F E (eFnL g as)) :=
  (pe_callB hc hg hm hv ha hn hdb he hpl).weak fun _ _ _ h => fnL_weak nx hf h
theorem x_callTL (hc : CallR X (.type T) r) (hf : FnD F.G r g) (nx : NoXc g) (hm : X.mg x = none) (hv : bootBuiltins x = some (.type T)) (ha : PA X (e :: es) (tXA F E as)) (hg : Gl X x := by rfl) (hn : x ≠ "__name__" := by decide) (hdb : (x == ("__debug__" : Str)) = false := by decide)
    (he : starEach (e :: es) X.env = (false, eval e X.env) :: starEach es X.env := by rfl) (hpl : (backTo pos (starEach es X.env)).any (·.1) = false := by rfl) : PE X (.Call (.Name x p) (e :: es) [] pos) (tX F E (eFnL g as)) :=
  (pe_callTy hc hg hm hv ha hn hdb he hpl).weak fun _ _ _ h => fnL_weak nx hf h
end

/-! ### frozen -/
/-- a list's cell is changed no more: the list -/
def eFrz (e : SE) : SE := fun ρ π => (e ρ π).bind fun p => match p.1 with
  | .ptr n => match p.2[n]? with
    | some (.lst l) => .ok (.lst l, p.2.set n .gone)
    | _ => .fail
  | _ => .fail
/-- an instance with all its nf fields is changed no more -/
def eFrzI (c nf : Nat) (e : SE) : SE := fun ρ π => (e ρ π).bind fun p => match p.1 with
  | .ptr n => match p.2[n]? with
    | some (.ins k l) => if k = c ∧ l.length = nf then .ok (.obj c l, p.2.set n .gone) else .fail
    | _ => .fail
  | _ => .fail
section
variable {X : Cx} {F : Fx} {E : XK} {e : Expr} {fe : SE}
theorem x_frz (he : PE X e (tX F E fe)) : PE X e (tX F E (eFrz fe)) := he.weak fun σ H Q h => by
  obtain ⟨ι, ρ, π, A, h⟩ := h
  refine ⟨ι, ρ, π, A, Go.mono (fun p hp v ι1 H1 A1 e1 r1 => ?_) (Go.bind h)⟩
  obtain ⟨d, π1⟩ := p
  cases d with
  | ptr n =>
    cases ec : π1[n]? with
    | none => simp only [ec] at hp; exact hp.elim
    | some c =>
      cases c with
      | lst l =>
        simp only [ec] at hp
        have hq : Kv F ι σ ρ π H Q (.lst l, π1.set n .gone) := hp
        obtain ⟨a, rfl, hn, xs, s, q⟩ := A1.wo.cell r1 ec
        have g : Gr Nm ι1 π1 H1 ι1 (π1.set n .gone) H1 := .gone ec fun z => nomatch z
        exact hq _ ι1 H1 (A1.gone ec fun z => nomatch z) (e1.trans g) ⟨a, xs, rfl, not_mu A1.wo hn (List.getElem?_eq_some_iff.mp ec).1, s, DrL.gr g (fun _ z => z.elim) q⟩
      | _ => simp only [ec] at hp; exact hp.elim
  | _ => exact hp.elim
theorem x_frzI {c nf : Nat} (he : PE X e (tX F E fe)) (hf : (F.G.flds c).length = nf) : PE X e (tX F E (eFrzI c nf fe)) := he.weak fun σ H Q h => by
  obtain ⟨ι, ρ, π, A, h⟩ := h
  refine ⟨ι, ρ, π, A, Go.mono (fun p hp v ι1 H1 A1 e1 r1 => ?_) (Go.bind h)⟩
  obtain ⟨d, π1⟩ := p
  cases d with
  | ptr n =>
    cases ec : π1[n]? with
    | none => simp only [ec] at hp; exact hp.elim
    | some cl =>
      cases cl with
      | ins k l =>
        simp only [ec] at hp
        by_cases hk : k = c ∧ l.length = nf
        · rw [if_pos hk] at hp
          have hq : Kv F ι σ ρ π H Q (.obj c l, π1.set n .gone) := hp
          obtain ⟨a, rfl, hn, dx, xs, s, _, q⟩ := A1.wo.cell r1 ec
          have g : Gr Nm ι1 π1 H1 ι1 (π1.set n .gone) H1 := .gone ec fun z => nomatch z
          obtain ⟨hk, hl⟩ := hk
          subst hk
          refine hq _ ι1 H1 (A1.gone ec fun z => nomatch z) (e1.trans g) ⟨a, dx, xs, rfl, not_mu A1.wo hn (List.getElem?_eq_some_iff.mp ec).1, s, ?_, DrL.gr g (fun _ z => z.elim) q⟩
          rw [q.length, hl]
          exact hf.symm
        · rw [if_neg hk] at hp
          exact hp.elim
      | _ => simp only [ec] at hp; exact hp.elim
  | _ => exact hp.elim
end

/-! ### o.append(e), o.pop(), o[i] = e -/
/-- the number of a list's cell -/
def lstC (π : Store) (d : D) : Res Nat := match d with
  | .ptr n => match π[n]? with
    | some (.lst _) => .ok n
    | _ => .fail
  | _ => .fail
def insC (c : Nat) (π : Store) (d : D) : Res Nat := match d with
  | .ptr n => match π[n]? with
    | some (.ins k _) => if k = c then .ok n else .fail
    | _ => .fail
  | _ => .fail
/-- what a list's cell holds -/
def getL (π : Store) (n : Nat) : Res (List D) := match π[n]? with
  | some (.lst l) => .ok l
  | _ => .fail
def getI (c : Nat) (π : Store) (n : Nat) : Res (List D) := match π[n]? with
  | some (.ins k l) => if k = c then .ok l else .fail
  | _ => .fail
theorem getL_cases (π : Store) (n : Nat) : (∃ l, π[n]? = some (.lst l) ∧ getL π n = .ok l) ∨ getL π n = .fail := by
  unfold getL
  cases e : π[n]? with
  | none => exact .inr rfl
  | some c =>
    cases c with
    | lst l => exact .inl ⟨l, rfl, rfl⟩
    | _ => exact .inr rfl
theorem getI_cases (c : Nat) (π : Store) (n : Nat) : (∃ l, π[n]? = some (.ins c l) ∧ getI c π n = .ok l) ∨ getI c π n = .fail := by
  unfold getI
  cases e : π[n]? with
  | none => exact .inr rfl
  | some cl =>
    cases cl with
    | ins k l =>
      dsimp only
      by_cases h : k = c
      · subst h
        rw [if_pos rfl]
        exact .inl ⟨l, rfl, rfl⟩
      · rw [if_neg h]; exact .inr rfl
    | _ => exact .inr rfl
theorem lstC_cases (π : Store) (d : D) : (∃ n l, d = .ptr n ∧ π[n]? = some (.lst l) ∧ lstC π d = .ok n) ∨ lstC π d = .fail := by
  unfold lstC
  cases d with
  | ptr n =>
    dsimp only
    cases e : π[n]? with
    | none => exact .inr rfl
    | some c =>
      cases c with
      | lst l => exact .inl ⟨n, l, rfl, e, rfl⟩
      | _ => exact .inr rfl
  | _ => exact .inr rfl
theorem insC_cases (c : Nat) (π : Store) (d : D) : (∃ n l, d = .ptr n ∧ π[n]? = some (.ins c l) ∧ insC c π d = .ok n) ∨ insC c π d = .fail := by
  unfold insC
  cases d with
  | ptr n =>
    dsimp only
    cases e : π[n]? with
    | none => exact .inr rfl
    | some cl =>
      cases cl with
      | ins k l =>
        dsimp only
        by_cases h : k = c
        · subst h
          rw [if_pos rfl]
          exact .inl ⟨n, l, rfl, e, rfl⟩
        · rw [if_neg h]; exact .inr rfl
      | _ => exact .inr rfl
  | _ => exact .inr rfl
def eApp (o e : SE) : SE := fun ρ π => (o ρ π).bind fun p => (lstC p.2 p.1).bind fun n => (e ρ p.2).bind fun q => (getL q.2 n).bind fun l => if l.length < 100000 then .ok (.non, q.2.set n (.lst (l ++ [q.1]))) else .fail
def ePop (o : SE) : SE := fun ρ π => (o ρ π).bind fun p => (lstC p.2 p.1).bind fun n => (getL p.2 n).bind fun l => (Res.of l[l.length - 1]?).bind fun d => .ok (d, p.2.set n (.lst l.dropLast))
/-- o[i] = the value -/
def gSetL (o i : SE) : STg := fun d ρ π => (o ρ π).bind fun p => (i ρ p.2).bind fun q => (lstC q.2 p.1).bind fun n => (int? q.1).bind fun k => (getL q.2 n).bind fun l => (Res.of (ixN l.length k)).bind fun j => .ok (ρ, q.2.set n (.lst (l.set j d)))
/-- o.f = e, f the i-th field -/
def sFldSet (c i : Nat) (o e : SE) : SS := fun ρ π => (e ρ π).bind fun q => (o ρ q.2).bind fun p => (insC c p.2 p.1).bind fun n => (getI c p.2 n).bind fun l => if i ≤ l.length then .ok (.nx ρ (p.2.set n (.ins c (if i < l.length then l.set i q.1 else l ++ [q.1])))) else .fail
/-- several values assigned to several targets, from the left -/
def sStore (h : STg) : D → SS := fun d ρ π => (h d ρ π).bind fun q => .ok (.nx q.1 q.2)
section
variable {X : Cx} {F : Fx} {E : XK} {o e i : Expr} {pos apos cpos p' : Pos} {fo fe fi : SE}
theorem put_lst {F : Fx} {ι : List Addr} {σ : L2.St} {ρ : En} {π : Store} {H : Hp} {n : Nat} {a : Addr} {l l' : List D} {xs xs' : List V} (A : At F ι σ ρ π H) (hn : ι[n]? = some a) (hc : π[n]? = some (.lst l)) (s : H a = some (.lst xs)) (r : DrL (F.G.at ι) (Mu F.M0 ι π) H l' xs') :
    At F ι σ ρ (π.set n (.lst l')) (upd H a (.lst xs')) ∧ Gr Nm ι π H ι (π.set n (.lst l')) (upd H a (.lst xs')) := by
  have x : Ev (fun b => b = a) H (upd H a (.lst xs')) := .put rfl s
  have g : Gr Nm ι π H ι (π.set n (.lst l')) (upd H a (.lst xs')) := .put hn hc (fun z => nomatch z) x
  exact ⟨A.putC hn hc (fun z => nomatch z) x ⟨xs', upd_same, DrL.gr g (fun _ z => z.elim) r⟩, g⟩
theorem cell_of {F : Fx} {ι : List Addr} {σ : L2.St} {ρ : En} {π : Store} {H : Hp} {n : Nat} {a : Addr} {c : Cell} (A : At F ι σ ρ π H) (hn : ι[n]? = some a) (hc : π[n]? = some c) : Cl (F.G.at ι) (Mu F.M0 ι π) H a c := by
  obtain ⟨b, eb, q⟩ := A.wo.wd.cel n c hc
  rw [hn] at eb
  cases eb
  exact q
theorem Gr.at {C : Addr → Prop} {ι ι' : List Addr} {π π' : Store} {H H' : Hp} {n : Nat} {a : Addr} (g : Gr C ι π H ι' π' H') (h : ι[n]? = some a) : ι'[n]? = some a := by
  obtain ⟨t, rfl⟩ := g.pre
  exact get_app h
theorem x_app (ho : PE X o (tX F E fo)) (he : PE X e (tX F E fe)) (hbase : attributeBase o "append" X.env (eval o X.env) = eval o X.env := by rfl)
    (hfew : ((backTo cpos (starEach [e] X.env)).all (fun x => !x.1) && (backToKw cpos (keywordEach [] X.env)).all (fun x => x.1.isSome)
      && decide ([e].length + ([] : List Keyword).length + (if ([] : List Keyword).isEmpty then 0 else 1) < 30)) = true := by rfl)
    (hline : (apos.endLine == cpos.line) = true := by rfl) (hs : starEach [e] X.env = (false, eval e X.env) :: starEach [] X.env := by rfl) (hplain : (backTo cpos (starEach [] X.env)).any (·.1) = false := by rfl) :
    PE X (.Call (.Attribute o "append" apos) [e] [] cpos) (tX F E (eApp fo fe)) :=
  (pe_bm PySem.F.plainAttrs_list PySem.F.slot_list_append PySem.F.type_list_append mt_append ho (pa_cons he pa_nil hs) hbase hfew hline hs hplain).weak fun σ H Q h => by
    obtain ⟨ι, ρ, π, A, h⟩ := h
    refine ⟨ι, ρ, π, A, Go.mono (fun p hp v ι1 H1 A1 e1 r1 => ?_) (Go.bind h)⟩
    have hp := Go.bind hp
    obtain ⟨d, π1⟩ := p
    rcases lstC_cases π1 d with ⟨n, l, rfl, ec, en⟩ | en
    · rw [en] at hp
      have hp := Go.bind (show Go F E (Res.bind (fe ρ π1) _) _ from hp)
      obtain ⟨a, rfl, hn, xs, s, _⟩ := A1.wo.cell r1 ec
      refine ⟨.inl ⟨rfl, xs, SqL.of s⟩, ι1, ρ, π1, A1, Go.mono (fun q hq y ι2 H2 A2 e2 r2 => ?_) hp⟩
      have hq := Go.bind hq
      have hn2 := e2.at hn
      rcases getL_cases q.2 n with ⟨l2, ec2, eg⟩ | eg
      · rw [eg] at hq
        have hq : Go F E (if l2.length < 100000 then Res.ok (D.non, q.2.set n (.lst (l2 ++ [q.1]))) else .fail) (Kv F ι σ ρ π H Q) := hq
        split at hq
        · rename_i hl
          have hq : Kv F ι σ ρ π H Q (D.non, q.2.set n (.lst (l2 ++ [q.1]))) := hq
          obtain ⟨xs2, s2, q2⟩ := cell_of A2 hn2 ec2
          obtain ⟨A3, g3⟩ := put_lst A2 hn2 ec2 s2 (q2.append (.one r2))
          exact ⟨a, xs2, y, rfl, rfl, s2, by rw [q2.length]; exact Nat.lt_of_lt_of_le hl (big (Nat.le_refl _)), hq _ _ _ A3 ((e1.trans e2).trans g3) rfl⟩
        · exact hq.elim
      · rw [eg] at hq; exact hq.elim
    · rw [en] at hp; exact hp.elim
theorem x_pop (ho : PE X o (tX F E fo)) (hbase : attributeBase o "pop" X.env (eval o X.env) = eval o X.env := by rfl) (hline : (apos.endLine == cpos.line) = true := by rfl) :
    PE X (.Call (.Attribute o "pop" apos) [] [] cpos) (tX F E (ePop fo)) :=
  (pe_bm0 PySem.F.plainAttrs_list PySem.F.slot_list_pop PySem.F.type_list_pop mt_pop ho hbase hline).weak fun σ H Q h => by
    obtain ⟨ι, ρ, π, A, h⟩ := h
    refine ⟨ι, ρ, π, A, Go.mono (fun p hp v ι1 H1 A1 e1 r1 => ?_) (Go.bind h)⟩
    have hp := Go.bind hp
    obtain ⟨d, π1⟩ := p
    rcases lstC_cases π1 d with ⟨n, l0, rfl, ec0, en⟩ | en
    · rw [en] at hp
      have hp := Go.bind (show Go F E (Res.bind (getL π1 n) _) _ from hp)
      obtain ⟨a, rfl, hn, _⟩ := A1.wo.cell r1 ec0
      rcases getL_cases π1 n with ⟨l, ec, eg⟩ | eg
      · rw [eg] at hp
        have hp := Go.bind (show Go F E (Res.bind (Res.of l[l.length - 1]?) _) _ from hp)
        obtain ⟨xs, s, q⟩ := cell_of A1 hn ec
        cases el : l[l.length - 1]? with
        | none => rw [el] at hp; exact hp.elim
        | some d =>
          rw [el] at hp
          have hp : Kv F ι σ ρ π H Q (d, π1.set n (.lst l.dropLast)) := hp
          obtain ⟨y, ey, ry⟩ := q.get el
          obtain ⟨A3, g3⟩ := put_lst (l' := l.dropLast) (xs' := xs.dropLast) A1 hn ec s (by
            rw [List.dropLast_eq_take, List.dropLast_eq_take, q.length]
            exact q.take _)
          exact ⟨.inl ⟨rfl, xs, SqL.of s⟩, a, xs, y, rfl, rfl, s, by rw [q.length]; exact ey, hp _ _ _ A3 (e1.trans g3) (Dr.gr g3 (fun _ z => z.elim) ry)⟩
      · rw [eg] at hp; exact hp.elim
    · rw [en] at hp; exact hp.elim
theorem xg_setL {js : List Nat} (ho : PE X o (tX F E fo)) (hi : PE X i (tX F E fi)) (ha : ∀ v, assign (.Subscript o i pos) X.env v = (do
      let ov ← holding [v] (eval o X.env)
      let iv ← holding [v, ov] (eval i X.env)
      standAt pos
      holding [v, ov, iv] (setItem ov iv v)
      release [v, ov, iv] []) := by intro _; rfl) : PG X (.Subscript o i pos) (tTg F E js (gSetL fo fi)) := (pg_sub ho hi set_list ha).weak fun v σ H Q h => by
  obtain ⟨ι, ρ, π, d, A, r, h⟩ := h
  refine ⟨ι, ρ, π, A, Go.mono (fun p hp x ι1 H1 A1 e1 r1 => ⟨ι1, ρ, p.2, A1, Go.mono (fun q hq y ι2 H2 A2 e2 r2 => ?_) (Go.bind hp)⟩) (Go.bind h)⟩
  have hq := Go.bind hq
  have r1' := Dr.gr e2 (fun _ z => z.elim) r1
  have rd := Dr.gr (e1.trans e2) (fun _ z => z.elim) r
  rcases lstC_cases q.2 p.1 with ⟨n, l0, e0, ec0, en⟩ | en
  · rw [en] at hq
    rw [e0] at r1'
    have hq := Go.bind (show Go F E (Res.bind (int? q.1) _) _ from hq)
    obtain ⟨a, rfl, hn, _⟩ := A2.wo.cell r1' ec0
    cases ei : q.1 with
    | int k =>
      rw [ei] at hq r2
      have hq := Go.bind (show Go F E (Res.bind (getL q.2 n) _) _ from hq)
      rcases getL_cases q.2 n with ⟨l, ec, eg⟩ | eg
      · rw [eg] at hq
        have hq := Go.bind (show Go F E (Res.bind (Res.of (ixN l.length k)) _) _ from hq)
        obtain ⟨xs, s, qx⟩ := cell_of A2 hn ec
        cases ej : ixN l.length k with
        | none => rw [ej] at hq; exact hq.elim
        | some j =>
          rw [ej] at hq
          obtain ⟨A3, g3⟩ := put_lst (l' := l.set j d) (xs' := xs.set j v) A2 hn ec s (qx.set j rd)
          exact ⟨a, xs, k, j, rfl, r2, s, by rw [qx.length]; exact ej, hq _ _ _ A3 ((e1.trans e2).trans g3) (fun _ _ => rfl) rfl⟩
      · rw [eg] at hq; exact hq.elim
    | _ => rw [ei] at hq; exact hq.elim
  · rw [en] at hq; exact hq.elim
end

/-! ### o.f = e -/
theorem putF_zip {N : List Str} {f : Str} {v : V} (nd : N.Nodup) : ∀ {i : Nat} {xs : List V}, N[i]? = some f → i ≤ xs.length → xs.length ≤ N.length → putF f v (N.zip xs) = N.zip (if i < xs.length then xs.set i v else xs ++ [v]) := by
  induction N with
  | nil => intro i xs h; simp at h
  | cons g N ih =>
    intro i xs h hi hl
    rw [List.nodup_cons] at nd
    cases xs with
    | nil =>
      have : i = 0 := by simpa using hi
      subst this
      simp at h
      subst h
      simp [putF]
    | cons x xs =>
      cases i with
      | zero =>
        simp at h
        subst h
        simp [putF]
      | succ i =>
        have h : N[i]? = some f := by simpa using h
        have ne : g ≠ f := fun z => nd.1 (by rw [z]; exact List.mem_of_getElem? h)
        have hi : i ≤ xs.length := by simpa using hi
        have hl : xs.length ≤ N.length := by simpa using hl
        have q := ih nd.2 h hi hl
        simp only [List.zip_cons_cons, putF, if_neg ne, q]
        by_cases z : i < xs.length
        · rw [if_pos z, if_pos (by simpa using z)]; rfl
        · rw [if_neg z, if_neg (by simpa using z)]; rfl
section
variable {X : Cx} {F : Fx} {E : XK} {o e : Expr} {pos p' : Pos} {fo fe : SE} {C : Addr} {c i : Nat} {f : Str}
theorem s_fldSet (I : FldC F.G C c f i) (hz : (F.G.flds c).length < 1000) (ho : PE X o (tX F E fo)) (he : PE X e (tX F E fe)) (hK : F.G.K = X.K := by rfl) (hs : swapsWith e (some (.Attribute o f p')) pos.line X.env = pure false := by rfl) :
    PS X (.Assign [.Attribute o f p'] e pos) (tS F E (sFldSet c i fo fe)) := (ps_fld ho he hs).weak fun D σ H h => by
  obtain ⟨ι, ρ, π, A, h⟩ := h
  refine ⟨ι, ρ, π, A, Go.mono (fun q hq y ι1 H1 A1 e1 r1 => ⟨ι1, ρ, q.2, A1, Go.mono (fun p hp x ι2 H2 A2 e2 r2 => ?_) (Go.bind hq)⟩) (Go.bind h)⟩
  have hp := Go.bind hp
  rcases insC_cases c p.2 p.1 with ⟨n, l0, e0, ec0, en⟩ | en
  · rw [en] at hp
    rw [e0] at r2
    have hp := Go.bind (show Go F E (Res.bind (getI c p.2 n) _) _ from hp)
    obtain ⟨a, rfl, hn, _⟩ := A2.wo.cell r2 ec0
    rcases getI_cases c p.2 n with ⟨l, ec, eg⟩ | eg
    · rw [eg] at hp
      have hp : Go F E (if i ≤ l.length then .ok (Fl.nx ρ (p.2.set n (.ins c (if i < l.length then l.set i q.1 else l ++ [q.1])))) else .fail) (Fw F ι π H D) := hp
      split at hp
      · rename_i hi
        obtain ⟨dx, xs, s, hl, qx⟩ := cell_of A2 hn ec
        have ry := Dr.gr e2 (fun _ z => z.elim) r1
        have hil : i < (F.G.flds c).length := (List.getElem?_eq_some_iff.mp I.at_).1
        have ez : putF f y ((F.G.flds c).zip xs) = (F.G.flds c).zip (if i < xs.length then xs.set i y else xs ++ [y]) := putF_zip I.nd I.at_ (by rw [qx.length]; exact hi) (by rw [qx.length]; exact hl)
        have rx : DrL (F.G.at ι2) (Mu F.M0 ι2 p.2) H2 (if i < l.length then l.set i q.1 else l ++ [q.1]) (if i < xs.length then xs.set i y else xs ++ [y]) := by
          rw [qx.length]
          by_cases z : i < l.length
          · rw [if_pos z, if_pos z]; exact qx.set i ry
          · rw [if_neg z, if_neg z]; exact qx.append (.one ry)
        have hl' : (if i < l.length then l.set i q.1 else l ++ [q.1]).length ≤ (F.G.flds c).length := by
          by_cases z : i < l.length
          · rw [if_pos z, List.length_set]; exact hl
          · rw [if_neg z, List.length_append]
            have : i = l.length := by omega
            simp only [List.length_cons, List.length_nil]
            omega
        have x : Ev (fun b => b = a) H2 (upd H2 a (.ins (F.G.cls c) dx (putF f y ((F.G.flds c).zip xs)))) := .put rfl s
        have g : Gr Nm ι2 p.2 H2 ι2 (p.2.set n (.ins c (if i < l.length then l.set i q.1 else l ++ [q.1]))) _ := .put hn ec (fun z => nomatch z) x
        refine ⟨a, F.G.cls c, dx, _, rfl, s, by rw [← hK, I.cls]; exact I.cl, by rw [← hK, I.cls]; exact I.no, Nat.lt_of_le_of_lt (by rw [List.length_zip]; exact Nat.min_le_left _ _) hz, ?_⟩
        have rx2 := DrL.gr g (fun _ z => z.elim) rx
        rw [ez] at g x rx2 ⊢
        exact hp _ σ _ (A2.putC hn ec (fun z => nomatch z) x ⟨dx, _, upd_same, hl', rx2⟩) ((e1.trans e2).trans g)
      · exact hp.elim
    · rw [eg] at hp; exact hp.elim
  · rw [en] at hp; exact hp.elim
end

/-! ### instances made, methods called -/
/-- the own class x of number c: its __init__ -/
structure ClC (P : Program) (w : World) (G : Gx) (mg : Str → Option Value) (base : Heap) (k : Nat) (x : Str) (c : Nat) (sp : Sp) : Prop where
  ex : ∃ (f : Addr) (fd : FuncData) (ps : List Str), mg x = some (.ref (G.cls c)) ∧ Mk G.K (G.cls c) f ∧ FnOk P w G.K mg base (L2.CX P w) k f fd ps sp ∧ Binds G.K fd ps []
def non? : D → Res Unit
  | .non => .ok ()
  | _ => .fail
@[simp] theorem non?_non : non? .non = .ok () := rfl
def eMake (c : Nat) (g : List D → Store → Res (D × Store)) (as : SA) : SE := fun ρ π => (as ρ π).bind fun x => (g (.ptr x.2.length :: x.1) (x.2 ++ [.ins c []])).bind fun r => (non? r.1).bind fun _ => .ok (.ptr x.2.length, r.2)
/-- a method m of the own class of number c -/
structure MtC (P : Program) (w : World) (G : Gx) (mg : Str → Option Value) (base : Heap) (k : Nat) (c : Nat) (m : Str) (sp : Sp) : Prop where
  ex : ∃ (f : Addr) (fd : FuncData) (ps : List Str), Cls G.K (G.cls c) ∧ Meth G.K (G.cls c) m f ∧ FnOk P w G.K mg base (L2.CX P w) k f fd ps sp ∧ Binds G.K fd ps [] ∧ m ∉ G.flds c
def cls? (c : Nat) (π : Store) (d : D) : Res Unit := if clsD d π = some c then .ok () else .fail
def eMeth (c : Nat) (g : List D → Store → Res (D × Store)) (o : SE) (as : SA) : SE := fun ρ π => (o ρ π).bind fun p => (cls? c p.2 p.1).bind fun _ => (as ρ p.2).bind fun x => g (p.1 :: x.1) x.2
theorem lookup_zip_none {N : List Str} {m : Str} (h : m ∉ N) : ∀ {xs : List V}, (N.zip xs).lookup m = none := by
  induction N with
  | nil => intro xs; rfl
  | cons g N ih =>
    intro xs
    cases xs with
    | nil => rfl
    | cons x xs =>
      have ne : (m == g) = false := by
        have : m ≠ g := fun z => h (by rw [z]; exact List.mem_cons_self)
        simpa using this
      simp only [List.zip_cons_cons, List.lookup, ne]
      exact ih (fun z => h (List.mem_cons_of_mem _ z))
section
variable {X : Cx} {F : Fx} {E : XK} {o e : Expr} {es : List Expr} {pos apos p : Pos} {fo : SE} {as : SA} {x m : Str} {c k : Nat} {g : List D → Store → Res (D × Store)}
theorem make_weak {σ : L2.St} {H : Hp} {Q : VK} (hc : 0 ≤ (F.G.flds c).length) (h : tX F E (eMake c g as) σ H Q) : tMake (F.G.cls c) (spS F.G g) [] E (tXA F E as) σ H Q := by
  obtain ⟨ι, ρ, π, A, h⟩ := h
  refine ⟨ι, ρ, π, A, Go.mono (fun q hq vs ι1 H1 A1 e1 r1 a dx ha hdx hne => ?_) (Go.bind h)⟩
  have hq := Go.bind hq
  have ev : Ev Nm H1 (upd (upd H1 dx (.own a)) a (.ins (F.G.cls c) dx [])) := .of fun b u e => by
    rw [upd_ne (ne_of_none e ha), upd_ne (ne_of_none e hdx)]
    exact e
  have h1 : (upd (upd H1 dx (.own a)) a (.ins (F.G.cls c) dx [])) a ≠ none := by rw [upd_same]; exact fun z => nomatch z
  have g1 : Gr Nm ι1 q.2 H1 (ι1 ++ [a]) (q.2 ++ [.ins c []]) _ := .add (M0 := F.M0) A1.wo.wd ha ev
  have cl : Cl (F.G.at (ι1 ++ [a])) (Mu F.M0 (ι1 ++ [a]) (q.2 ++ [.ins c []])) (upd (upd H1 dx (.own a)) a (.ins (F.G.cls c) dx [])) a (.ins c []) := ⟨dx, [], by rw [upd_same, List.zip_nil_right], hc, rfl⟩
  have A2 := A1.add ha ev h1 cl
  refine ⟨F.M0, ι1 ++ [a], q.2 ++ [.ins c []], .ptr q.2.length :: q.1, A2.wo.wd, ?_, ?_⟩
  · rw [List.append_nil]
    exact .cons (ptr_new A1.wo.wd.il) (DrL.gr g1 (fun _ z => z.elim) r1)
  · cases eg : g (.ptr q.2.length :: q.1) (q.2 ++ [.ins c []]) with
    | fail => rw [eg] at hq; exact hq.elim
    | xc c' d π' =>
      rw [eg] at hq
      exact Xk.out A2.wo.gr hq
    | ok r =>
      rw [eg] at hq
      have hq := Go.bind (show Go F E ((non? r.1).bind fun _ => .ok (D.ptr q.2.length, r.2)) _ from hq)
      intro v ι' H' g' W' rv
      cases er : r.1 with
      | non =>
        rw [er] at hq rv
        have hq : Kv F ι σ ρ π H Q (.ptr q.2.length, r.2) := hq
        exact ⟨rv, hq _ ι' H' (A2.go' g' W') ((e1.trans g1).trans g') ⟨a, rfl, g'.at (by
          rw [← A1.wo.wd.il, List.getElem?_append_right (Nat.le_refl _), Nat.sub_self]; rfl)⟩⟩
      | _ => rw [er] at hq; exact hq.elim
theorem x_make (I : ClC X.prog X.w F.G X.mg X.base k x c (spS F.G g)) (hr : Room (k + 1) X.A) (hx : Passes (L2.CX X.prog X.w) X E) (ha : PA X (e :: es) (tXA F E as)) (hK : F.G.K = X.K := by rfl) (hg : Gl X x := by rfl) (hdb : (x == ("__debug__" : Str)) = false := by decide)
    (he : starEach (e :: es) X.env = (false, eval e X.env) :: starEach es X.env := by rfl) (hpl : (backTo pos (starEach es X.env)).any (·.1) = false := by rfl) : PE X (.Call (.Name x p) (e :: es) [] pos) (tX F E (eMake c g as)) := by
  obtain ⟨f, fd, ps, hm, M, Fn, hb⟩ := I.ex
  rw [hK] at M Fn hb
  exact (pe_make M Fn hr hg hm hb .nil hx ha hdb he hpl).weak fun _ _ _ h => make_weak (Nat.zero_le _) h
theorem meth_weak {σ : L2.St} {H : Hp} {Q : VK} (hm : m ∉ F.G.flds c) (h : tX F E (eMeth c g fo as) σ H Q) : tMeth (F.G.cls c) m (spS F.G g) [] E (tX F E fo) (tXA F E as) σ H Q := by
  obtain ⟨ι, ρ, π, A, h⟩ := h
  refine ⟨ι, ρ, π, A, Go.mono (fun p hp v ι1 H1 A1 e1 r1 => ?_) (Go.bind h)⟩
  have hp := Go.bind hp
  unfold cls? at hp
  split at hp
  · rename_i hc
    have hp := Go.bind (show Go F E ((as ρ p.2).bind fun x => g (p.1 :: x.1) x.2) _ from hp)
    obtain ⟨a, dx, xs, rfl, s⟩ := inst_at A1 r1 hc
    refine ⟨a, dx, _, rfl, s, lookup_zip_none hm, ι1, ρ, p.2, A1, Go.mono (fun q hq vs ι2 H2 A2 e2 r2 => ?_) hp⟩
    refine ⟨F.M0, ι2, q.2, p.1 :: q.1, A2.wo.wd, ?_, ?_⟩
    · rw [List.append_nil]
      exact .cons (Dr.gr e2 (fun _ z => z.elim) r1) r2
    · cases eg : g (p.1 :: q.1) q.2 with
      | fail => rw [eg] at hq; exact hq.elim
      | xc c' d π' => rw [eg] at hq; exact Xk.out A2.wo.gr hq
      | ok r =>
        rw [eg] at hq
        exact fun v ι' H' g' W' rv => hq v ι' H' (A2.go' g' W') ((e1.trans e2).trans g') rv
  · exact hp.elim
theorem x_meth {pl : Sem Bool} (I : MtC X.prog X.w F.G X.mg X.base k c m (spS F.G g)) (hr : Room k X.A) (hx : Passes (L2.CX X.prog X.w) X E) (ho : PE X o (tX F E fo)) (ha : PA X (e :: es) (tXA F E as)) (hK : F.G.K = X.K := by rfl)
    (hst : starEach (e :: es) X.env = (false, eval e X.env) :: starEach es X.env := by rfl) (hpl : (backTo pos (starEach es X.env)).any (·.1) = false := by rfl)
    (ht : eval (.Call (.Attribute o m apos) (e :: es) [] pos) X.env = (do
      let ov ← eval o X.env
      standAt apos.atName
      let (f, first) ← holding [ov] (getMethod ov m pl)
      callWith pos f first (backTo pos (starEach (e :: es) X.env)) (backToKw pos (keywordEach [] X.env))) := by rfl) : PE X (.Call (.Attribute o m apos) (e :: es) [] pos) (tX F E (eMeth c g fo as)) := by
  obtain ⟨f, fd, ps, hc, hm, Fn, hb, hn⟩ := I.ex
  rw [hK] at hc hm Fn hb
  exact (pe_meth ho hc hm Fn hr hb .nil hx ha hst hpl ht).weak fun _ _ _ h => meth_weak hn h
theorem x_meth0 {pl : Sem Bool} (I : MtC X.prog X.w F.G X.mg X.base k c m (spS F.G g)) (hr : Room k X.A) (hx : Passes (L2.CX X.prog X.w) X E) (ho : PE X o (tX F E fo)) (hK : F.G.K = X.K := by rfl)
    (ht : eval (.Call (.Attribute o m apos) [] [] pos) X.env = (do
      let ov ← eval o X.env
      standAt apos.atName
      let (f, first) ← holding [ov] (getMethod ov m pl)
      callWith pos f first (backTo pos (starEach [] X.env)) (backToKw pos (keywordEach [] X.env))) := by rfl) : PE X (.Call (.Attribute o m apos) [] [] pos) (tX F E (eMeth c g fo aNil)) := by
  obtain ⟨f, fd, ps, hc, hm, Fn, hb, hn⟩ := I.ex
  rw [hK] at hc hm Fn hb
  refine (pe_meth0 ho hc hm Fn hr hb .nil hx ht).weak fun σ H Q h => ?_
  have q := meth_weak hn h
  obtain ⟨ι, ρ, π, A, q⟩ := q
  refine ⟨ι, ρ, π, A, Go.mono (fun p hp v ι1 H1 A1 e1 r1 => ?_) q⟩
  obtain ⟨a, dx, fs, ev, s, hl, q2⟩ := hp v ι1 H1 A1 e1 r1
  refine ⟨a, dx, fs, ev, s, hl, ?_⟩
  obtain ⟨ι2, ρ2, π2, A2, q3⟩ := q2
  exact q3 [] ι2 H1 A2 (.refl _ _ _ _) rfl
end
end Ph
end
section
set_option Elab.async false
set_option linter.all false
set_option maxRecDepth 100000
/-! Ph, part J: constants of the module, 10 ** 18, divmod, tuple(range(n)), list(range(n)), targets with places; defs by their own computation. -/
namespace Ph
open PySem PySem.Spec PyProof.Rows L2

/-! ### a constant of the module -/
structure Cst (K : PySem.W.Frag) (mg : Str → Option Value) (x : Str) (d : D) : Prop where
  ex : ∃ (u : Value) (v : V), mg x = some u ∧ RelV v u ∧ ∀ (G : Gx) (M : Addr → Prop) (H : Hp), G.K = K → Dr G M H d v
theorem x_cst {X : Cx} {F : Fx} {E : XK} {x : Str} {d : D} {pos : Pos} (c : Cst F.G.K X.mg x d) (hg : Gl X x := by rfl) (hd : (x == ("__debug__" : Str)) = false := by decide) : PE X (.Name x pos) (tX F E (eC d)) := by
  obtain ⟨u, v, hm, r, q⟩ := c.ex
  exact (pe_glob hg hm r hd).weak fun σ H Q h => by
    obtain ⟨ι, ρ, π, A, h⟩ := h
    exact h v ι H A (.refl _ _ _ _) (q _ _ _ rfl)
theorem cst_int {K : PySem.W.Frag} {mg : Str → Option Value} {x : Str} {i : Int} (h : ∃ t, mg x = some (.int i t)) : Cst K mg x (.int i) := by
  obtain ⟨t, h⟩ := h
  exact ⟨_, .int i, h, ⟨t, rfl⟩, fun _ _ _ _ => rfl⟩
theorem cst_str {K : PySem.W.Frag} {mg : Str → Option Value} {x z : Str} (h : ∃ t, mg x = some (.str z t)) : Cst K mg x (.str z) := by
  obtain ⟨t, h⟩ := h
  exact ⟨_, .str z, h, ⟨t, rfl⟩, fun _ _ _ _ => rfl⟩

/-! ### divmod, tuple(range(n)), list(range(n)) -/
def fDivmod : List D → Res D
  | [.int i, .int j] => if 0 < j ∧ j < 1000000000 then .ok (.ptup [.int (i / j), .int (i % j)]) else .fail
  | _ => .fail
theorem fd_divmod {G : Gx} : FnD G (fun xs H Q => ∃ i j, xs = [.int i, .int j] ∧ CDiv i j ∧ ∀ p, H p = none → Q (.ref p) (upd H p (.tup [.int (i / j), .int (i % j)]))) fDivmod := by
  intro ι M H ds d vs Q hm r e hq
  unfold fDivmod at e
  split at e
  · rename_i i j
    obtain ⟨v, w, rfl, q, q2⟩ := two_v r
    obtain rfl : v = .int i := q
    obtain rfl : w = .int j := q2
    split at e
    · rename_i hj
      cases e
      exact ⟨i, j, rfl, ⟨hj.1, by omega⟩, fun p hp => hq _ _ (.new hp) (.ptupN (.cons rfl (.one rfl)) hp)⟩
    · cases e
  · cases e
theorem nx_divmod : NoXc fDivmod := fun ds c d π => by unfold fDivmod; split <;> (try split) <;> exact fun z => nomatch z
def fTupleRg : List D → Res D
  | [.int n] => if n ≤ 100000 ∧ -100000 ≤ n then .ok (.tup (rangeD 0 n)) else .fail
  | _ => .fail
def fListRg : List D → Res D
  | [.int n] => if n ≤ 100000 ∧ -100000 ≤ n then .ok (.lst (rangeD 0 n)) else .fail
  | _ => .fail
theorem nx_tupleRg : NoXc fTupleRg := fun ds c d π => by unfold fTupleRg; split <;> (try split) <;> exact fun z => nomatch z
theorem nx_listRg : NoXc fListRg := fun ds c d π => by unfold fListRg; split <;> (try split) <;> exact fun z => nomatch z
theorem range_dr {G : Gx} {M : Addr → Prop} {H : Hp} {n : Int} : DrL G M H (rangeD 0 n) (rgV 0 n) := by
  unfold rangeD rgV
  induction List.range (n - 0).toNat with
  | nil => rfl
  | cons i r ih => exact ⟨_, _, rfl, rfl, ih⟩
section
variable {X : Cx} {F : Fx} {E : XK} {e : Expr} {as : SA} {p p2 pos pos2 : Pos} {te : L2.St → Hp → (Int → Int → Hp → Prop) → Prop}
def tTupRgF (te : L2.St → Hp → (Int → Int → Hp → Prop) → Prop) : TE := fun σ H Q => te σ H fun a b H1 => RgOk a b ∧ NewT H1 (rgV a b) Q
theorem pe_tupRgF (hc : X.calm = true) (hg : Gl X "tuple") (hm : X.mg "tuple" = none) (he : PRg X e te) (na : starEach [e] X.env = (false, eval e X.env) :: starEach [] X.env := by rfl) : PE X (.Call (.Name "tuple" p) [e] [] pos) (tTupRgF te) := by
  refine ⟨fun pins s σ H Q I h => ?_⟩
  refine Call_ (ld_blt I hg hm boot_tuple (PyProof.Rows.callWith_type1 (args_cons (thn (he pins s σ H _ I h) fun x s1 ⟨r, a, b, t, u, v, H1, ex, hr, I1, ok, q⟩ => args_nil ?_) na) na))
  subst ex
  obtain ⟨b1, b2, b3, b4, b5⟩ := ok
  refine call_tuple_range (n := (b - a).toNat) (I1.ok.hd hc) hr (small_one b1 b2 b3 b4) (rangeSize_nat a b) b5 fun h' tk acc hk hi => ?_
  have I2 : Inv X pins σ H1 { s1 with heap := h', toks := tk } := I1.kept hk
  exact ⟨.ref h'.objs.size, upd H1 h'.objs.size (.frz { cls := .type "tuple", data := .seq acc.toList.toArray } (.tup (rgV a b))), I2.laid (t' := tk) (fun c o e => Heap.get?_push_of_some _ e) (Nat.le_refl _)
    (show ObjOk X.prog X.w _ _ _ (.frz _ (.tup (rgV a b))) from ⟨by rw [Array.toArray_toList]; exact Heap.get?_push_size _ rfl, by rw [rgV_length, sizeLine_eq]; omega, acc.toList, vals_rg hi, by rw [Array.toArray_toList]; exact IsTup.new _ _⟩), rfl, q _ _ (I2.hok.fresh (Nat.le_refl _)) rfl⟩
theorem x_tupleRg {fe : SE} (hm : X.mg "tuple" = none) (hmr : X.mg "range" = none) (he : PE X e (tX F E fe)) (hc : X.calm = true := by rfl) (hg : Gl X "tuple" := by rfl) (hgr : Gl X "range" := by rfl)
    (na1 : starEach [e] X.env = (false, eval e X.env) :: starEach [] X.env := by rfl) (na : starEach [.Call (.Name "range" p2) [e] [] pos2] X.env = (false, eval (.Call (.Name "range" p2) [e] [] pos2) X.env) :: starEach [] X.env := by rfl) :
    PE X (.Call (.Name "tuple" p) [.Call (.Name "range" p2) [e] [] pos2] [] pos) (tX F E (eFn fTupleRg (aCons fe aNil))) := (pe_tupRgF hc hg hm (prg_1 hgr hmr he na1) na).weak fun σ H Q h => by
  obtain ⟨ι, ρ, π, A, h⟩ := h
  refine ⟨ι, ρ, π, A, Go.mono (fun q hq v ι1 H1 A1 e1 r1 => ?_) (Go.bind (Go.bind h))⟩
  have hq : Go F E ((fTupleRg [q.1]).at q.2) (Kv F ι σ ρ π H Q) := hq
  obtain ⟨d, π1⟩ := q
  cases d with
  | int n =>
    have hq : Go F E (Res.at (if n ≤ 100000 ∧ -100000 ≤ n then .ok (.tup (rangeD 0 n)) else .fail) π1) (Kv F ι σ ρ π H Q) := hq
    split at hq
    · rename_i hn
      have hq : Kv F ι σ ρ π H Q (.tup (rangeD 0 n), π1) := hq
      exact ⟨n, r1, ⟨by omega, by omega, by omega, by omega, by omega⟩, fun p o hp hd => hq _ _ _ (A1.same (.new hp)) (e1.trans (.of_ev (.new hp))) (.tupN range_dr hp hd)⟩
    · exact hq.elim
  | _ => exact hq.elim
theorem x_listRg {fe : SE} (hm : X.mg "list" = none) (hmr : X.mg "range" = none) (he : PE X e (tX F E fe)) (hc : X.calm = true := by rfl) (hg : Gl X "list" := by rfl) (hgr : Gl X "range" := by rfl)
    (na1 : starEach [e] X.env = (false, eval e X.env) :: starEach [] X.env := by rfl) (na : starEach [.Call (.Name "range" p2) [e] [] pos2] X.env = (false, eval (.Call (.Name "range" p2) [e] [] pos2) X.env) :: starEach [] X.env := by rfl) :
    PE X (.Call (.Name "list" p) [.Call (.Name "range" p2) [e] [] pos2] [] pos) (tX F E (eFn fListRg (aCons fe aNil))) := (pe_listRg hc hg hm (prg_1 hgr hmr he na1) na).weak fun σ H Q h => by
  obtain ⟨ι, ρ, π, A, h⟩ := h
  refine ⟨ι, ρ, π, A, Go.mono (fun q hq v ι1 H1 A1 e1 r1 => ?_) (Go.bind (Go.bind h))⟩
  have hq : Go F E ((fListRg [q.1]).at q.2) (Kv F ι σ ρ π H Q) := hq
  obtain ⟨d, π1⟩ := q
  cases d with
  | int n =>
    have hq : Go F E (Res.at (if n ≤ 100000 ∧ -100000 ≤ n then .ok (.lst (rangeD 0 n)) else .fail) π1) (Kv F ι σ ρ π H Q) := hq
    split at hq
    · rename_i hn
      have hq : Kv F ι σ ρ π H Q (.lst (rangeD 0 n), π1) := hq
      exact ⟨n, r1, ⟨by omega, by omega, by omega, by omega, by omega⟩, fun p hp => hq _ _ _ (A1.same (.new hp)) (e1.trans (.of_ev (.new hp))) (.lstN range_dr hp A1.mx)⟩
    · exact hq.elim
  | _ => exact hq.elim
end

/-! ### a, b = e with other targets than names -/
def gPair (h1 h2 : STg) : STg := fun d ρ π => match d with
  | .tup [a, b] => (h1 a ρ π).bind fun q => h2 b q.1 q.2
  | .ptup [a, b] => (h1 a ρ π).bind fun q => h2 b q.1 q.2
  | _ => .fail

section
variable {X : Cx} {F : Fx} {E : XK} {pos : Pos}
theorem xg_pair {js1 js2 : List Nat} {h1 h2 : STg} {t1 t2 : Expr} {k : Nat} (hK : F.G.K = X.K) (hc : X.calm = true) (g1 : PG X t1 (tTg F E js1 h1)) (g2 : PG X t2 (tTg F E js2 h2))
    (hs1 : (assignEach [t1, t2] X.env).map (·.2) = assign t1 X.env :: (assignEach [t2] X.env).map (·.2) := by rfl) (hs2 : (assignEach [t2] X.env).map (·.2) = assign t2 X.env :: (assignEach [] X.env).map (·.2) := by rfl)
    (hn : (assignEach [t1, t2] X.env).length = 2 := by rfl) (hst : (assignEach [t1, t2] X.env).findIdx? (·.1) = none := by rfl) : PG X (.Tuple [t1, t2] k pos) (tTg F E (js1 ++ js2) (gPair h1 h2)) :=
  (pg_tup hc (pgs_cons g1 (pgs_cons g2 pgs_nil hs2) hs1) hn hst).weak fun v σ H Q h => by
    obtain ⟨ι, ρ, π, d, A, r, h⟩ := h
    have go : ∀ a1 b1, (∃ a xs, v = .ref a ∧ SqT F.G.K H a xs ∧ DrL (F.G.at ι) (Mu F.M0 ι π) H [a1, b1] xs) → (Go F E ((h1 a1 ρ π).bind fun q => h2 b1 q.1 q.2) fun q => ∀ ι' σ' H', At F ι' σ' q.1 q.2 H' → Gr Nm ι π H ι' q.2 H' → (∀ m, m ∉ js1 ++ js2 → σ'[m]? = σ[m]?) → σ'.length = σ.length → Q σ' H') →
        gTup X.K 2 (gCons (tTg F E js1 h1) (gCons (tTg F E js2 h2) gNil)) v σ H Q := fun a1 b1 r h => by
      obtain ⟨a, xs, rfl, s, q⟩ := r
      obtain ⟨v1, w1, rfl, r1, q⟩ := q
      obtain ⟨v2, w2, rfl, r2, q⟩ := q
      obtain rfl : w2 = [] := q
      rw [← hK]
      refine ⟨a, _, rfl, s, rfl, v1, _, rfl, ι, ρ, π, a1, A, r1, Go.mono (fun q1 hq ι1 σ1 H1 A1 e1 s1 l1 => ⟨v2, _, rfl, ι1, q1.1, q1.2, b1, A1, Dr.gr e1 (fun _ z => z.elim) r2, Go.mono (fun q2 hq2 ι2 σ2 H2 A2 e2 s2 l2 => ⟨rfl, ?_⟩) hq⟩) (Go.bind h)⟩
      exact hq2 ι2 σ2 H2 A2 (e1.trans e2) (fun m hm => by rw [s2 m (fun z => hm (List.mem_append_right _ z)), s1 m (fun z => hm (List.mem_append_left _ z))]) (l2.trans l1)
    unfold gPair at h
    split at h
    · rename_i a1 b1
      obtain ⟨a, xs, ev, s, q⟩ := r
      exact go a1 b1 ⟨a, xs, ev, s.sq, q⟩ h
    · rename_i a1 b1
      exact go a1 b1 r h
    · exact h.elim
def dPow : D → D → Option D := oI (fun i j => decide (0 ≤ j) && decide (j ≤ 1000) && decide (i.natAbs < 2 ^ 64)) fun i j => .int (i ^ j.toNat)
theorem od_pow {G : Gx} : OpD G (rI CPow fun i j => .int (i ^ j.toNat)) dPow := od_I (fun i j h => by
  rw [Bool.and_eq_true, Bool.and_eq_true] at h
  have h1 := of_decide_eq_true h.1.1
  have h2 := of_decide_eq_true h.1.2
  exact ⟨h1, by omega, of_decide_eq_true h.2⟩) fun _ _ _ _ _ => rfl
end

/-! ### a def by its own computation -/
def gRun (f : SS) (np n : Nat) : List D → Store → Res (D × Store) := fun ds π => if ds.length = np then sRun f n ds π else .fail
theorem gRun_len {f : SS} {np n : Nat} (ds : List D) (π : Store) (h : gRun f np n ds π ≠ .fail) : ds.length = np := by
  unfold gRun at h
  split at h
  · assumption
  · exact absurd rfl h
theorem gRun_sem {f : SS} {np n : Nat} {ds : List D} {π : Store} (h : gRun f np n ds π ≠ .fail) : sRun f n ds π = gRun f np n ds π := by
  unfold gRun
  rw [if_pos (gRun_len ds π h)]
end Ph
end
section
set_option Elab.async false
set_option linter.all false
set_option maxRecDepth 100000
/-! Ph, part K: tables of the module, exceptions' __init__, sorted(list(dict(pairs))). -/
namespace Ph
open PySem PySem.Spec PyProof.Rows L2

/-! ### a dict of the module with texts as keys -/
structure Tab (K : PySem.W.Frag) (w : World) (mg : Str → Option Value) (x : Str) (f : Str → Option D) : Prop where
  ex : ∃ (a : Addr) (es : Array DictEntry) (n : Nat), mg x = some (.ref a) ∧ (a == sysModules) = false ∧ K.lookup a = some ⟨.type "dict", none, .dict es n, #[]⟩ ∧ PySem.W.KeysLit w.params es.toList ∧
    ∀ z, (∃ u v d, f z = some d ∧ PySem.W.nsIn K a z = some (some u) ∧ RelV v u ∧ ∀ (G : Gx) (M : Addr → Prop) (H : Hp), Dr G M H d v) ∨ (f z = none ∧ PySem.W.nsIn K a z = some none)
def rTab (f : Str → Option D) : R2 := fun x y H Q => ∃ z, x = .str z ∧ Q (.bl (f z).isSome) H
def dInTab (f : Str → Option D) : D → Option D
  | .str z => some (.bl (f z).isSome)
  | _ => none
def dIxTab (f : Str → Option D) : D → Option D
  | .str z => f z
  | _ => none
section
variable {X : Cx} {F : Fx} {E : XK} {e : Expr} {x : Str} {f : Str → Option D} {pos p : Pos} {fe : SE}
theorem x_inTab (T : Tab X.K X.w X.mg x f) (he : PE X e (tX F E fe)) (hg : Gl X x := by rfl) (hd : (x == ("__debug__" : Str)) = false := by decide) (hm : behindInMarks .In (.Name x p) = false := by rfl) : PE X (.Compare e [.In] [.Name x p] pos) (tX F E (eUn (dInTab f) fe)) := by
  obtain ⟨a, es, n, hmg, hs, hl, hk, hz⟩ := T.ex
  have hr : OpR X (compareOp .In) (fun y x H Q => x = .ref a ∧ ∃ z, y = .str z ∧ Q (.bl (f z).isSome) H) := by
    intro pins s σ H y x v u Q I ry rx h
    obtain ⟨rfl, z, rfl, q⟩ := h
    obtain rfl : u = Value.ref a := rx
    obtain ⟨t, rfl⟩ := ry
    refine wpAny_in_of (strKind_is X.prog X.w z t) hs (PySem.W.mapOf_K (prog := X.prog) (w := X.w) I.kIn hl hk) ?_
    have ef : (PySem.findBy Value.isStrOf es z).isSome = (f z).isSome := by
      rcases hz z with ⟨u, v, d, e1, e2, _⟩ | ⟨e1, e2⟩
      · rw [PySem.W.find_K hl e2, e1]; rfl
      · rw [PySem.W.find_K hl e2, e1]; rfl
    rw [ef]
    exact ⟨.bl (f z).isSome, H, I.tok _, rfl, q⟩
  refine (pe_cmpR hr he (pe_glob hg hmg (v := .ref a) rfl hd) hm).weak fun σ H Q h => ?_
  obtain ⟨ι, ρ, π, A, h⟩ := h
  refine ⟨ι, ρ, π, A, Go.mono (fun q hq v ι1 H1 A1 e1 r1 => ⟨rfl, ?_⟩) (Go.bind h)⟩
  obtain ⟨d, π1⟩ := q
  cases d with
  | str z =>
    have hq : Kv F ι σ ρ π H Q (.bl (f z).isSome, π1) := hq
    exact ⟨z, r1, hq _ ι1 H1 A1 e1 rfl⟩
  | _ => exact hq.elim
theorem x_ixTab (T : Tab X.K X.w X.mg x f) (he : PE X e (tX F E fe)) (hg : Gl X x := by rfl) (hd : (x == ("__debug__" : Str)) = false := by decide) (hs : PlainIx e := by intro _ _; rfl) : PE X (.Subscript (.Name x p) e pos) (tX F E (eUn (dIxTab f) fe)) := by
  obtain ⟨a, es, n, hmg, hsm, hl, hk, hz⟩ := T.ex
  refine (pe_ix ix_kdict (pe_glob hg hmg (v := .ref a) rfl hd) he hs).weak fun σ H Q h => ?_
  obtain ⟨ι, ρ, π, A, h⟩ := h
  refine ⟨ι, ρ, π, A, Go.mono (fun q hq v ι1 H1 A1 e1 r1 => ?_) (Go.bind h)⟩
  obtain ⟨d, π1⟩ := q
  cases d with
  | str z =>
    have hq := Go.bind hq
    rcases hz z with ⟨u, v', d, e2, e3, rv, q⟩ | ⟨e2, _⟩
    · have hq : Go F E (Res.of (f z)) _ := hq
      rw [e2] at hq
      have hq : Kv F ι σ ρ π H Q (d, π1) := hq
      exact ⟨a, z, v', rfl, r1, ⟨es, n, u, hl, hk, e3, rv⟩, hq _ ι1 H1 A1 e1 (q _ _ _)⟩
    · have hq : Go F E (Res.of (f z)) _ := hq
      rw [e2] at hq
      exact hq.elim
  | _ => exact hq.elim
end

/-! ### def __init__(self, f): self.f = f, of an own exception -/
theorem exc_init {P : Program} {w : World} {K : PySem.W.Frag} {mg : Str → Option Value} {base : Heap} {qual : Str} {st : Stmt} {N ps : List Str} {g : Str} {p1 p2 p3 p4 : Pos} {f : Addr} {fd : FuncData} (F : Fun K "__init__" qual st f fd) (S : FnScope N ps (defScope st))
    (hl : ps.length = 2) (h0 : N[0]? = some ("self" : Str)) (h1 : N[1]? = some g) (v0 : Vis (defScope st) "self") (v1 : Vis (defScope st) g) (hd : (g == ("__debug__" : Str)) = false) (hc : (g == ("__classdict__" : Str)) = false)
    (hb : defBody st = [.Assign [.Attribute (.Name "self" p1) g p2] (.Name g p3) p4])
    (hs : ∀ env : PySem.Env, swapsWith (.Name g p3) (some (.Attribute (.Name "self" p1) g p2)) p4.line env = pure false) : FnOk P w K mg base (L2.CX P w) 1 f fd ps (spXI K g) := by
  refine F.okX S (fun vs H Q E h => ?_) (fun cdv A outer s H vs Q E hr h => ⟨_, by rw [hb]; exact pss_one (ps_ost (pe_var (i := 0) h0 v0) (pe_var (i := 1) h1 v1 hd hc) (hs _)), ?_⟩)
  · obtain ⟨a, C, v, rfl, _⟩ := h
    rw [hl]; rfl
  · obtain ⟨a, C, v, rfl, T, no, ea, q⟩ := h
    exact ⟨v, by rfl, .ref a, by rfl, a, C, rfl, T, no, .inl ⟨ea, fun dx h1 h2 => q dx h1 h2⟩⟩
/-! ### sorted(list(dict(pairs))), the keys ints -/
def keysOf : List D → Option (List Int)
  | [] => some []
  | .tup [.int k, _] :: r => (keysOf r).map (k :: ·)
  | _ :: _ => none
/-- each once, at its first place -/
def putI (acc : List Int) (k : Int) : List Int := if acc.contains k = true then acc else acc ++ [k]
def dedupI (ns : List Int) : List Int := ns.foldl putI []
def fSdk : List D → Res D
  | [.lst l] => (Res.of (keysOf l)).bind fun ns => if (dedupI ns).length < 64 then .ok (.lst ((sortI (dedupI ns)).map D.int)) else .fail
  | _ => .fail
theorem keysOf_v {G : Gx} {M : Addr → Prop} {H : Hp} : ∀ {l : List D} {ns : List Int} {xs : List V}, keysOf l = some ns → DrL G M H l xs →
    ∃ (ps : List Addr) (kvs : List (Key × V)), xs = ps.map V.ref ∧ Paired (fun p kv => SqT G.K H p [kV kv.1, kv.2]) ps kvs ∧ kvs.map (·.1) = ns.map Sum.inl
  | [], ns, xs, e, r => by
    cases e
    rw [show xs = [] from r]
    exact ⟨[], [], rfl, .nil, rfl⟩
  | d :: l, ns, xs, e, r => by
    obtain ⟨v, ws, rfl, q, t⟩ := r
    unfold keysOf at e
    split at e
    · rename_i eq; cases eq
    · rename_i k y r' eq
      cases eq
      cases e1 : keysOf l with
      | none => rw [e1] at e; cases e
      | some ms =>
        rw [e1] at e
        cases e
        obtain ⟨ps, kvs, e2, hp, e3⟩ := keysOf_v e1 t
        obtain ⟨a, us, rfl, s, qu⟩ := q
        obtain ⟨v1, w1, rfl, r1, qu⟩ := qu
        obtain ⟨v2, w2, rfl, r2, qu⟩ := qu
        obtain rfl : w2 = [] := qu
        obtain rfl : v1 = .int k := r1
        subst e2
        exact ⟨a :: ps, (.inl k, v2) :: kvs, rfl, .cons s.sq hp, by simp [e3]⟩
    · cases e
theorem putK_keys {kvs : List (Key × V)} {ns : List Int} {k : Int} {v : V} (h : kvs.map (·.1) = ns.map Sum.inl) : (putK kvs (.inl k) v).map (·.1) = (putI ns k).map Sum.inl := by
  have ha : (kvs.any fun kv => decide (kv.1 = Sum.inl k)) = ns.contains k := by
    have e1 : (kvs.any fun kv => decide (kv.1 = Sum.inl k)) = (kvs.map (·.1)).any fun x => decide (x = Sum.inl k) := by rw [List.any_map]; rfl
    rw [e1, h, List.any_map, List.contains_eq_any_beq]
    congr 1
    funext x
    by_cases h : k = x
    · subst h; simp
    · have : ¬ x = k := fun z => h z.symm
      simp [h, this]
  unfold putK putI
  rw [ha]
  by_cases c : ns.contains k = true
  · rw [if_pos c, if_pos c, ← h, List.map_map]
    refine List.map_congr_left fun kv _ => ?_
    dsimp only [Function.comp]
    split <;> rfl
  · rw [if_neg c, if_neg c, List.map_append, List.map_append, h]
    rfl
theorem mergeK_keys : ∀ {more : List (Key × V)} {ms : List Int} {kvs : List (Key × V)} {ns : List Int}, more.map (·.1) = ms.map Sum.inl → kvs.map (·.1) = ns.map Sum.inl → (mergeK kvs more).map (·.1) = (ms.foldl putI ns).map Sum.inl
  | [], [], kvs, ns, _, h => h
  | [], _ :: _, _, _, h, _ => by simp at h
  | _ :: _, [], _, _, h, _ => by simp at h
  | (k, v) :: more, m :: ms, kvs, ns, h, q => by
    rw [List.map_cons, List.map_cons, List.cons.injEq] at h
    obtain ⟨h1, h2⟩ := h
    have h1 : k = Sum.inl m := h1
    subst h1
    exact mergeK_keys (more := more) (ms := ms) h2 (putK_keys q)
section
variable {X : Cx} {F : Fx} {E : XK} {e : Expr} {fe : SE} {p1 p2 p3 q1 q2 q3 : Pos}
theorem x_sdk (hs : X.mg "sorted" = none) (hl : X.mg "list" = none) (hd : X.mg "dict" = none) (he : PE X e (tX F E fe)) (hK : F.G.K = X.K := by rfl) (hc : X.calm = true := by rfl) (g1 : Gl X "sorted" := by rfl) (g2 : Gl X "list" := by rfl) (g3 : Gl X "dict" := by rfl)
    (s3 : starEach [e] X.env = (false, eval e X.env) :: starEach [] X.env := by rfl)
    (s2 : starEach [.Call (.Name "dict" p3) [e] [] q3] X.env = (false, eval (.Call (.Name "dict" p3) [e] [] q3) X.env) :: starEach [] X.env := by rfl)
    (s1 : starEach [.Call (.Name "list" p2) [.Call (.Name "dict" p3) [e] [] q3] [] q2] X.env = (false, eval (.Call (.Name "list" p2) [.Call (.Name "dict" p3) [e] [] q3] [] q2) X.env) :: starEach [] X.env := by rfl)
    (l1 : (backTo q1 (starEach [] X.env)).any (·.1) = false := by rfl) (l2 : (backTo q2 (starEach [] X.env)).any (·.1) = false := by rfl) (l3 : (backTo q3 (starEach [] X.env)).any (·.1) = false := by rfl) :
    PE X (.Call (.Name "sorted" p1) [.Call (.Name "list" p2) [.Call (.Name "dict" p3) [e] [] q3] [] q2] [] q1) (tX F E (eFn fSdk (aCons fe aNil))) :=
  (pe_callB cr_sorted g1 hs (by decide +kernel) (pa_cons (pe_callTy (call_list_dK hc) g2 hl (by decide +kernel) (pa_cons (pe_callTy (call_dictP hc) g3 hd (by decide +kernel) (pa_cons he pa_nil s3) (by decide) (by decide) s3 l3) pa_nil s2) (by decide) (by decide) s2 l2) pa_nil s1) (by decide) (by decide) s1 l1).weak fun σ H Q h => by
    obtain ⟨ι, ρ, π, A, h⟩ := h
    refine ⟨ι, ρ, π, A, Go.mono (fun q hq v ι1 H1 A1 e1 r1 => ?_) (Go.bind (Go.bind h))⟩
    have hq : Go F E ((fSdk [q.1]).at q.2) (Kv F ι σ ρ π H Q) := hq
    obtain ⟨d, π1⟩ := q
    cases d with
    | lst l =>
      cases ek : keysOf l with
      | none =>
        have hq : Go F E (Res.at ((Res.of (keysOf l)).bind fun ns => if (dedupI ns).length < 64 then .ok (.lst ((sortI (dedupI ns)).map D.int)) else .fail) π1) (Kv F ι σ ρ π H Q) := hq
        rw [ek] at hq
        exact hq.elim
      | some ns =>
        have hq : Go F E (Res.at ((Res.of (keysOf l)).bind fun ns => if (dedupI ns).length < 64 then .ok (.lst ((sortI (dedupI ns)).map D.int)) else .fail) π1) (Kv F ι σ ρ π H Q) := hq
        rw [ek] at hq
        simp only [Res.of_some, Res.bind_ok] at hq
        by_cases h64 : (dedupI ns).length < 64
        · rw [if_pos h64] at hq
          have hq : Kv F ι σ ρ π H Q (.lst ((sortI (dedupI ns)).map D.int), π1) := hq
          obtain ⟨a, xs, rfl, _, s, rx⟩ := r1
          obtain ⟨ps, kvs, rfl, hp, hk⟩ := keysOf_v ek rx
          have hm : (mergeK [] kvs).map (·.1) = (dedupI ns).map Sum.inl := mergeK_keys hk rfl
          refine ⟨a, ps, kvs, rfl, SqL.of s, by rw [← hK]; exact hp, fun p hp => ⟨p, _, rfl, upd_same, fun p2 hp2 => ⟨p2, dedupI ns, rfl, SqL.of ?_, h64, fun ns' p3 pm rs hp3 => ?_⟩⟩⟩
          · rw [upd_same]
            have e3 : ((mergeK [] kvs).map fun kv => kV kv.1) = ((mergeK [] kvs).map (·.1)).map kV := by rw [List.map_map]; rfl
            rw [e3, hm, List.map_map]
            rfl
          · rw [sortI_uniq pm rs]
            have ev : Ev Nm H1 (upd (upd (upd H1 p (.dK (mergeK [] kvs))) p2 (.lst ((mergeK [] kvs).map fun kv => kV kv.1))) p3 (.lst ((sortI (dedupI ns)).map V.int))) := ((Ev.new hp).trans (.new hp2)).trans (.new hp3)
            refine hq _ ι1 _ (A1.same ev) (e1.trans (.of_ev ev)) ⟨p3, _, rfl, fun z => ?_, upd_same, ints_d _⟩
            have h0 : H1 p3 = none := ((Ev.new (M := Nm) hp).trans (.new hp2)).fresh hp3
            exact A1.mx p3 z h0
        · rw [if_neg h64] at hq
          exact hq.elim
    | _ => exact hq.elim
end
end Ph
end
section
set_option Elab.async false
set_option linter.all false
set_option maxRecDepth 100000
/-! Ph, part L: dicts whose values are all True: {x: True}, in, update by a comprehension, sorted. -/
namespace Ph
open PySem PySem.Spec PySem.W PyProof.Rows L2

/-! ### sorted(d) of a dict (the library has sorted of a list) -/
section
variable {prog : Program} {w : World} {A : Around} {E : Value → Shared → Prop} {s : Shared} {a d : Addr} {T : String} {n : Nat} {P : Nat → Value → Prop} {OK : Heap → Prop}
theorem collect_src {Q : List Value → Shared → Prop} (K : KdlSrc prog w T a d n P OK) (hh : A.handled = none) (hok : OK s.heap) (hn : n ≤ sizeLine)
    (hQ : ∀ (h' : Heap) (tk : Nat) (acc : Array Value), (∀ b o, s.heap.get? b = some o → h'.get? b = some o) → s.heap.objs.size < h'.objs.size → ItemsOf P acc n → Q acc.toList { s with heap := h', toks := tk }) :
    wpAny (model prog w) A (collect (.ref a)) Q E s := by
  unfold collect
  refine wpAny_bind (wpAny_runValue (codeAny_builtin F.entry_proto_collect ?_))
  rw [Around.under_plainId F.plain_proto_collect _]
  show wpAny _ A.in1 (newList [] >>= fun l => again (.builtin "list.__iadd__" ⟨[l, .ref a], []⟩)) _ _ s
  refine wpAny_bind (wpAny_newObj_type ?_)
  refine wpAny_pure ⟨plainId_quiet F.plain_list_iadd _, codeAny_builtin F.entry_list_iadd ?_⟩
  rw [Around.under_plainId F.plain_list_iadd _]
  show wpAny _ A.in1 (Builtin.List.listExtendWith (.ref s.heap.objs.size) (.ref a) (.ref s.heap.objs.size)) _ _ _
  have hS : (s.heap.push { cls := .type "list", data := .seq ([] : List Value).toArray }).get? s.heap.objs.size = some { cls := .type "list", data := .seq #[] 0 } := Heap.get?_push_size _ rfl
  have hlt := K.there _ hok
  have hok1 : OK (s.heap.push { cls := .type "list", data := .seq ([] : List Value).toArray }) := K.keep _ _ hok fun b _ o e => Heap.get?_push_of_some _ e
  refine wpAny_mono (kdl_extend (A := A) (R := fun rr s' => rr = .ok (.ret (.ref s.heap.objs.size)) ∧ ∃ (h' : Heap) (tk : Nat) (acc : Array Value) (c' : Nat), s' = { s with heap := h', toks := tk } ∧
      (∀ b o, s.heap.get? b = some o → h'.get? b = some o) ∧ h'.get? s.heap.objs.size = some { cls := .type "list", dict := none, data := .seq acc c', slots := #[] } ∧ ItemsOf P acc n)
    (s := { s with heap := s.heap.push { cls := .type "list", data := .seq ([] : List Value).toArray } }) K hh hok1 s.heap.objs.size (Nat.ne_of_gt hlt.1) (Nat.ne_of_gt hlt.2) _ 0 hS
    (fun h' tk acc c' hk e hi => ⟨rfl, h', tk, acc, c', rfl, fun b o q => hk b o (Nat.ne_of_lt (Heap.lt_size q)) (Heap.get?_push_of_some _ q), e, hi⟩) hn) (fun fin s' h => ?_) (fun e s' h => ?_)
  · cases fin with
    | done f =>
      obtain ⟨e, h', tk, acc, c', rfl, hk, hS', hi⟩ := h
      cases e
      show wpAny _ A (load s.heap.objs.size >>= _) _ _ _
      exact wpAny_bind (wpAny_load hS' (wpAny_pure (hQ h' tk acc hk (Heap.lt_size hS') hi)))
    | again c' =>
      refine ⟨h.1, codeAny_mono h.2 fun rr s'' hr' => ?_⟩
      obtain ⟨rfl, h', tk, acc, c', rfl, hk, hS', hi⟩ := hr'
      show wpAny _ A (load s.heap.objs.size >>= _) _ _ _
      exact wpAny_bind (wpAny_load hS' (wpAny_pure (hQ h' tk acc hk (Heap.lt_size hS') hi)))
  · exact absurd h.1 (by simp)
end
section
variable {X : Cx}
/-- the keys, ints -/
def keysI : List Key → Option (List Int)
  | [] => some []
  | .inl k :: r => (keysI r).map (k :: ·)
  | .inr _ :: _ => none
theorem keysI_map : ∀ {ks : List Key} {ns : List Int}, keysI ks = some ns → ks = ns.map Sum.inl
  | [], ns, e => by cases e; rfl
  | .inl k :: r, ns, e => by
    unfold keysI at e
    cases e1 : keysI r with
    | none => rw [e1] at e; cases e
    | some ms =>
      rw [e1] at e
      cases e
      rw [keysI_map e1]
      rfl
  | .inr _ :: _, _, e => by cases e
abbrev tr (k : Key) : Key × V := (k, V.bl true)
def rSortedD : List V → Hp → VK → Prop := fun xs H Q => ∃ (a : Addr) (ns : List Int), xs = [.ref a] ∧ H a = some (.dK ((ns.map Sum.inl).map tr)) ∧ ns.length < 64 ∧
  ∀ (ns' : List Int) (p : Addr), ns'.Perm ns → ns'.Pairwise (· ≤ ·) → H p = none → Q (.ref p) (upd H p (.lst (ns'.map V.int)))
theorem cr_sortedD (hc : X.calm = true) : CallR X (.builtin "sorted") rSortedD := by
  intro pins s σ H xs us Q I r h
  obtain ⟨a, ns, rfl, hk, h64, q⟩ := h
  rw [Vals.ref1 r]
  obtain ⟨z, lo, vs, rk, hd⟩ := (show ObjOk X.prog X.w H s.heap a (.dK ((ns.map Sum.inl).map tr)) from I.hok a _ hk)
  obtain ⟨ep, hat⟩ := hd.dictAt
  have hl : ((ns.map Sum.inl).map tr).length = vs.length := Paired.length rk
  have hl' : vs.length = ns.length := by rw [← hl]; simp
  refine Calls.call_function_entry kind_sorted plain_sorted entry_sorted (args_sorted1 _) ?_
  unfold Builtin.«sorted»
  refine wpAny_bind (m := checkCount "sorted" 1 1 _) (wpAny_pure ?_)
  refine wpAny_bind (collect_src (kdl_dict (knd := mixKind X.prog X.w) (kvs := vs) (ep := ep) lo) (I.ok.hd hc) hat (by rw [← hl]; exact z) fun h' tk acc hkeep hge0 hacc => ?_)
  have hal : acc.toList.length = ns.length := by rw [Array.length_toList, hacc.1, hl']
  have hI : IntsAre acc.toList ns := by
    have rel : Vals (ns.map V.int) acc.toList := by
      refine vals_of_at (by rw [List.length_map, hal]) fun j x u h1 h2 => ?_
      obtain ⟨k, y, hky, hi⟩ := hacc.2 j u (by rw [← Array.getElem?_toList]; exact h2)
      have e1 : (((ns.map Sum.inl).map tr).map (·.1))[j]? = some k := by
        rw [KV.keys rk, List.getElem?_map, hky] <;> rfl
      have e2 : (((ns.map Sum.inl).map tr).map (·.1)) = ns.map Sum.inl := by simp [Function.comp_def]
      rw [e2, List.getElem?_map] at e1
      rw [List.getElem?_map] at h1
      cases e3 : ns[j]? with
      | none => rw [e3] at h1; cases h1
      | some m =>
        rw [e3] at h1 e1
        cases h1
        cases e1
        exact keyIs_rel (k := .inl m) hi
    exact rel.ints
  refine wpAny_bind (wpAny_newList ?_ (by rw [hal]; exact small64 h64))
  have hoL : (h'.push (seqObj "list" acc.toList.toArray 0)).get? h'.objs.size = some (seqObj "list" acc.toList.toArray 0) := Heap.get?_push_size _ rfl
  refine wpAny_bind (wpAny_holding (wpAny_call_entry slot_list_sort ⟨_, hoL, rfl⟩ entry_list_sort (list_sort_tree hoL hI (by rw [hal]; exact h64) fun out ns' a1 a2 a3 => ⟨_, rfl, ?_⟩) (args_list_sort _)))
  obtain ⟨c, hcc⟩ := sortedHeap_at (vs := acc.toList) (out := out) hoL
  have hge : s.heap.objs.size ≤ h'.objs.size := Nat.le_of_lt hge0
  refine wpAny_pure ⟨_, rfl, .ref h'.objs.size, upd H h'.objs.size (.lst (ns'.map V.int)), I.laid (t' := tk) (fun b u e => ?_) hge ⟨by rw [List.length_map, a2.length_eq]; exact small64 h64, out.toList, c, vals_of_ints a1, by simpa using hcc⟩, rfl, q ns' _ a2 a3 (I.hok.fresh hge)⟩
  have q := hkeep b u e
  have hlt := Heap.lt_size q
  show (sortedHeap (h'.push (seqObj "list" acc.toList.toArray 0)) h'.objs.size acc.toList out).get? b = some u
  rw [sortedHeap_old (Nat.ne_of_lt hlt) (by rw [size_push']; exact Nat.lt_succ_of_lt hlt)]
  exact Heap.get?_push_of_some _ q

/-! ### d.update(e) -/
def rUpd : V → List V → Hp → VK → Prop := fun x vs H Q => ∃ (a b : Addr) (ks ls : List (Key × V)), x = .ref a ∧ vs = [.ref b] ∧ a ≠ b ∧ H a = some (.dK ks) ∧ H b = some (.dK ls) ∧ ks.length + ls.length ≤ sizeLine ∧ Q .non (upd H a (.dK (mergeK ks ls)))
theorem mergeK_length : ∀ (ks ls : List (Key × V)), (mergeK ks ls).length ≤ ks.length + ls.length
  | ks, [] => Nat.le_refl _
  | ks, kv :: ls => by
    have h := mergeK_length (putK ks kv.1 kv.2) ls
    have h2 := length_putK ks kv.1 kv.2
    show (mergeK (putK ks kv.1 kv.2) ls).length ≤ _
    rw [List.length_cons]
    omega
theorem mt_update : MtR X "dict.update" rUpd := by
  intro pins s σ H x vs v us Q I rx rv h
  obtain ⟨a, b, ks, ls, rfl, rfl, hne, ha, hb, hz, q⟩ := h
  cases rx
  rw [Vals.ref1 rv]
  obtain ⟨za, la, va, ra, da⟩ := dk_of I.hok ha
  obtain ⟨zb, lb, vb, rb, db⟩ := dk_of I.hok hb
  have hl : va.length + vb.length ≤ sizeLine := by rw [← ra.length, ← rb.length]; exact hz
  have hm : (mergeK ks ls).length ≤ sizeLine := Nat.le_trans (mergeK_length ks ls) hz
  exact call_meetsIn PySem.F.slot_dict_update da.typeIs PySem.F.entry_dict_update (PySem.F.args_dict_update_2 _ _) (meets_dict_update (mixKind X.prog X.w) a b hne lb)
    ⟨va, vb, da, db, hl, fun h' da' db' hs => ⟨.non, _, d_write (t' := s.toks) I (by rw [ha]; exact True.intro) hs (let ⟨q, _, _, hq, _⟩ := da'; ⟨q, hq⟩) (dk_new hm la (KV.merge rb ra) da'), rfl, q⟩⟩
end

/-! ### cells of dicts whose values are all True -/
def keyD : D → Option Key
  | .int i => some (.inl i)
  | .str z => some (.inr z)
  | _ => none
def keysD : List D → Option (List Key)
  | [] => some []
  | d :: r => (keyD d).bind fun k => (keysD r).map (k :: ·)
def hasKey (ks : List Key) (k : Key) : Bool := ks.any fun x => decide (x = k)
def putKs (ks : List Key) (k : Key) : List Key := if hasKey ks k = true then ks else ks ++ [k]
def mergeKs (ks ls : List Key) : List Key := ls.foldl putKs ks
theorem keyD_v {G : Gx} {M : Addr → Prop} {H : Hp} {d : D} {k : Key} {v : V} (h : keyD d = some k) (r : Dr G M H d v) : v = kV k := by
  cases d with
  | int i => cases h; exact r
  | str z => cases h; exact r
  | _ => cases h
theorem any_tr (ks : List Key) (k : Key) : ((ks.map tr).any fun kv => decide (kv.1 = k)) = hasKey ks k := by
  rw [List.any_map]
  rfl
theorem putK_tr (ks : List Key) (k : Key) : putK (ks.map tr) k (.bl true) = (putKs ks k).map tr := by
  unfold putK putKs
  rw [any_tr]
  by_cases c : hasKey ks k = true
  · rw [if_pos c, if_pos c]
    rw [List.map_map]
    refine List.map_congr_left fun x _ => ?_
    show (if x = k then (x, V.bl true) else (x, V.bl true)) = (x, V.bl true)
    split <;> rfl
  · rw [if_neg c, if_neg c, List.map_append]
    rfl
theorem mergeK_tr : ∀ (ls ks : List Key), mergeK (ks.map tr) (ls.map tr) = (mergeKs ks ls).map tr
  | [], _ => rfl
  | k :: ls, ks => by
    show mergeK (putK (ks.map tr) k (.bl true)) (ls.map tr) = _
    rw [putK_tr]
    exact mergeK_tr ls (putKs ks k)
theorem valV_tr : ∀ (ks : List Key) (k : Key), (valV (ks.map tr) k).isSome = hasKey ks k
  | [], _ => rfl
  | x :: ks, k => by
    by_cases h : x = k
    · rw [List.map_cons, valV_pos (p := tr x) h]
      simp [hasKey, h]
    · rw [List.map_cons, valV_neg (p := tr x) h, valV_tr ks k]
      simp [hasKey, h]
/-- the number of a dict's cell; what it holds -/
def dctC (π : Store) (d : D) : Res Nat := match d with
  | .ptr n => match π[n]? with
    | some (.dct _) => .ok n
    | _ => .fail
  | _ => .fail
def getD_ (π : Store) (n : Nat) : Res (List Key) := match π[n]? with
  | some (.dct l) => .ok l
  | _ => .fail
theorem getD_cases (π : Store) (n : Nat) : (∃ l, π[n]? = some (.dct l) ∧ getD_ π n = .ok l) ∨ getD_ π n = .fail := by
  unfold getD_
  cases e : π[n]? with
  | none => exact .inr rfl
  | some c =>
    cases c with
    | dct l => exact .inl ⟨l, rfl, rfl⟩
    | _ => exact .inr rfl
theorem dctC_cases (π : Store) (d : D) : (∃ n l, d = .ptr n ∧ π[n]? = some (.dct l) ∧ dctC π d = .ok n) ∨ dctC π d = .fail := by
  unfold dctC
  cases d with
  | ptr n =>
    dsimp only
    cases e : π[n]? with
    | none => exact .inr rfl
    | some c =>
      cases c with
      | dct l => exact .inl ⟨n, l, rfl, e, rfl⟩
      | _ => exact .inr rfl
  | _ => exact .inr rfl
/-- {x: True}, x the i-th name -/
def eDisp1 (i : Nat) : SE := fun ρ π => (gt ρ i).bind fun d => (Res.of (keyD d)).bind fun k => .ok (.ptr π.length, π ++ [.dct [k]])
/-- a in b, a not in b -/
def tDin (neg : Bool) (a b : SE) : ST := fun ρ π => (a ρ π).bind fun x => (b ρ x.2).bind fun y => (dctC y.2 y.1).bind fun n => (getD_ y.2 n).bind fun ks => (Res.of (keyD x.1)).bind fun k => .ok (if neg then !hasKey ks k else hasKey ks k, y.2)
def eSortD (e : SE) : SE := fun ρ π => (e ρ π).bind fun p => (dctC p.2 p.1).bind fun n => (getD_ p.2 n).bind fun ks => (Res.of (keysI ks)).bind fun ns => if ns.length < 64 then .ok (.lst ((sortI ns).map D.int), p.2) else .fail
/-- o.update({x: True for x in items}) -/
def eUpdDc (k : Nat) (o : SE) (items : SA) : SE := fun ρ π => if k < ρ.length then (o ρ π).bind fun p => (dctC p.2 p.1).bind fun n => (items ρ p.2).bind fun q => (Res.of (keysD q.1)).bind fun ls => (getD_ q.2 n).bind fun ks => if ks.length + ls.length ≤ 100000 then .ok (.non, q.2.set n (.dct (mergeKs ks ls))) else .fail
  else .fail
section
variable {X : Cx} {F : Fx} {E : XK} {a b e o iter : Expr} {pos p p1 p2 p3 apos cpos : Pos} {fa fb fe fo : SE} {items : SA} {x y : Str} {i j : Nat} {kk : Nat}
theorem x_disp1 (i : Nat) (hN : X.N[i]? = some x := by rfl) (hv : Vis X.env.scope x := by first | exact Or.inl rfl | exact Or.inr (Or.inl rfl) | exact Or.inr (Or.inr rfl)) (hd : (x == ("__debug__" : Str)) = false := by decide) (hcd : (x == ("__classdict__" : Str)) = false := by decide) :
    PE X (.Dict [some (.Name x p1)] [.Constant (.bool true) j p2] pos) (tX F E (eDisp1 i)) :=
  (pe_disp (pps_cons (pv i hN hv hd hcd) pe_bl pps_nil) rfl rfl (by simp) (by simp)).weak fun σ H Q h => by
    obtain ⟨ι, ρ, π, A, h⟩ := h
    intro a ha
    have h := Go.bind h
    cases e : gt ρ i with
    | fail => rw [e] at h; exact h.elim
    | xc c d => exact absurd e gt_xc
    | ok d =>
      rw [e] at h
      have h : Go F E ((Res.of (keyD d)).bind fun k => Res.ok (D.ptr π.length, π ++ [.dct [k]])) _ := h
      cases ek : keyD d with
      | none => rw [ek] at h; exact h.elim
      | some k =>
        rw [ek] at h
        have h : Kv F ι σ ρ π H Q (D.ptr π.length, π ++ [.dct [k]]) := h
        obtain ⟨v, e1, r⟩ := A.val i d (gt_some e)
        refine ⟨v, e1, upd_same, [(k, .bl true)], ?_, (by show 1 ≤ 15; decide), ?_⟩
        · rw [keyD_v ek r]; rfl
        · rw [upd_upd]
          exact h _ _ _ (A.add (c := .dct [k]) ha (.new ha) (by rw [upd_same]; exact fun z => nomatch z) upd_same) (.add A.wo.wd ha (.new ha)) (ptr_new A.wo.wd.il)
theorem din_weak {neg : Bool} {σ : L2.St} {H : Hp} {Q : Bool → Hp → Prop} (h : tXT F E (tDin neg fa fb) σ H Q) : tX F E fa σ H fun y H1 => tX F E fb σ H1 fun x H2 => ∃ a o, x = .ref a ∧ DGet H2 a y o ∧ Q (if neg then !o.isSome else o.isSome) H2 := by
  obtain ⟨ι, ρ, π, A, h⟩ := h
  refine ⟨ι, ρ, π, A, Go.mono (fun p hp x ι1 H1 A1 e1 r1 => ⟨ι1, ρ, p.2, A1, Go.mono (fun q hq y ι2 H2 A2 e2 r2 => ?_) (Go.bind hp)⟩) (Go.bind h)⟩
  have hq := Go.bind hq
  have r1' := Dr.gr e2 (fun _ z => z.elim) r1
  rcases dctC_cases q.2 q.1 with ⟨n, l0, e0, ec0, en⟩ | en
  · rw [en] at hq
    have hq := Go.bind (show Go F E ((getD_ q.2 n).bind fun ks => (Res.of (keyD p.1)).bind fun k => Res.ok (if neg then !hasKey ks k else hasKey ks k, q.2)) _ from hq)
    rw [e0] at r2
    obtain ⟨a, rfl, hn, _⟩ := A2.wo.cell r2 ec0
    rcases getD_cases q.2 n with ⟨ks, ec, eg⟩ | eg
    · rw [eg] at hq
      have hq := Go.bind (show Go F E ((Res.of (keyD p.1)).bind fun k => Res.ok (if neg then !hasKey ks k else hasKey ks k, q.2)) _ from hq)
      cases ek : keyD p.1 with
      | none => rw [ek] at hq; exact hq.elim
      | some k =>
        rw [ek] at hq
        have hq : ∀ ι' H', At F ι' σ ρ q.2 H' → Gr Nm ι π H ι' q.2 H' → Q (if neg then !hasKey ks k else hasKey ks k) H' := hq
        have s := cell_of A2 hn ec
        refine ⟨a, _, rfl, by rw [keyD_v ek r1']; exact DGet.k s, ?_⟩
        have e3 : (valV (ks.map fun k => (k, V.bl true)) k).isSome = hasKey ks k := valV_tr ks k
        rw [e3]
        exact hq _ _ A2 (e1.trans e2)
    · rw [eg] at hq; exact hq.elim
  · rw [en] at hq; exact hq.elim
theorem xt_din (hu : X.A.units + 1 < cLine) (ha : PE X a (tX F E fa)) (hb : PE X b (tX F E fb)) (hm : behindInMarks .In b = false) : PT X (.Compare a [.In] [b] pos) (tXT F E (tDin false fa fb)) :=
  (pt_cmp (pc_din hu ha hb) hm).weak fun σ H Q h => by
    have q := din_weak h
    obtain ⟨ι, ρ, π, A, q⟩ := q
    refine ⟨ι, ρ, π, A, Go.mono (fun p hp v ι1 H1 A1 e1 r1 => ?_) q⟩
    obtain ⟨ι2, ρ2, π2, A2, q2⟩ := hp v ι1 H1 A1 e1 r1
    refine ⟨ι2, ρ2, π2, A2, Go.mono (fun p2 hp2 v2 ι3 H3 A3 e3 r3 => ?_) q2⟩
    obtain ⟨a, o, ex, g, q3⟩ := hp2 v2 ι3 H3 A3 e3 r3
    exact ⟨a, o, ex, g, _, rfl, q3⟩
theorem xt_dnot (hu : X.A.units + 1 < cLine) (ha : PE X a (tX F E fa)) (hb : PE X b (tX F E fb)) (hm : behindInMarks .NotIn b = false) : PT X (.Compare a [.NotIn] [b] pos) (tXT F E (tDin true fa fb)) :=
  (pt_cmp (pc_dnotin hu ha hb) hm).weak fun σ H Q h => by
    have q := din_weak h
    obtain ⟨ι, ρ, π, A, q⟩ := q
    refine ⟨ι, ρ, π, A, Go.mono (fun p hp v ι1 H1 A1 e1 r1 => ?_) q⟩
    obtain ⟨ι2, ρ2, π2, A2, q2⟩ := hp v ι1 H1 A1 e1 r1
    refine ⟨ι2, ρ2, π2, A2, Go.mono (fun p2 hp2 v2 ι3 H3 A3 e3 r3 => ?_) q2⟩
    obtain ⟨a, o, ex, g, q3⟩ := hp2 v2 ι3 H3 A3 e3 r3
    exact ⟨a, o, ex, g, _, rfl, q3⟩
theorem x_sortD (hm : X.mg "sorted" = none) (he : PE X e (tX F E fe)) (hc : X.calm = true := by rfl) (hg : Gl X "sorted" := by rfl) (hs : starEach [e] X.env = (false, eval e X.env) :: starEach [] X.env := by rfl) (hpl : (backTo pos (starEach [] X.env)).any (·.1) = false := by rfl) :
    PE X (.Call (.Name "sorted" p) [e] [] pos) (tX F E (eSortD fe)) := (pe_callB (cr_sortedD hc) hg hm (by decide +kernel) (pa_cons he pa_nil hs) (by decide) (by decide) hs hpl).weak fun σ H Q h => by
  obtain ⟨ι, ρ, π, A, h⟩ := h
  refine ⟨ι, ρ, π, A, Go.mono (fun q hq v ι1 H1 A1 e1 r1 => ?_) (Go.bind h)⟩
  have hq := Go.bind hq
  rcases dctC_cases q.2 q.1 with ⟨n, l0, e0, ec0, en⟩ | en
  · rw [en] at hq
    have hq := Go.bind (show Go F E ((getD_ q.2 n).bind fun ks => (Res.of (keysI ks)).bind fun ns => if ns.length < 64 then Res.ok (D.lst ((sortI ns).map D.int), q.2) else .fail) _ from hq)
    rw [e0] at r1
    obtain ⟨a, rfl, hn, _⟩ := A1.wo.cell r1 ec0
    rcases getD_cases q.2 n with ⟨ks, ec, eg⟩ | eg
    · rw [eg] at hq
      have hq := Go.bind (show Go F E ((Res.of (keysI ks)).bind fun ns => if ns.length < 64 then Res.ok (D.lst ((sortI ns).map D.int), q.2) else .fail) _ from hq)
      cases ek : keysI ks with
      | none => rw [ek] at hq; exact hq.elim
      | some ns =>
        rw [ek] at hq
        have hq : Go F E (if ns.length < 64 then Res.ok (D.lst ((sortI ns).map D.int), q.2) else .fail) _ := hq
        split at hq
        · rename_i h64
          have hq : Kv F ι σ ρ π H Q (D.lst ((sortI ns).map D.int), q.2) := hq
          have s := cell_of A1 hn ec
          have s : H1 a = some (.dK (ks.map tr)) := s
          rw [keysI_map ek] at s
          refine ⟨a, ns, rfl, s, h64, fun ns' p hp hs hn' => ?_⟩
          rw [sortI_uniq hp hs]
          exact hq _ _ _ (A1.same (.new hn')) (e1.trans (.of_ev (.new hn'))) (.lstN (ints_d _) hn' A1.mx)
        · exact hq.elim
    · rw [eg] at hq; exact hq.elim
  · rw [en] at hq; exact hq.elim
theorem keysD_at : ∀ {l : List D} {ks : List Key} {i : Nat} {d : D}, keysD l = some ks → l[i]? = some d → ∃ k, ks[i]? = some k ∧ keyD d = some k
  | [], _, _, _, _, h => by simp at h
  | e :: l, ks, i, d, h, hd => by
    unfold keysD at h
    cases e1 : keyD e with
    | none => rw [e1] at h; cases h
    | some k =>
      rw [e1] at h
      cases e2 : keysD l with
      | none => rw [Option.bind_some, e2] at h; cases h
      | some ms =>
        rw [Option.bind_some, e2] at h
        cases h
        cases i with
        | zero => simp at hd; subst hd; exact ⟨k, rfl, e1⟩
        | succ i =>
          obtain ⟨k', h1, h2⟩ := keysD_at e2 (by simpa using hd)
          exact ⟨k', by simpa using h1, h2⟩
theorem keysD_len : ∀ {l : List D} {ks : List Key}, keysD l = some ks → ks.length = l.length
  | [], ks, h => by cases h; rfl
  | e :: l, ks, h => by
    unfold keysD at h
    cases e1 : keyD e with
    | none => rw [e1] at h; cases h
    | some k =>
      rw [e1] at h
      cases e2 : keysD l with
      | none => rw [Option.bind_some, e2] at h; cases h
      | some ms =>
        rw [Option.bind_some, e2] at h
        cases h
        simp [keysD_len e2]
theorem putKs_len (ks : List Key) (k : Key) : (putKs ks k).length ≤ ks.length + 1 := by
  unfold putKs
  split
  · omega
  · simp
theorem mergeKs_len : ∀ (ls ks : List Key), (mergeKs ks ls).length ≤ ks.length + ls.length
  | [], ks => Nat.le_refl _
  | k :: ls, ks => by
    have h := mergeKs_len ls (putKs ks k)
    have h2 := putKs_len ks k
    show (mergeKs (putKs ks k) ls).length ≤ _
    rw [List.length_cons]
    omega
theorem _root_.List.reverseRecOn' {α : Type} {motive : List α → Prop} (l : List α) (nil : motive []) (snoc : ∀ l x, motive l → motive (l ++ [x])) : motive l := by
  have h : ∀ l : List α, motive l.reverse := fun l => by
    induction l with
    | nil => exact nil
    | cons x l ih => rw [List.reverse_cons]; exact snoc _ _ ih
  have q := h l.reverse
  rw [List.reverse_reverse] at q
  exact q
theorem hasKey_put (ks : List Key) (k x : Key) : hasKey (putKs ks k) x = (hasKey ks x || decide (k = x)) := by
  unfold putKs
  split
  · rename_i h
    by_cases e : k = x
    · subst e; simp [h]
    · simp [e]
  · simp [hasKey]
theorem hasKey_merge : ∀ (ls ks : List Key) (x : Key), hasKey (mergeKs ks ls) x = (hasKey ks x || hasKey ls x)
  | [], ks, x => by simp [mergeKs, hasKey]
  | k :: ls, ks, x => by
    show hasKey (mergeKs (putKs ks k) ls) x = _
    rw [hasKey_merge ls (putKs ks k) x, hasKey_put]
    simp [hasKey, Bool.or_assoc]
theorem putKs_has {ks : List Key} {k : Key} (h : hasKey ks k = true) : putKs ks k = ks := if_pos h
/-- keys that come again change nothing -/
theorem mergeKs_app (ks : List Key) (ls ms : List Key) : mergeKs (mergeKs ks ls) ms = mergeKs ks (ls ++ ms) := by
  unfold mergeKs
  rw [List.foldl_append]
theorem mergeKs_twice (ks ls : List Key) : mergeKs ks (mergeKs [] ls) = mergeKs ks ls := by
  induction ls using List.reverseRecOn' with
  | nil => rfl
  | snoc ls k ih =>
    have e1 : mergeKs [] (ls ++ [k]) = putKs (mergeKs [] ls) k := by unfold mergeKs; rw [List.foldl_append]; rfl
    have e2 : mergeKs ks (ls ++ [k]) = putKs (mergeKs ks ls) k := by unfold mergeKs; rw [List.foldl_append]; rfl
    rw [e1, e2]
    by_cases h : hasKey (mergeKs [] ls) k = true
    · rw [putKs_has h, ih, putKs_has]
      rw [hasKey_merge] at h ⊢
      have h : hasKey ls k = true := by simpa [hasKey] using h
      rw [h, Bool.or_true]
    · have e3 : putKs (mergeKs [] ls) k = mergeKs [] ls ++ [k] := if_neg h
      rw [e3, ← mergeKs_app, ih]
      rfl
theorem x_updDc {scope : Scope} {own : List (Str × Nat)} {k : Nat} {pd pt pk : Pos} (hc : X.calm = true) (hN : X.N.Nodup) (ho : PE X o (tX F E fo)) (hi : PI X (.Name y pt) iter (tI F E items)) (ok : BlkOk X.N X.env.scope scope own) (hk : own = [(y, k)])
    (hg : ∀ (s : Shared) (H : Hp) (C : Addr) (cl : List (Str × Addr)) (fp : List Addr), PG (X.blk s H scope (compEnvC scope cl C X.env) fp) (.Name y pt) (gName k))
    (hv : ∀ (s : Shared) (H : Hp) (C : Addr) (cl : List (Str × Addr)) (fp : List Addr), PE (X.blk s H scope (compEnvC scope cl C X.env) fp) (.Name y pk) (fun σ H Q => ∃ v, σ[k]? = some (some v) ∧ Q v H))
    (hs0 : ∀ x, foldedSetIterable iter X.env x = pure x := by intro _; rfl)
    (hbase : attributeBase o "update" X.env (eval o X.env) = eval o X.env := by rfl)
    (hfew : ((backTo cpos (starEach [.DictComp (.Name y pk) (.Constant (.bool true) kk p2) [⟨.Name y pt, iter, [], 0⟩] scope pd] X.env)).all (fun x => !x.1) && (backToKw cpos (keywordEach [] X.env)).all (fun x => x.1.isSome)
      && decide ([Expr.DictComp (.Name y pk) (.Constant (.bool true) kk p2) [⟨.Name y pt, iter, [], 0⟩] scope pd].length + ([] : List Keyword).length + (if ([] : List Keyword).isEmpty then 0 else 1) < 30)) = true := by rfl)
    (hline : (apos.endLine == cpos.line) = true := by rfl) (hs : starEach [.DictComp (.Name y pk) (.Constant (.bool true) kk p2) [⟨.Name y pt, iter, [], 0⟩] scope pd] X.env = (false, eval (.DictComp (.Name y pk) (.Constant (.bool true) kk p2) [⟨.Name y pt, iter, [], 0⟩] scope pd) X.env) :: starEach [] X.env := by rfl)
    (hplain : (backTo cpos (starEach [] X.env)).any (·.1) = false := by rfl) :
    PE X (.Call (.Attribute o "update" apos) [.DictComp (.Name y pk) (.Constant (.bool true) kk p2) [⟨.Name y pt, iter, [], 0⟩] scope pd] [] cpos) (tX F E (eUpdDc k fo items)) :=
  (pe_bm PySem.F.plainAttrs_dict PySem.F.slot_dict_update PySem.F.type_dict_update mt_update ho (pa_cons (pe_dc hc hN hi ok hg (fun _ _ _ _ _ => pts_nil) hv (fun _ _ _ _ _ => pe_bl) hs0) pa_nil hs) hbase hfew hline hs hplain).weak fun σ H Q h => by
    subst hk
    obtain ⟨ι, ρ, π, A, h⟩ := h
    unfold eUpdDc at h
    split at h
    case isFalse => exact h.elim
    rename_i hkl0
    have hkl : k < σ.length := by rw [A.len]; exact hkl0
    refine ⟨ι, ρ, π, A, Go.mono (fun p hp v ι1 H1 A1 e1 r1 => ?_) (Go.bind h)⟩
    have hp := Go.bind hp
    rcases dctC_cases p.2 p.1 with ⟨n, l0, e0, ec0, en⟩ | en
    · rw [en] at hp
      have hp := Go.bind (show Go F E ((items ρ p.2).bind fun q => (Res.of (keysD q.1)).bind fun ls => (getD_ q.2 n).bind fun ks => if ks.length + ls.length ≤ 100000 then Res.ok (D.non, q.2.set n (.dct (mergeKs ks ls))) else .fail) _ from hp)
      rw [e0] at r1
      obtain ⟨a, rfl, hn, s0⟩ := A1.wo.cell r1 ec0
      refine ⟨.inr (.inr (.inl ⟨rfl, .inl ⟨_, s0⟩⟩)), ι1, ρ, p.2, A1, Go.mono (fun q hq J ι2 H2 A2 e2 W Dl hD => ?_) hp⟩
      have hq := Go.bind hq
      have hn2 := e2.at hn
      cases ekd : keysD q.1 with
      | none => rw [ekd] at hq; exact hq.elim
      | some ls =>
        rw [ekd] at hq
        have hq := Go.bind (show Go F E ((getD_ q.2 n).bind fun ks => if ks.length + ls.length ≤ 100000 then Res.ok (D.non, q.2.set n (.dct (mergeKs ks ls))) else .fail) _ from hq)
        rcases getD_cases q.2 n with ⟨ks, ec, eg⟩ | eg
        · rw [eg] at hq
          have hq : Go F E (if ks.length + ls.length ≤ 100000 then Res.ok (D.non, q.2.set n (.dct (mergeKs ks ls))) else .fail) (Kv F ι σ ρ π H Q) := hq
          split at hq
          · rename_i hz
            have hq : Kv F ι σ ρ π H Q (D.non, q.2.set n (.dct (mergeKs ks ls))) := hq
            have s := cell_of A2 hn2 ec
            have s : H2 a = some (.dK (ks.map tr)) := s
            have hll := keysD_len ekd
            have hne : a ≠ Dl := fun z => by rw [z, hD] at s; cases s
            refine ⟨fun i m H3 => m = q.1.length - i ∧ i ≤ q.1.length ∧ Ev Nm H2 H3 ∧ H3 Dl = some (.dK ((mergeKs [] (ls.take i)).map tr)), ⟨q.1.length, by simp, Nat.zero_le _, .new hD, upd_same⟩, ?_⟩
            rintro i m H3 ⟨rfl, hle, ev, sD⟩
            by_cases hlt : i < q.1.length
            · refine .inr ⟨W.go i H3 ev.nm hlt, fun H4 => i + 1 ≤ q.1.length ∧ Ev Nm H2 H4 ∧ H4 Dl = some (.dK ((mergeKs [] (ls.take (i + 1))).map tr)), fun H4 ⟨z, z2⟩ => ⟨q.1.length - (i + 1), by omega, rfl, z, z2⟩, fun x H4 yx => ?_⟩
              have hd : q.1[i]? = some q.1[i] := List.getElem?_eq_getElem hlt
              obtain ⟨ex, rx⟩ := W.yld i x H3 H4 _ ι2 (Mu F.M0 ι2 q.2) ev.nm (List.prefix_refl _) (fun _ h _ => h) (fun b hb => ev.there b (A2.mx b hb)) hd yx
              obtain ⟨key, hkey, ekey⟩ := keysD_at ekd hd
              have hx := keyD_v ekey rx
              subst hx
              have hw : L2.wipe ((L2.wipe σ [k]).set k (some (kV key))) [k] = L2.wipe σ [k] := by
                show (((σ.set k none).set k (some (kV key))).set k none) = σ.set k none
                rw [List.set_set, List.set_set]
              have et : ls.take (i + 1) = ls.take i ++ [key] := by rw [List.take_add_one, hkey]; rfl
              have em : mergeKs [] (ls.take (i + 1)) = putKs (mergeKs [] (ls.take i)) key := by rw [et]; unfold mergeKs; rw [List.foldl_append]; rfl
              refine ⟨hw, ?_⟩
              dsimp only [tYes]
              rw [if_pos rfl]
              refine ⟨kV key, List.getElem?_set_self (by rw [wipe_len]; exact hkl), (mergeKs [] (ls.take i)).map tr, key, rfl, ex.keep _ _ sD id, ?_, hlt, ?_, ?_⟩
              · have h1 := mergeKs_len (ls.take i) []
                have h2 : (ls.take i).length ≤ i := List.length_take_le _ _
                have e5 : ([] : List Key).length = 0 := rfl
                rw [List.length_map]
                exact Nat.lt_of_lt_of_le (show _ < 100000 by omega) (big (Nat.le_refl _))
              · exact .of fun b u eb => by
                  rw [upd_ne (ne_of_none eb hD)]
                  exact ex.keep _ _ (ev.keep _ _ eb id) id
              · rw [em, upd_same, putK_tr]
            · have ei : i = q.1.length := by omega
              subst ei
              refine .inl ⟨W.stop _ H3 ev.nm (Nat.le_refl _), a, Dl, ks.map tr, (mergeKs [] (ls.take q.1.length)).map tr, rfl, rfl, hne, ev.keep _ _ s id, sD, ?_, ?_⟩
              · rw [List.length_map, List.length_map, ← hll, List.take_length]
                have := mergeKs_len ls []
                have e5 : ([] : List Key).length = 0 := rfl
                exact Nat.le_trans (by omega) (big hz)
              · rw [mergeK_tr, ← hll, List.take_length]
                have em : mergeKs ks (mergeKs [] ls) = mergeKs ks ls := mergeKs_twice ks ls
                rw [em]
                have A3 := A2.same ev
                have x : Ev (fun b => b = a) H3 (upd H3 a (.dK ((mergeKs ks ls).map tr))) := .put rfl (ev.keep _ _ s id)
                have g : Gr Nm ι2 q.2 H3 ι2 (q.2.set n (.dct (mergeKs ks ls))) _ := .put hn2 ec (fun z => nomatch z) x
                exact hq _ _ _ (A3.putC hn2 ec (fun z => nomatch z) x upd_same) (((e1.trans e2).trans (.of_ev ev)).trans g) rfl
          · exact hq.elim
        · rw [eg] at hq; exact hq.elim
    · rw [en] at hp; exact hp.elim
end
end Ph
end
section
set_option Elab.async false
set_option linter.all false
set_option maxRecDepth 100000
/-! Ph, part M: o.extend(e); a, b, c = x, y, z; try. -/
namespace Ph
open PySem PySem.Spec PyProof.Rows L2

theorem _root_.L2.Room.u1 {k : Nat} {A : Around} (r : Room k A) : A.units + 1 < cLine := by have := r.units; omega
theorem pgn {X : Cx} {x : Str} {i : Nat} {pos : Pos} (hN : X.N.Nodup) (hi : X.N[i]? = some x := by rfl) (hx : Loc X.env.scope x := by first | exact .inl rfl | exact .inr rfl)
    (hf : X.fn x = true ∨ X.env.scope.names.lookup x = some .local := by first | exact .inl rfl | exact .inr rfl | assumption) : PG X (.Name x pos) (gName i) := pg_name hN hi hx hf
def eExt (o e : SE) : SE := fun ρ π => (o ρ π).bind fun p => (lstC p.2 p.1).bind fun n => (e ρ p.2).bind fun q => (lst? q.1).bind fun m => (getL q.2 n).bind fun l => if l.length + m.length ≤ 100000 then .ok (.non, q.2.set n (.lst (l ++ m))) else .fail
/-- a, b, c = x, y, z -/
def sPar3 (i j l : Nat) (as : SA) : SS := fun ρ π => (as ρ π).bind fun p => match p.1 with
  | [a, b, c] => .ok (.nx (((ρ.set i (some a)).set j (some b)).set l (some c)) p.2)
  | _ => .fail
section
variable {X : Cx} {F : Fx} {E : XK} {o e a b c : Expr} {pos apos cpos px py pz pt pt2 : Pos} {fo fe : SE} {as : SA} {x y z : Str} {i j l : Nat} {kt k2}
theorem x_ext (ho : PE X o (tX F E fo)) (he : PE X e (tX F E fe)) (hbase : attributeBase o "extend" X.env (eval o X.env) = eval o X.env := by rfl)
    (hfew : ((backTo cpos (starEach [e] X.env)).all (fun x => !x.1) && (backToKw cpos (keywordEach [] X.env)).all (fun x => x.1.isSome)
      && decide ([e].length + ([] : List Keyword).length + (if ([] : List Keyword).isEmpty then 0 else 1) < 30)) = true := by rfl)
    (hline : (apos.endLine == cpos.line) = true := by rfl) (hs : starEach [e] X.env = (false, eval e X.env) :: starEach [] X.env := by rfl) (hplain : (backTo cpos (starEach [] X.env)).any (·.1) = false := by rfl) :
    PE X (.Call (.Attribute o "extend" apos) [e] [] cpos) (tX F E (eExt fo fe)) :=
  (pe_bm PySem.F.plainAttrs_list PySem.F.slot_list_extend PySem.F.type_list_extend mt_extend ho (pa_cons he pa_nil hs) hbase hfew hline hs hplain).weak fun σ H Q h => by
    obtain ⟨ι, ρ, π, A, h⟩ := h
    refine ⟨ι, ρ, π, A, Go.mono (fun p hp v ι1 H1 A1 e1 r1 => ?_) (Go.bind h)⟩
    have hp := Go.bind hp
    obtain ⟨d, π1⟩ := p
    rcases lstC_cases π1 d with ⟨n, l, rfl, ec, en⟩ | en
    · rw [en] at hp
      have hp := Go.bind (show Go F E (Res.bind (fe ρ π1) _) _ from hp)
      obtain ⟨a, rfl, hn, xs, s, _⟩ := A1.wo.cell r1 ec
      refine ⟨.inl ⟨rfl, xs, SqL.of s⟩, ι1, ρ, π1, A1, Go.mono (fun q hq y ι2 H2 A2 e2 r2 => ?_) hp⟩
      have hq := Go.bind hq
      obtain ⟨dq, π2⟩ := q
      cases dq with
      | lst m =>
        have hn2 := e2.at hn
        have hq := Go.bind (show Go F E (Res.bind (getL π2 n) _) _ from hq)
        rcases getL_cases π2 n with ⟨l2, ec2, eg⟩ | eg
        · rw [eg] at hq
          have hq : Go F E (if l2.length + m.length ≤ 100000 then Res.ok (D.non, π2.set n (.lst (l2 ++ m))) else .fail) (Kv F ι σ ρ π H Q) := hq
          split at hq
          · rename_i hl
            have hq : Kv F ι σ ρ π H Q (D.non, π2.set n (.lst (l2 ++ m))) := hq
            obtain ⟨xs2, s2, q2⟩ := cell_of A2 hn2 ec2
            obtain ⟨b, ys, rfl, _, sb, rb⟩ := r2
            obtain ⟨A3, g3⟩ := put_lst A2 hn2 ec2 s2 (q2.append rb)
            exact ⟨a, b, xs2, ys, rfl, rfl, s2, sb, by rw [q2.length, rb.length]; exact big hl, hq _ _ _ A3 ((e1.trans e2).trans g3) rfl⟩
          · exact hq.elim
        · rw [eg] at hq; exact hq.elim
      | _ => exact hq.elim
    · rw [en] at hp; exact hp.elim
theorem three_v {G : Gx} {M : Addr → Prop} {H : Hp} {d e f : D} {vs : List V} (r : DrL G M H [d, e, f] vs) : ∃ v w u, vs = [v, w, u] ∧ Dr G M H d v ∧ Dr G M H e w ∧ Dr G M H f u := by
  obtain ⟨v, ws, rfl, q, t⟩ := r
  obtain ⟨w, u, rfl, q2, q3⟩ := two_v t
  exact ⟨v, w, u, rfl, q, q2, q3⟩
theorem s_par3 (hc : X.calm = true) (hN : X.N.Nodup) (ha : PA X [a, b, c] (tXA F E as)) (hi : X.N[i]? = some x := by rfl) (hj : X.N[j]? = some y := by rfl) (hl : X.N[l]? = some z := by rfl) (hij : i ≠ j := by decide) (hil : i ≠ l := by decide) (hjl : j ≠ l := by decide)
    (hx : X.env.scope.names.lookup x = some .local := by rfl) (hy : X.env.scope.names.lookup y = some .local := by rfl) (hz : X.env.scope.names.lookup z = some .local := by rfl)
    (hw : swappedStores [.Tuple [.Name x px, .Name y py, .Name z pz] kt pt] (.Tuple [a, b, c] k2 pt2) X.env = pure (some [x, y, z]) := by rfl)
    (hs : swapsWithSole [.Tuple [.Name x px, .Name y py, .Name z pz] kt pt] (.Tuple [a, b, c] k2 pt2) pos.line X.env = pure false := by rfl) :
    PS X (.Assign [.Tuple [.Name x px, .Name y py, .Name z pz] kt pt] (.Tuple [a, b, c] k2 pt2) pos) (tS F E (sPar3 i j l as)) := (ps_par3 hc hN hi hj hl hij hil hjl hx hy hz ha hw hs).weak fun D σ H h => by
  obtain ⟨ι, ρ, π, A, h⟩ := h
  refine ⟨ι, ρ, π, A, Go.mono (fun p hp vs ι' H' A1 e1 r1 => ?_) (Go.bind h)⟩
  obtain ⟨l, π1⟩ := p
  match l, hp, r1 with
  | [d1, d2, d3], hp, r1 =>
    obtain ⟨v1, v2, v3, rfl, q1, q2, q3⟩ := three_v r1
    exact ⟨v1, v2, v3, rfl, hp ι' _ H' (((A1.set q1).set q2).set q3) e1⟩
  | [], hp, _ => exact hp.elim
  | [_], hp, _ => exact hp.elim
  | [_, _], hp, _ => exact hp.elim
  | _ :: _ :: _ :: _ :: _, hp, _ => exact hp.elim
end
/-! ### a walk over a list or a tuple -/
def seq? : D → Res (List D)
  | .lst l => .ok l
  | .tup l => .ok l
  | _ => .fail
@[simp] theorem seq?_l (l : List D) : seq? (.lst l) = .ok l := rfl
@[simp] theorem seq?_t (l : List D) : seq? (.tup l) = .ok l := rfl
def iS (e : SE) : SA := fun ρ π => (e ρ π).bind fun p => (seq? p.1).bind fun l => .ok (l, p.2)
@[simp] theorem iS_ap {e : SE} {ρ : En} {π : Store} : iS e ρ π = (e ρ π).bind fun p => (seq? p.1).bind fun l => .ok (l, p.2) := rfl
theorem xi_seq {X : Cx} {F : Fx} {E : XK} {tg e : Expr} {fe : SE} (hK : F.G.K = X.K) (he : PE X e (tX F E fe)) : PI X tg e (tI F E (iS fe)) := by
  refine ⟨fun pins s σ H R I h => ?_⟩
  obtain ⟨ι, ρ, π, A, h⟩ := h
  have hx : fe ρ π = fe ρ π := rfl
  cases e1 : fe ρ π with
  | fail =>
    have h' : Go F E (iS fe ρ π) _ := h
    unfold iS at h'
    rw [e1] at h'
    exact h'.elim
  | xc c d π' =>
    refine (xi_list hK he).run pins s σ H R I ⟨ι, ρ, π, A, ?_⟩
    have q : iL fe ρ π = iS fe ρ π := by unfold iL iS; rw [e1]; rfl
    rw [q]
    exact h
  | ok p =>
    obtain ⟨d, π1⟩ := p
    have h' : Go F E (iS fe ρ π) _ := h
    cases d with
    | lst l =>
      refine (xi_list hK he).run pins s σ H R I ⟨ι, ρ, π, A, ?_⟩
      have q : iL fe ρ π = iS fe ρ π := by unfold iL iS; rw [e1]; rfl
      rw [q]
      exact h
    | tup l =>
      refine (xi_tup hK he).run pins s σ H R I ⟨ι, ρ, π, A, ?_⟩
      have q : iT fe ρ π = iS fe ρ π := by unfold iT iS; rw [e1]; rfl
      rw [q]
      exact h
    | _ =>
      unfold iS at h'
      rw [e1] at h'
      exact h'.elim
end Ph
end
section
set_option Elab.async false
set_option linter.all false
set_option maxRecDepth 100000
/-! Ph, part N: enumerate over a tuple. -/
namespace Ph
open PySem PySem.Spec PySem.W PyProof.Rows L2

set_option maxHeartbeats 1000000 in
theorem meets_enum1 {v : Value} {o : Obj} {H : Heap → Prop} (B : Begins v o H) :
    Meets (Builtin.«enumerate.__new__» ⟨[.type "enumerate", v], []⟩) (fun _ R s => H s.heap ∧
      R (.ok (.ret (.ref (s.heap.push o).objs.size))) { s with heap := (s.heap.push o).push { cls := .type "enumerate", data := .fields #[.none, .bool false, .ref s.heap.objs.size, rawInt 0, .none, .none] } }) :=
  .of_wp fun prog w A R s h => by
    obtain ⟨hp, g, d, tk, os⟩ := s; obtain ⟨h1, h⟩ := h
    have hsub := sub_enumerate
    have q1 : ∀ {A' : Around} {E : Value → Shared → Prop} {Q : Value → Shared → Prop}, Q (.ref hp.objs.size) ⟨hp.push o, g, d, tk, os⟩ → wpAny (model prog w) A' (pyIter v) Q E ⟨hp, g, d, tk, os⟩ :=
      fun q => B.iter prog w _ _ ⟨hp, g, d, tk, os⟩ _ h1 q
    wp_walk using q1
    refine wpAny_stack_any fun st => wpAny_pure ?_
    split
    · rename_i c _ _ _ _ _
      cases (c == Value.type "enumerate")
      · wp_walk using q1
        exact ⟨_, rfl, h⟩
      · wp_walk using q1
        exact ⟨_, rfl, h⟩
    · wp_walk using q1
      exact ⟨_, rfl, h⟩
section
variable {prog : Program} {w : World} {A : Around} {E : Value → Shared → Prop} {s : Shared}
theorem enum1_begins {v : Value} {o : Obj} {H : Heap → Prop} {Q : Value → Shared → Prop} (B : Begins v o H) (h1 : H s.heap)
    (h : ∀ h', IsEnum h' (s.heap.objs.size + 1) s.heap.objs.size 0 .none → h'.get? s.heap.objs.size = some o → h'.objs.size = s.heap.objs.size + 2 →
      (∀ b o, s.heap.get? b = some o → h'.get? b = some o) → Q (.ref (s.heap.objs.size + 1)) { s with heap := h' }) :
    wpAny (model prog w) A (call (.type "enumerate") [v]) Q E s := by
  refine callType_new F.called_enumerate (by decide) (F.typeCall_enumerate_1 _) (F.newCall_enumerate_1 _) (fun obj => F.args_object_init_2 obj _) F.entry_enumerate_new (meets_enum1 B) ⟨h1, ?_⟩
  have hz : (s.heap.push o).objs.size = s.heap.objs.size + 1 := Heap.size_push ..
  show _ ∧ _
  rw [hz]
  have he : IsEnum ((s.heap.push o).push { cls := .type "enumerate", data := .fields #[.none, .bool false, .ref s.heap.objs.size, rawInt 0, .none, .none] }) (s.heap.objs.size + 1) s.heap.objs.size 0 .none := by
    have := Heap.get?_push_size (s.heap.push o) (o := { cls := .type "enumerate", data := .fields #[.none, .bool false, .ref s.heap.objs.size, rawInt 0, .none, .none] }) rfl
    rw [hz] at this; exact this
  refine ⟨⟨_, he, rfl⟩, h _ he (Heap.get?_push_of_some _ (Heap.get?_push_size _ B.free)) (by rw [Heap.size_push, hz]) fun b o x => Heap.get?_push_of_some _ (Heap.get?_push_of_some _ x)⟩
end
/-- the tuple at a as it stands at each turn, each item in a new pair -/
def IteT (K : PySem.W.Frag) (a : Addr) : It :=
  ⟨fun i H => ∃ (xs : List V) (x : V), SqT K H a xs ∧ xs[i]? = some x, fun i H v H' => ∃ T x, v = .ref T ∧ H T = none ∧ H' = upd H T (.tup [.int (i : Nat), x]) ∧ ∀ xs, SqT K H a xs → xs[i]? = some x, fun i H => ∃ xs : List V, SqT K H a xs ∧ xs.length ≤ i⟩
theorem turn_enumT {P : Program} {w : World} {K : PySem.W.Frag} {elts : List Expr} {kk : Nat} {tpos : Pos} (a e it : Addr) :
    Turn P w K (.Tuple elts kk tpos) (IteT K a) [e, it] e (fun i h => (∃ old, IsEnum h e it ((i : Nat) : Int) old) ∧ h.IsTupleIter it a i ∧ e ≠ it ∧ a ≠ it ∧ a ≠ e) where
  mem := by simp
  obj := fun i h st b hb => by
    obtain ⟨⟨old, he⟩, ⟨o, ho, hc, hd⟩, _⟩ := st
    have e' : b = e ∨ b = it := by simpa using hb
    rcases e' with z | z
    · rw [z]; exact ⟨_, he, fun v q => nomatch q⟩
    · rw [z]; exact ⟨o, ho, fun v q => by rw [hd] at q; cases q⟩
  keep := fun i h h' st k => let ⟨⟨old, he⟩, hi, hne⟩ := st; ⟨⟨old, k e (by simp) _ he⟩, hi.at fun o q => k it (by simp) o q, hne⟩
  item := by
    intro X hP hw hK hc i pins s σ H E I hf st hg
    subst hP hw hK
    obtain ⟨⟨old, he⟩, hit, hne, hai, hae⟩ := st
    obtain ⟨xs, x, hq, hx⟩ := hg
    obtain ⟨its, rv, p, hz⟩ := I.tuple hq
    obtain ⟨u, hu, ru⟩ := rv.get hx
    have hel : e < s.heap.objs.size := Heap.lt_size he
    have hil : it < s.heap.objs.size := by obtain ⟨_, q, _⟩ := hit; exact Heap.lt_size q
    have hlt : i < its.toArray.size := by
      have := (List.getElem?_eq_some_iff.mp hu).1
      simpa using this
    refine wpAny_pyNext_enum_itemD (Draws.tuple (A := X.A.in1) (I.ok.hd hc) it a hai its.toArray) he (show _ from ⟨hit, p⟩) hlt hne (by simp [hne, Ne.symm hae]) fun x1 h' tk hx1 ho st' hT hsz hk => ?_
    have ex1 : x1 = u := by
      have q : its.toArray[i]? = some x1 := hx1
      have q2 : its.toArray[i]? = some u := by simpa using hu
      rw [q] at q2
      exact Option.some.inj q2
    subst ex1
    obtain ⟨hit', _⟩ := st'
    refine ⟨_, rfl, wpAny_letOwnedTupleGo_enum (s := { s with heap := h', toks := tk + 1 }) ho fun h'' he' sb => ?_⟩
    have hT2 : h''.get? s.heap.objs.size = some { cls := .type "tuple", data := .seq #[.int i tk, x1] } := (sb.2 _ (Nat.ne_of_gt hel)).trans hT
    have new : ObjOk X.prog X.w (upd H s.heap.objs.size (.tup [.int (i : Nat), x])) h'' s.heap.objs.size (.tup [.int (i : Nat), x]) :=
      ⟨by show 2 ≤ sizeLine; decide, [.int i tk, x1], .cons ⟨_, rfl⟩ (.cons ru .nil), ⟨_, hT2, rfl, _, rfl⟩⟩
    have I1 : Inv X pins σ (upd H s.heap.objs.size (.tup [.int (i : Nat), x])) { s with heap := h'', toks := tk + 1 } :=
      I.turnedNew (ch := [e, it]) (fun b ob hb q => (sb.2 b (fun z => hb (by simp [z]))).trans (hk b ob (fun z => hb (by simp [z])) (fun z => hb (by simp [z])) q)) hf (Nat.le_refl _) new
    refine ⟨.ref s.heap.objs.size, _, I1, rfl, ⟨_, x, rfl, I.hok.fresh (Nat.le_refl _), rfl, fun ys hy => by rw [I.tuple_inj hy hq]; exact hx⟩, ⟨⟨x1, ?_⟩, hit'.at fun o q => (sb.2 it (Ne.symm hne)).trans q, hne, hai, hae⟩, fun b hb => ?_⟩
    · have e1 : ((i + 1 : Nat) : Int) = (i : Int) + 1 := by omega
      rw [e1]; exact he'
    · have hb' : b < s.heap.objs.size := by
        have e' : b = e ∨ b = it := by simpa using hb
        rcases e' with z | z
        · rw [z]; exact hel
        · rw [z]; exact hil
      rw [upd_ne (Nat.ne_of_lt hb')]
      exact (hf b hb).1
  done := by
    intro X hP hw hK hc i pins s σ H E I hf st hg
    subst hP hw hK
    obtain ⟨⟨old, he⟩, hit, hne, hai, hae⟩ := st
    obtain ⟨xs, hq, hx⟩ := hg
    obtain ⟨its, rv, p, hz⟩ := I.tuple hq
    obtain ⟨f0, f1, f2, f3, f4, f5⟩ := hf it (by simp)
    have hl := rv.length
    have hx' : its.toArray[i]? = none := by simp; omega
    have D : Draws X.prog X.w X.A.in1 it [it, a] i (fun _ _ => False) (fun j h => j = i ∧ h.IsTupleIter it a i ∧ h.IsTuple a its.toArray) :=
      { live := fun _ _ st => let ⟨o, ho, _⟩ := st.2.1; ⟨o, ho⟩
        frame := fun _ _ _ st hk => ⟨st.1, st.2.1.at fun o e => hk it (by simp) o e, st.2.2.at fun o e => hk a (by simp) o e⟩
        item := fun j s Q E hlt st _ => absurd st.1 (by omega)
        done := fun s Q E st hE => wpAny_nextOf_tuple_end (I.ok.hd hc) st.2.1 st.2.2 hx' hE }
    exact wpAny_pyNext_enum_endD D he ⟨rfl, hit, p⟩ fun h' eb => ⟨rfl, I.turned (t' := s.toks) (fun b o hb q => eb b o hb q) f0 f1 f3 f4 f5⟩
  self := fun A i s Q E st h => let ⟨⟨_, he⟩, _⟩ := st; wpAny_pyIter_enum he h
def iEnumT (K : PySem.W.Frag) (ta : TA) : TI := fun σ H R => ta σ H fun vs H1 => ∃ a xs, vs = [.ref a] ∧ SqT K H1 a xs ∧ R (IteT K a) H1
theorem pi_enumT {X : Cx} {e : Expr} {ta : TA} {p pos tpos : Pos} {elts : List Expr} {kk : Nat} (hg : Gl X "enumerate") (hm : X.mg "enumerate" = none) (ha : PA X [e] ta) (hs : starEach [e] X.env = [(false, eval e X.env)] := by rfl) :
    PI X (.Tuple elts kk tpos) (.Call (.Name "enumerate" p) [e] [] pos) (iEnumT X.K ta) := by
  refine ⟨fun pins s σ H R I h => ?_⟩
  refine Call_ (ld_blt I hg hm boot_enumerate (PyProof.Rows.callWith_type1 (thn (ha.run pos pins s σ H _ I h) fun us s1 ⟨vs, H1, I1, r1, q1⟩ => ?_) hs rfl))
  obtain ⟨a, xs, ex, hq, q⟩ := q1
  subst ex
  cases r1 with
  | cons r rr =>
    cases rr
    cases r
    obtain ⟨its, rv, p', hz⟩ := I1.tuple hq
    refine enum1_begins (begins_tuple a its.toArray) (show _ from p') fun h' he hit hsz hk => wpAny_pyIter_enum he ?_
    have I2 : Inv X pins σ H1 { s1 with heap := h' } := I1.kept (t' := s1.toks) hk
    have hal : a < s1.heap.objs.size := p'.lt
    refine ⟨s1.heap.objs.size + 1, [s1.heap.objs.size + 1, s1.heap.objs.size], _, _, H1, rfl, I2, turn_enumT a (s1.heap.objs.size + 1) s1.heap.objs.size, ⟨⟨.none, he⟩, ⟨_, hit, rfl, rfl⟩, Nat.succ_ne_self _, Nat.ne_of_lt hal, Nat.ne_of_lt (Nat.lt_succ_of_lt hal)⟩, fun b hb => ?_, q⟩
    have e' : b = s1.heap.objs.size + 1 ∨ b = s1.heap.objs.size := by simpa using hb
    have hle : s1.heap.objs.size ≤ b := by
      rcases e' with z | z
      · rw [z]; exact Nat.le_add_right _ _
      · rw [z]; exact Nat.le_refl _
    exact I1.fpOk hle (I1.hok.fresh hle)
/-- 0, 1, .. with the items of a tuple -/
def enumD : Nat → List D → List D
  | _, [] => []
  | n, d :: ds => .ptup [.int (n : Nat), d] :: enumD (n + 1) ds
theorem enumD_len : ∀ (n : Nat) (ds : List D), (enumD n ds).length = ds.length
  | _, [] => rfl
  | n, d :: ds => by simp [enumD, enumD_len]
theorem enumD_at : ∀ {ds : List D} {n i : Nat} {d : D}, (enumD n ds)[i]? = some d → ∃ x, ds[i]? = some x ∧ d = .ptup [.int ((n + i : Nat) : Int), x]
  | [], _, _, _, h => by simp [enumD] at h
  | y :: ds, n, 0, d, h => by
    simp [enumD] at h
    exact ⟨y, rfl, by simpa using h.symm⟩
  | y :: ds, n, i + 1, d, h => by
    obtain ⟨x, h1, h2⟩ := enumD_at (ds := ds) (n := n + 1) (i := i) (by simpa [enumD] using h)
    refine ⟨x, by simpa using h1, ?_⟩
    rw [h2]
    have : n + 1 + i = n + (i + 1) := by omega
    rw [this]
def fEnum : List D → Res (List D)
  | [.tup l] => .ok (enumD 0 l)
  | _ => .fail
section
variable {X : Cx} {F : Fx} {E : XK} {e : Expr} {as : SA} {p pos tpos : Pos} {elts : List Expr} {kk : Nat}
theorem wk_enumT {G : Gx} {ι : List Addr} {M : Addr → Prop} {H1 : Hp} {a : Addr} {xs : List V} {ds : List D} (h : SqT G.K H1 a xs) (r : DrL (G.at ι) M H1 ds xs) : Wk G ι M (IteT G.K a) H1 (enumD 0 ds) where
  stop := fun i H' x hi => by
    rw [enumD_len] at hi
    exact ⟨xs, sqT_ev x h, by rw [r.length]; exact hi⟩
  go := fun i H' x hi => by
    rw [enumD_len] at hi
    obtain ⟨u, e1, _⟩ := r.get (List.getElem?_eq_getElem hi)
    exact ⟨xs, u, sqT_ev x h, e1⟩
  yld := fun i v H' H'' d ι2 M2 x p m m' hd y => by
    obtain ⟨T, u, rfl, hn, rfl, y1⟩ := y
    obtain ⟨d1, e1, rfl⟩ := enumD_at hd
    have q1 := y1 xs (sqT_ev x h)
    obtain ⟨u', e3, r3⟩ := r.get e1
    rw [q1] at e3
    cases e3
    rw [Nat.zero_add]
    exact ⟨.new hn, .ptupN (.cons rfl (.one (Dr.mv p x m _ _ r3))) hn⟩
theorem xi_enum (hm : X.mg "enumerate" = none) (ha : PA X [e] (tXA F E as)) (hK : F.G.K = X.K := by rfl) (hg : Gl X "enumerate" := by rfl) (hs : starEach [e] X.env = [(false, eval e X.env)] := by rfl) :
    PI X (.Tuple elts kk tpos) (.Call (.Name "enumerate" p) [e] [] pos) (tI F E (iR fEnum as)) := (pi_enumT hg hm ha hs).weak fun σ H R h => by
  obtain ⟨ι, ρ, π, A, h⟩ := h
  refine ⟨ι, ρ, π, A, Go.mono (fun q hq vs ι1 H' A1 e1 r1 => ?_) (Go.bind h)⟩
  have hq := Go.bind hq
  unfold fEnum at hq
  split at hq
  · rename_i l e
    rw [e] at r1
    obtain ⟨v, rfl, a, xs, rfl, s, rx⟩ := one_v r1
    refine ⟨a, xs, rfl, by rw [← hK]; exact s.sq, ?_⟩
    rw [← hK]
    exact hq _ ι1 H' A1 e1 (wk_enumT s.sq rx)
  · exact hq.elim
end
end Ph
end
section
set_option Elab.async false
set_option linter.all false
set_option maxRecDepth 100000
set_option maxHeartbeats 2000000
/-! Ph, part O: a lambda with parameters, made and handed to a def that calls it. -/
namespace Ph
open PySem PySem.Spec PyProof.Rows L2 LamX NdefX

/-- the name of the lambdas of a def -/
abbrev lq (X : Cx) : Str := X.env.qual ++ "<lambda>"
/-- a lambda is made: what the heap is then (after LamX.lam_make2, which tells less of it) -/
theorem lam_make3 {X : Cx} {pins : List (Addr × Obj)} {σ : L2.St} {H : Hp} {s : Shared} {c P : Addr} {params : Arguments} {body : Expr} {scope : Scope} {pos : Pos} {E : Value → Shared → Prop} {Q : Value → Shared → Prop} (I : Inv X pins σ H s) (TB : TabB X.base X.mg c P) (hcode : X.env.code = .ref c)
    (hT : TabS H P (lq X)) (hdef : defaultsOf params X.env = ([], [])) (hfree : ∀ y ∈ scope.names, y.2 = .free → ∃ c, X.env.cells.lookup y.1 = some c)
    (h : ∀ (f c' : Addr) (pm ctv : Value) (H1 : Hp) (s' : Shared), Inv X pins σ H1 s' → Ev (fun b => b = P) H H1 → TabS H1 P (lq X) →
      s'.heap.get? f = some (PySem.W.kla_obj "<lambda>" (lq X) params body scope (cloFrom X.env.cells scope.names []) pm c' ctv) → H1 f = none → f ∉ frs X.stack → H1 c' = some (CodeO c' (lq X)) → Q (.ref f) s') :
    wpAny (model X.prog X.w) X.A (eval (.Lambda params body scope pos) X.env) Q E s := by
  obtain ⟨ps, hP, ht, ha⟩ := hT
  refine PySem.W.kla_eval hdef ?_
  have bP : s.heap.BuiltinsAt X.mg P := TB.bm.keeps I.bk
  have hP' : s.heap.get? P = some { cls := .none, data := .fields ps } := I.hok P _ hP
  have nofr : ∀ f, s.heap.objs.size ≤ f → f ∉ frs X.stack := fun f hf z => by
    rcases List.mem_cons.mp (I.stkSub _ z) with e | e
    · have h1 := I.lt
      rw [← e] at h1
      exact Nat.lt_irrefl _ (Nat.lt_of_lt_of_le h1 hf)
    · exact I.nofs hf e
  cases hc : codeAmong pos ps.toList with
  | none =>
    refine PySem.W.kla_makeFunction (mg := X.mg) (c := c) (P := P) (ps := ps) (closure_ok hfree) I.ok.glob (I.mod.glob.keeps I.bk) hcode (TB.code.keeps I.bk) hP' ht hc TB.gP bP fun c' ctv h' tk hx hge hlt hrec htb => ?_
    obtain ⟨c2, oc, vs, t, e2, hoc, hd, hv⟩ := hrec
    cases e2
    have hsz : s.heap.objs.size ≤ h'.objs.size := Nat.le_trans hge (Nat.le_of_lt hlt)
    have nC : H c' = none := I.hok.fresh hge
    have I1 := inv_table (t' := tk) (more := #[rawInt pos.line, rawInt pos.col, .ref c']) (h' := h'.push (PySem.W.kla_obj "<lambda>" (lq X) params body scope (cloFrom X.env.cells scope.names []) ((X.mg "__name__").getD .none) c' ctv)) I hP
      (fun b o hb e => Heap.get?_push_of_some _ (hx b o hb e)) (Heap.get?_push_of_some _ htb) hge ⟨oc, vs, t, Heap.get?_push_of_some _ hoc, hd, hv⟩
    have hE : Ev (fun b => b = P) H (upd (upd H P (.tbl (ps ++ #[rawInt pos.line, rawInt pos.col, .ref c']))) c' (CodeO c' (lq X))) :=
      (Ev.put (M := fun b => b = P) (o := .tbl (ps ++ #[rawInt pos.line, rawInt pos.col, .ref c'])) rfl hP).trans (.new (by rw [upd_ne (Ne.symm (ne_of_none hP nC))]; exact nC))
    have eL : (ps ++ #[rawInt pos.line, rawInt pos.col, .ref c']).toList = ps.toList ++ [rawInt pos.line, rawInt pos.col, .ref c'] := by simp
    refine h h'.objs.size c' ((X.mg "__name__").getD .none) ctv _ _ I1 hE ?_ (Heap.get?_push_size _ rfl) ?_ (nofr _ hsz) upd_same
    · refine ⟨_, by rw [upd_ne (ne_of_none hP nC), upd_same], by rw [eL]; exact PySem.TriplesOk_snoc _ _ _ _ ht, fun p' cv hcv => ?_⟩
      rw [eL] at hcv
      rcases among_app _ ht hcv with z | z
      · obtain ⟨c0, e1, e2⟩ := ha p' cv z
        exact ⟨c0, e1, hE.ext _ _ e2⟩
      · exact ⟨c', z, upd_same⟩
    · have n1 : h'.objs.size ≠ c' := Nat.ne_of_gt hlt
      have n2 : h'.objs.size ≠ P := Nat.ne_of_gt (Nat.lt_of_lt_of_le (Heap.lt_size hP') hsz)
      rw [upd_ne n1, upd_ne n2]
      exact I.hok.fresh hsz
  | some cv =>
    obtain ⟨c', e, hco⟩ := ha pos cv hc
    subst e
    refine PySem.W.kla_makeFunctionHit (mg := X.mg) (c := c) (P := P) (ps := ps) (closure_ok hfree) I.ok.glob (I.mod.glob.keeps I.bk) hcode (TB.code.keeps I.bk) hP' ht hc bP fun ctv h' tk hx hsz => ?_
    have I1 : Inv X pins σ H { s with heap := h'.push (PySem.W.kla_obj "<lambda>" (lq X) params body scope (cloFrom X.env.cells scope.names []) ((X.mg "__name__").getD .none) c' ctv), toks := tk } := I.kept fun b o e => Heap.get?_push_of_some _ (hx b o e)
    exact h h'.objs.size c' ((X.mg "__name__").getD .none) ctv H _ I1 (.refl _ _) ⟨ps, hP, ht, ha⟩ (Heap.get?_push_size _ rfl) (I.hok.fresh hsz) (nofr _ hsz) hco

/-- a lambda that stands is called -/
theorem lam_code {P : Program} {w : World} {K : PySem.W.Frag} {mg : Str → Option Value} {base : Heap} {CX : CXT} {N ps fr : List Str} {F : NF} {f : Addr} {ebody : Expr} {pm ctv : Value} {k : Nat} {A : Around} {outer : List PySem.Env} {s : Shared} {H : Hp} {us : List Value} {vs : List V} {ws : List (Option V)} {Q : VK} {E : XK} {tb : TE}
    (S : NScope N ps fr F.scope) (hr : Room (k + 1) A) (e0 : Env0 P w K mg base A outer s H) (hf : s.heap.get? f = some (PySem.W.kla_obj "<lambda>" F.qual F.params ebody F.scope F.cl pm F.c ctv)) (hc : H F.c = some (CodeO F.c F.qual)) (C : CellsAt F.cl fr ws s.heap H) (r : Vals vs us) (hl : vs.length = ps.length)
    (hb : ∀ (cl : List (Str × Addr)) (pm cv ctv : Value) (us : List Value), us.length = ps.length → bindArgs (PySem.W.kla_fn "<lambda>" F.qual F.params ebody F.scope cl pm cv ctv) ⟨us, []⟩ = pure (ps.zip us))
    (hbody : Room k (A.deeper (envF F f s.heap.objs.size)) → PE (ncx CX P w K mg base N F f A outer s H E) ebody tb) (hq : tb (startF N vs ws) H Q) : codeAny (model P w) A (.call (.ref f) ⟨us, []⟩) (CR CX outer P w H s Q E) s := by
  have lim : s.heap.NoLimit := e0.mod.nolimit.keeps fun b o e => (e0.bs b o e).1
  refine PySem.W.kla_callFunE hr.depth hf rfl S.co S.gen rfl (codeO_at e0.hok hc) ?_
  rw [hb _ _ _ _ us (by rw [← r.length]; exact hl)]
  refine wpAny_pure (wpAny_newFunctionEnv S.nocell (fun ⟨n, _⟩ hy => S.par n (List.of_mem_zip hy).1) (fun h₁ hns hsb => ⟨lim.fresh _ hsb, ?_⟩) S.kind)
  show codeAny _ _ (.expr ebody (envF F f s.heap.objs.size)) _ _
  have kp : ∀ b o, s.heap.get? b = some o → h₁.get? b = some o := fun b o e => hsb.extBut b o (Nat.ne_of_lt (Heap.lt_size e)) (Heap.get?_push_of_some _ e)
  have I : Inv (ncx CX P w K mg base N F f A outer s H E) [] (startF N vs ws) H { s with heap := h₁, toks := s.toks + (ps.zip us).length } := inv_startN S hr.hd e0 hl r C hns kp
  refine PySem.W.kla_codeExpr (wpAny_mono ((hbody (hr.deeper _)).run [] _ _ H Q I hq) (fun v s' hq => ?_) fun e s' hq => hq)
  obtain ⟨w', H', J', rv, q⟩ := hq
  exact ⟨w', H', J'.os, J'.bare, J'.base, J'.hok, rv, q⟩
/-- a(e, ..), a a name that holds the lambda -/
theorem pe_lamvar {X : Cx} {CX : CXT} {NL ps fr : List Str} {F : NF} {f : Addr} {ebody e : Expr} {es : List Expr} {pm ctv : Value} {k i : Nat} {a : Str} {t : TA} {tb : TE} {ws : List (Option V)} {E : XK} {p pos : Pos} (S : NScope NL ps fr F.scope) (hr : Room (k + 1) X.A)
    (St : ∀ (pins : List (Addr × Obj)) (σ : L2.St) (H : Hp) (s : Shared), Inv X pins σ H s → s.heap.get? f = some (PySem.W.kla_obj "<lambda>" F.qual F.params ebody F.scope F.cl pm F.c ctv) ∧ CellsAt F.cl fr ws s.heap H)
    (hb : ∀ (cl : List (Str × Addr)) (pm cv ctv : Value) (us : List Value), us.length = ps.length → bindArgs (PySem.W.kla_fn "<lambda>" F.qual F.params ebody F.scope cl pm cv ctv) ⟨us, []⟩ = pure (ps.zip us)) (hx : Passes CX X E)
    (hbody : ∀ (A : Around) (outer : List PySem.Env) (s : Shared) (H : Hp), Room k (A.deeper (envF F f s.heap.objs.size)) → PE (ncx CX X.prog X.w X.K X.mg X.base NL F f A outer s H E) ebody tb)
    (hN : X.N[i]? = some a) (hv : Vis X.env.scope a) (ha : PA X (e :: es) t) (hd : (a == ("__debug__" : Str)) = false := by decide) (hcd : (a == ("__classdict__" : Str)) = false := by decide)
    (he : starEach (e :: es) X.env = (false, eval e X.env) :: starEach es X.env := by rfl) (hpl : (backTo pos (starEach es X.env)).any (·.1) = false := by rfl) :
    PE X (.Call (.Name a p) (e :: es) [] pos) (fun σ H Q => σ[i]? = some (some (.ref f)) ∧ t σ H fun vs H1 => vs.length = ps.length ∧ H1 F.c = some (CodeO F.c F.qual) ∧ tb (startF NL vs ws) H1 Q) := by
  refine ⟨fun pins s σ H Q I h => ?_⟩
  obtain ⟨hs, ht⟩ := h
  refine wpAny_Call_Name_kw (thn ((pe_var (pos := p) hN hv hd hcd).run pins s σ H (fun v H1 => v = .ref f ∧ H1 = H) I ⟨.ref f, hs, rfl, rfl⟩) fun u s1 ⟨v, H1, I1, r1, q1⟩ => ?_)
  obtain ⟨ev, eH⟩ := q1
  subst ev
  rw [eH] at I1
  obtain rfl : u = Value.ref f := r1
  refine PySem.W.callWith_F (first := []) ⟨_, _, _, _, (St _ _ _ _ I1).1⟩ (thn (ha.run pos pins s1 σ H _ I1 ht) fun us s2 ⟨vs, H2, I2, r, hl, hc, q⟩ => ⟨⟨_, _, _, _, (St _ _ _ _ I2).1⟩, ?_⟩) he hpl
  show wpAny _ _ (call (.ref f) us) _ _ _
  have rc : codeAny (model X.prog X.w) X.A (.call (.ref f) ⟨us, []⟩) (CR CX X.stack X.prog X.w H2 s2 Q E) s2 :=
    lam_code (N := NL) (tb := tb) S hr I2.env0 (St _ _ _ _ I2).1 hc (St _ _ _ _ I2).2 r hl hb (fun hr' => hbody _ _ _ _ hr') q
  refine wpAny_call (codeAny_mono rc fun r s' hq => ?_)
  cases r with
  | error e => exact hx pins σ H2 s2 e s' I2 hq
  | ok fl =>
    cases fl with
    | ret u => exact I2.after hq
    | next => exact False.elim hq
    | brk => exact False.elim hq
    | cont => exact False.elim hq

/-! ### by data -/
/-- the lambda's answer: its arguments' data, the captured data, its own computation -/
def lamRun (fb : SE) (n : Nat) (wds : List D) (ds : List D) (π : Store) : Res (D × Store) := fb (ds.map some ++ (wds.map some ++ List.replicate (n - ds.length - wds.length) none)) π
def eLamv (f : Addr) (i : Nat) (np : Nat) (m : List D → Store → Res (D × Store)) (as : SA) : SE := fun ρ π => (gt ρ i).bind fun d => match d with
  | .fn b => if b = f then (as ρ π).bind fun x => if x.1.length = np then noX (m x.1 x.2) else .fail else .fail
  | _ => .fail
theorem start_lam {G : Gx} {M : Addr → Prop} {H : Hp} {N : List Str} {ds wds : List D} {vs wvs : List V} (r : DrL G M H ds vs) (rw_ : DrL G M H wds wvs) :
    (∀ (i : Nat) (d : D), (ds.map some ++ (wds.map some ++ List.replicate (N.length - ds.length - wds.length) none))[i]? = some (some d) → ∃ v : V, (startF N vs (wvs.map some) : List (Option V))[i]? = some (some v) ∧ Dr G M H d v) ∧
    (startF N vs (wvs.map some)).length = (ds.map some ++ (wds.map some ++ List.replicate (N.length - ds.length - wds.length) (none : Option D))).length := by
  have l1 := r.length
  have l2 := rw_.length
  refine ⟨fun i d h => ?_, by unfold startF; simp [l1, l2]⟩
  unfold startF
  by_cases h1 : i < ds.length
  · rw [List.getElem?_append_left (by simpa using h1), List.getElem?_map] at h
    rw [List.getElem?_append_left (by simpa [l1] using h1), List.getElem?_map]
    cases e : ds[i]? with
    | none => rw [e] at h; cases h
    | some d' =>
      rw [e] at h
      cases h
      obtain ⟨v, e1, r1⟩ := r.get e
      rw [e1]
      exact ⟨v, rfl, r1⟩
  · rw [List.getElem?_append_right (by simpa using h1), List.length_map] at h
    have ev : (vs.map some).length = ds.length := by rw [List.length_map]; exact l1
    have ew : (wvs.map some).length = wds.length := by rw [List.length_map]; exact l2
    rw [List.getElem?_append_right (by rw [ev]; omega), ev]
    by_cases h2 : i - ds.length < wds.length
    · rw [List.getElem?_append_left (by simpa using h2), List.getElem?_map] at h
      rw [List.getElem?_append_left (by rw [ew]; exact h2), List.getElem?_map]
      cases e : wds[i - ds.length]? with
      | none => rw [e] at h; cases h
      | some d' =>
        rw [e] at h
        cases h
        obtain ⟨v, e1, r1⟩ := rw_.get e
        rw [e1]
        exact ⟨v, rfl, r1⟩
    · rw [List.getElem?_append_right (by rw [List.length_map]; omega), List.getElem?_replicate] at h
      split at h <;> cases h
/-- a lambda that stands, with its captured data, in the def that calls it -/
structure LamAt (X : Cx) (Fr : Fx) (NL ps fr : List Str) (f : Addr) (ebody : Expr) (k : Nat) (fb : SE) (wds : List D) : Prop where
  ex : ∃ (L : NF) (pm ctv : Value) (wvs : List V), NScope NL ps fr L.scope ∧
    (∀ (pins : List (Addr × Obj)) (σ : L2.St) (H : Hp) (s : Shared), Inv X pins σ H s → s.heap.get? f = some (PySem.W.kla_obj "<lambda>" L.qual L.params ebody L.scope L.cl pm L.c ctv) ∧ CellsAt L.cl fr (wvs.map some) s.heap H) ∧
    (∀ (cl : List (Str × Addr)) (pm cv ctv : Value) (us : List Value), us.length = ps.length → bindArgs (PySem.W.kla_fn "<lambda>" L.qual L.params ebody L.scope cl pm cv ctv) ⟨us, []⟩ = pure (ps.zip us)) ∧
    Fr.H0 L.c = some (CodeO L.c L.qual) ∧ DrL (Fr.G.at Fr.ι0) (Mu Fr.M0 Fr.ι0 Fr.π0) Fr.H0 wds wvs ∧
    (∀ (A : Around) (outer : List PySem.Env) (s : Shared) (H : Hp) (M : Addr → Prop) (Hx : Hp) (ι : List Addr) (π : Store), Room k (A.deeper (envF L f s.heap.objs.size)) → PE (ncx (L2.CX X.prog X.w) X.prog X.w X.K X.mg X.base NL L f A outer s H EN) ebody (tX ⟨Fr.G, M, Hx, ι, π⟩ EN fb))
theorem x_lamv {X : Cx} {F : Fx} {E : XK} {NL ps fr : List Str} {f : Addr} {ebody e : Expr} {es : List Expr} {k i : Nat} {a : Str} {as : SA} {fb : SE} {wds : List D} {p pos : Pos} (Lm : LamAt X F NL ps fr f ebody k fb wds) (hr : Room (k + 1) X.A)
    (ha : PA X (e :: es) (tXA F E as)) (hN : X.N[i]? = some a := by rfl) (hv : Vis X.env.scope a := by first | exact Or.inl rfl | exact Or.inr (Or.inl rfl) | exact Or.inr (Or.inr rfl)) (hd : (a == ("__debug__" : Str)) = false := by decide) (hcd : (a == ("__classdict__" : Str)) = false := by decide)
    (he : starEach (e :: es) X.env = (false, eval e X.env) :: starEach es X.env := by rfl) (hpl : (backTo pos (starEach es X.env)).any (·.1) = false := by rfl) :
    PE X (.Call (.Name a p) (e :: es) [] pos) (tX F E (eLamv f i ps.length (lamRun fb NL.length wds) as)) := by
  obtain ⟨L, pm, ctv, wvs, S, St, hb, hco, hw, hbody⟩ := Lm.ex
  refine (pe_lamvar (CX := L2.CX X.prog X.w) (E := EN) (k := k) (tb := fun σ H Q => ∃ m : (Addr → Prop) × Hp × List Addr × Store, tX ⟨F.G, m.1, m.2.1, m.2.2.1, m.2.2.2⟩ EN fb σ H Q) S hr St hb passL
    (fun A outer s H hr' => PE.ex fun m => hbody A outer s H m.1 m.2.1 m.2.2.1 m.2.2.2 hr') hN hv ha hd hcd he hpl).weak fun σ H Q h => ?_
  obtain ⟨ι, ρ, π, A, h⟩ := h
  have h := Go.bind h
  cases eg : gt ρ i with
  | fail => rw [eg] at h; exact h.elim
  | xc c d => exact absurd eg gt_xc
  | ok d =>
    rw [eg] at h
    cases d with
    | fn b =>
      replace h : Go F E (if b = f then (as ρ π).bind fun x => if x.1.length = ps.length then noX (lamRun fb NL.length wds x.1 x.2) else .fail else .fail) _ := h
      by_cases eb : b = f
      case neg => rw [if_neg eb] at h; exact h.elim
      rw [if_pos eb] at h
      have h2 := Go.bind h
      clear h
      subst eb
      obtain ⟨v, e1, r1⟩ := A.val i _ (gt_some eg)
      obtain rfl : v = .ref b := r1
      refine ⟨e1, ι, ρ, π, A, Go.mono (fun q hq vs ι1 H1 A1 e2 r2 => ?_) h2⟩
      split at hq
      · rename_i hl
        refine ⟨by rw [r2.length]; exact hl, A1.wo.gr.ev.ext _ _ hco, ⟨F.M0, H1, ι1, q.2⟩, ?_⟩
        have rw1 := DrL.gr A1.wo.gr (fun _ z => z.elim) hw
        obtain ⟨sv, sl⟩ := start_lam (N := NL) r2 rw1
        refine ⟨ι1, _, q.2, ⟨sv, ⟨A1.wo.wd, .refl _ _ _ _⟩, sl⟩, ?_⟩
        have hq : Go F E (noX (fb _ q.2)) (Kv F ι σ ρ π H Q) := hq
        exact Go.noX (F := F) (E := E) (Go.mono (fun y hy v ι2 H2 A2 e3 r3 => hy v ι2 H2 (A1.go' e3 A2.wo.wd) (e2.trans e3) r3) hq)
      · exact hq.elim
    | _ => exact h.elim
end Ph
end
section
set_option Elab.async false
set_option linter.all false
set_option maxRecDepth 100000
set_option maxHeartbeats 2000000
/-! Ph, part P: x(e, lambda ..), x a def that calls what it got. -/
namespace Ph
open PySem PySem.Spec PyProof.Rows L2 LamX NdefX

theorem cells_un {cl : List (Str × Addr)} {fr : List Str} {ws : List (Option V)} {h h' : Heap} {H H' : Hp} {fs : List Addr} (C : CellsAt cl fr ws h H) (u : Un fs [] H H' h h') : CellsAt cl fr ws h' H' := by
  have cellK : ∀ {c : Addr} {v : Option Value}, H c = none → h.IsCell c v → h'.IsCell c v := fun {c v} n ⟨o, ho, hd⟩ => by
    obtain ⟨sl, q⟩ := u.any ho n (by simp)
    exact ⟨_, q, hd⟩
  refine ⟨C.len, fun y c e => ?_, C.inj, fun i y e => ?_⟩
  · obtain ⟨n, v, z⟩ := C.all y c e
    obtain ⟨o, ho, hd⟩ := id z
    exact ⟨u.free c o ho n (by simp), v, cellK n z⟩
  · obtain ⟨c, hc, hv⟩ := C.has i y e
    refine ⟨c, hc, fun v hw => ?_⟩
    obtain ⟨w, rw_, z⟩ := hv v hw
    exact ⟨w, rw_, cellK (C.all y c hc).1 z⟩
/-- several names' data -/
def gts (ρ : En) : List Nat → Res (List D)
  | [] => .ok []
  | j :: js => (gt ρ j).bind fun d => (gts ρ js).bind fun r => .ok (d :: r)
theorem gts_xc {ρ : En} : ∀ {js : List Nat} {c : Nat} {d : D} {π : Store}, gts ρ js ≠ .xc c d π
  | [], _, _, _ => fun z => nomatch z
  | j :: js, c, d, π => by
    unfold gts
    cases e : gt ρ j with
    | fail => exact fun z => nomatch z
    | xc _ _ => exact absurd e gt_xc
    | ok a =>
      simp only [Res.bind_ok]
      cases e2 : gts ρ js with
      | fail => exact fun z => nomatch z
      | xc _ _ => exact absurd e2 gts_xc
      | ok r => exact fun z => nomatch z
theorem gts_v {F : Fx} {ι : List Addr} {σ : L2.St} {ρ : En} {π : Store} {H : Hp} (A : At F ι σ ρ π H) : ∀ {js : List Nat} {wds : List D}, gts ρ js = .ok wds → ∃ wvs, js.map (slotAt σ) = wvs.map some ∧ DrL (F.G.at ι) (Mu F.M0 ι π) H wds wvs
  | [], wds, h => by cases h; exact ⟨[], rfl, rfl⟩
  | j :: js, wds, h => by
    unfold gts at h
    cases e : gt ρ j with
    | fail => rw [e] at h; cases h
    | xc _ _ => exact absurd e gt_xc
    | ok a =>
      rw [e] at h
      simp only [Res.bind_ok] at h
      cases e2 : gts ρ js with
      | fail => rw [e2] at h; cases h
      | xc _ _ => exact absurd e2 gts_xc
      | ok r =>
        rw [e2] at h
        cases h
        obtain ⟨wvs, h1, h2⟩ := gts_v A e2
        obtain ⟨v, h3, h4⟩ := A.val j a (gt_some e)
        exact ⟨v :: wvs, by rw [List.map_cons, List.map_cons, h1, slotAt_of h3], .cons h4 h2⟩
/-- the n-th table of lambdas stands in the n-th cell -/
def tabOk (n : Nat) (q : Str) (π : Store) : Res Unit := match (π[n]? : Option Cell) with
  | some (.tab a r) => if a = n ∧ r = q then .ok () else .fail
  | _ => .fail
theorem tabOk_cases (n : Nat) (q : Str) (π : Store) : (π[n]? = some (.tab n q) ∧ tabOk n q π = .ok ()) ∨ tabOk n q π = .fail := by
  unfold tabOk
  cases e : π[n]? with
  | none => exact .inr rfl
  | some c =>
    cases c with
    | tab a r =>
      dsimp only
      by_cases h : a = n ∧ r = q
      · rw [if_pos h]
        obtain ⟨rfl, rfl⟩ := h
        exact .inl ⟨rfl, rfl⟩
      · rw [if_neg h]; exact .inr rfl
    | _ => exact .inr rfl
def eCallLam (n : Nat) (q : Str) (js : List Nat) (gW : List D → D → Store → Res (D × Store)) (e : SE) : SE := fun ρ π => (gts ρ js).bind fun wds => (e ρ π).bind fun p => (tabOk n q p.2).bind fun _ => noX (gW wds p.1 p.2)
theorem set_same {α : Type} {l : List α} {i : Nat} {x : α} (h : l[i]? = some x) : l.set i x = l := by
  refine List.ext_getElem? fun j => ?_
  by_cases e : i = j
  · subst e
    rw [List.getElem?_set_self (List.getElem?_eq_some_iff.mp h).1, h]
  · rw [List.getElem?_set_ne e]
theorem x_callLam {X : Cx} {F : Fx} {E : XK} {x : Str} {e1 ebody : Expr} {params : Arguments} {scope : Scope} {lpos p pos : Pos} {fe : SE} {c g : Addr} {n k : Nat} {st : Stmt} {Ng psg NL ps fr : List Str} {fd : FuncData} {js : List Nat} {fsw : Addr → List D → SS} {gW : List D → D → Store → Res (D × Store)} {fb : SE}
    (Fn : Fun X.K x x st g fd) (hm : X.mg x = some (.ref g)) (Sg : FnScope Ng psg (defScope st)) (hpl2 : psg.length = 2) (hbg : BindsH x x st psg)
    (TB : TabB X.base X.mg c (F.G.tabA n)) (hcode : X.env.code = .ref c) (he : PE X e1 (tX F E fe)) (hr : Room (k + 1) X.A)
    (S : NScope NL ps fr scope) (hfree : ∀ y ∈ scope.names, y.2 = .free → X.env.scope.names.lookup y.1 = some .cell ∨ X.env.scope.names.lookup y.1 = some .free) (hfr : ∀ y ∈ fr, (y, NameKind.free) ∈ scope.names) (hjs : js.map (fun j => X.N[j]?) = fr.map some)
    (hdef : defaultsOf params X.env = ([], []))
    (hb : ∀ (q : Str) (cl : List (Str × Addr)) (pm cv ctv : Value) (us : List Value), us.length = ps.length → bindArgs (PySem.W.kla_fn "<lambda>" q params ebody scope cl pm cv ctv) ⟨us, []⟩ = pure (ps.zip us))
    (hbody : ∀ (kk : Nat) (L : NF) (f : Addr) (A : Around) (outer : List PySem.Env) (s : Shared) (H : Hp) (M : Addr → Prop) (Hx : Hp) (ι : List Addr) (π : Store), kk + 2 = k → L.scope = scope → Room kk (A.deeper (envF L f s.heap.objs.size)) → PE (ncx (L2.CX X.prog X.w) X.prog X.w X.K X.mg X.base NL L f A outer s H EN) ebody (tX ⟨F.G, M, Hx, ι, π⟩ EN fb))
    (bodyg : ∀ (kk : Nat) (cdv : Value) (A : Around) (outer : List PySem.Env) (s : Shared) (H : Hp) (M : Addr → Prop) (ι : List Addr) (π : Store) (f : Addr) (wds : List D), kk + 2 = k → Room (kk + 2) (A.deeper (envOfC x (defScope st) s.heap.objs.size g cdv)) →
      LamAt (cxOf (L2.CX X.prog X.w) X.prog X.w X.K X.mg X.base Ng x (defScope st) g cdv A outer s H EN) ⟨F.G, M, H, ι, π⟩ NL ps fr f ebody kk fb wds →
      PSs (cxOf (L2.CX X.prog X.w) X.prog X.w X.K X.mg X.base Ng x (defScope st) g cdv A outer s H EN) (defBody st) (tS ⟨F.G, M, H, ι, π⟩ EN (fsw f wds)))
    (sem : ∀ (wds : List D) (d : D) (π : Store) (f : Addr), gW wds d π ≠ .fail → sRun (fsw f wds) Ng.length [d, .fn f] π = gW wds d π)
    (hk : ∃ kk, kk + 2 = k) (hg : Gl X x := by rfl) (hdb : (x == ("__debug__" : Str)) = false := by decide)
    (hs1 : starEach [e1, .Lambda params ebody scope lpos] X.env = (false, eval e1 X.env) :: starEach [.Lambda params ebody scope lpos] X.env := by rfl)
    (hs2 : starEach [.Lambda params ebody scope lpos] X.env = (false, eval (.Lambda params ebody scope lpos) X.env) :: starEach [] X.env := by rfl) :
    PE X (.Call (.Name x p) [e1, .Lambda params ebody scope lpos] [] pos) (tX F E (eCallLam n (lq X) js gW fe)) := by
  refine ⟨fun pins s σ H Q I h => ?_⟩
  obtain ⟨ι, ρ, π, A, h⟩ := h
  have h := Go.bind h
  cases egs : gts ρ js with
  | fail => rw [egs] at h; exact h.elim
  | xc _ _ _ => exact absurd egs gts_xc
  | ok wds =>
    rw [egs] at h
    have h := Go.bind (show Go F E ((fe ρ π).bind fun p => (tabOk n (lq X) p.2).bind fun _ => noX (gW wds p.1 p.2)) _ from h)
    refine wpAny_Call_Name_kw (ld_glob I hg hm ?_ hdb)
    have hpl : (backTo pos (starEach [.Lambda params ebody scope lpos] X.env)).any (·.1) = false := by rw [hs2]; rfl
    refine PySem.W.callWith_K (h₀ := X.base) I.ok.mod.kin Fn.kp ?_ hs1 hpl
    rw [hs1, hs2]
    show wpAny _ _ (spliced ((false, eval e1 X.env) :: (false, eval (.Lambda params ebody scope lpos) X.env) :: backTo pos (starEach [] X.env))) _ _ s
    have hf2 : ∀ y ∈ scope.names, y.2 = .free → ∃ c, X.env.cells.lookup y.1 = some c := fun y hy e => (hfree y hy e).elim (fun z => I.ok.has _ (.inl z)) fun z => I.ok.has _ (.inr z)
    refine Calls.spliced_cons (thn (he.run pins s σ H (fun v H1 => ∃ (ι1 : List Addr) (q : D × Store), At F ι1 σ ρ q.2 H1 ∧ Gr Nm ι π H ι1 q.2 H1 ∧ Dr (F.G.at ι1) (Mu F.M0 ι1 q.2) H1 q.1 v ∧ Go F E ((tabOk n (lq X) q.2).bind fun _ => noX (gW wds q.1 q.2)) (Kv F ι σ ρ π H Q)) I
      ⟨ι, ρ, π, A, Go.mono (fun q hq v ι1 H1 A1 e1 r1 => ⟨ι1, q, A1, e1, r1, hq⟩) h⟩) fun u1 s1 ⟨v1, H1, I1, r1, ι1, q, A1, g1, rd, hq⟩ => ?_)
    rcases tabOk_cases n (lq X) q.2 with ⟨e0, et⟩ | et
    case inr => rw [et] at hq; exact hq.elim
    rw [et] at hq
    have hq : Go F E (noX (gW wds q.1 q.2)) (Kv F ι σ ρ π H Q) := hq
    obtain ⟨P', eP, eP', hT⟩ := A1.wo.wd.cel n _ e0
    have eP' : P' = F.G.tabA n := eP'
    subst eP'
    refine Calls.spliced_cons (lam_make3 I1 TB hcode hT hdef hf2 fun f c' pm' ctv H2 s2 I2 ev T2 hf hfn hfrs hco => ?_)
    refine Calls.spliced_nil ⟨I2.kIn, ?_⟩
    have hg0 : (Cell.tab n (lq X)) ≠ .gone := fun z => nomatch z
    have gP : Gr Nm ι1 q.2 H1 ι1 (q.2.set n (.tab n (lq X))) H2 := .put eP e0 hg0 ev
    have A2 : At F ι1 σ ρ (q.2.set n (.tab n (lq X))) H2 := A1.putC eP e0 hg0 ev ⟨rfl, T2⟩
    rw [set_same e0] at gP A2
    have rd2 := Dr.gr gP (fun _ z => z.elim) rd
    obtain ⟨oc, od, kV, doc, pm, an, cdv, ct, osl, efd, lk, hcd⟩ := Fn.ex
    obtain ⟨kk, hkk⟩ := hk
    have nf : gW wds q.1 q.2 ≠ .fail := fun z => by rw [z] at hq; exact hq
    obtain ⟨wvs, hwv, rw_⟩ := gts_v A2 egs
    have C2 : CellsAt (cloFrom X.env.cells scope.names []) fr (wvs.map some) s2.heap H2 := by
      rw [← hwv]
      exact cells_of I2 (Caps.made I2.ok hfree hfr hjs)
    rw [efd] at lk
    have rc : codeAny (model X.prog X.w) X.A (.call (.ref g) ⟨[u1, .ref f], []⟩) (CR (L2.CX X.prog X.w) X.stack X.prog X.w H2 s2 Q EN) s2 := by
      refine run_ofS (N := Ng) (ps := psg) (us := [u1, .ref f]) (vs := [v1, .ref f]) lk hcd Sg hr I2.env0 (by rw [← efd]; exact Fn.binds hbg s2 [u1, .ref f] I2.kIn (by rw [hpl2]; rfl)) (.cons r1 (.cons rfl .nil)) (by rw [hpl2]; rfl) fun hr' => ?_
      have hz : Un (frs X.stack) [] H2 H2 s2.heap s2.heap := Un.kept fun b o e => e
      have Lm : LamAt (cxOf (L2.CX X.prog X.w) X.prog X.w X.K X.mg X.base Ng x (defScope st) g cdv X.A X.stack s2 H2 EN) ⟨F.G, F.M0, H2, ι1, q.2⟩ NL ps fr f ebody kk fb wds := by
        refine ⟨⟨"<lambda>", lq X, params, [], scope, cloFrom X.env.cells scope.names [], c'⟩, pm', ctv, wvs, S, fun pins3 σ3 H3 s3 I3 => ⟨I3.base.keep f _ hf hfn hfrs (fun z => nomatch (show f ∈ ([] : List Addr) from z)), cells_un C2 I3.base⟩, hb (lq X), hco, rw_, fun A3 outer3 s3 H3 M3 Hx3 ι3 π3 hr3 => hbody kk _ f A3 outer3 s3 H3 M3 Hx3 ι3 π3 hkk rfl hr3⟩
      refine ⟨_, bodyg kk cdv X.A X.stack s2 H2 F.M0 ι1 q.2 f wds hkk (by rw [hkk]; exact hr') Lm, ?_⟩
      refine core_of (g := fun ds π => match ds with
        | d :: _ => gW wds d π
        | [] => .fail) (ds := [q.1, .fn f]) A2.wo.wd (.cons rd2 (.one rfl)) nf ?_ (sem wds q.1 q.2 f nf)
      show match gW wds q.1 q.2 with
        | .fail => False
        | .ok d => ∀ v ι' H', Gr Nm ι1 q.2 H2 ι' d.2 H' → Wd F.G F.M0 ι' d.2 H' → Dr (F.G.at ι') (Mu F.M0 ι' d.2) H' d.1 v → Q v H'
        | .xc c d π' => Xk F.G F.M0 EN ι1 q.2 H2 c d π'
      cases eg : gW wds q.1 q.2 with
      | fail => exact absurd eg nf
      | xc c d π' =>
        rw [eg] at hq
        exact hq.elim
      | ok r =>
        rw [eg] at hq
        have hq : Kv F ι σ ρ π H Q r := hq
        exact fun v ι' H' g' W' rv => hq v ι' H' (A2.go' g' W') ((g1.trans gP).trans g') rv
    refine wpAny_call (codeAny_mono rc fun r s3 hq3 => ?_)
    cases r with
    | error e =>
      obtain ⟨_, _, _, _, _, _, _, _, _, _, _, _, z⟩ := hq3
      exact z.elim
    | ok fl =>
      cases fl with
      | ret u => exact I2.after hq3
      | next => exact False.elim hq3
      | brk => exact False.elim hq3
      | cont => exact False.elim hq3
/-- a def whose code object is known -/
structure FunC (K : PySem.W.Frag) (x qual : Str) (st : Stmt) (f : Addr) (fd : FuncData) (c : Addr) : Prop where
  ex : ∃ (oc : Value) (od : Option Addr) (kV doc pm : Value) (an : Option Addr) (ct : Value) (osl : Array (Option Value)),
    fd = PySem.W.fnOf x qual (defArgs st) (defBody st) (defScope st) .none kV doc pm an (.ref c) ct ∧ K.lookup f = some ⟨oc, od, .func fd, osl⟩ ∧ PySem.W.codeIn K (.ref c) qual = true
  kp : PySem.W.keepIn K (.ref f) = true
theorem FunC.toFun {K : PySem.W.Frag} {x qual : Str} {st : Stmt} {f : Addr} {fd : FuncData} {c : Addr} (F : FunC K x qual st f fd c) : Fun K x qual st f fd := by
  obtain ⟨oc, od, kV, doc, pm, an, ct, osl, h1, h2, h3⟩ := F.ex
  exact ⟨⟨oc, od, kV, doc, pm, an, .ref c, ct, osl, h1, h2, h3⟩, F.kp⟩
abbrev BodyC (P : Program) (w : World) (K : PySem.W.Frag) (mg : Str → Option Value) (base : Heap) (N : List Str) (qual : Str) (scope : Scope) (G : Gx) (k : Nat) (body : List Stmt) (fs : SS) (c : Addr) : Prop :=
  ∀ (f : Addr) (A : Around) (outer : List PySem.Env) (s : Shared) (H : Hp) (E : XK) (M : Addr → Prop) (ι : List Addr) (π : Store), Room k (A.deeper (envOfC qual scope s.heap.objs.size f (.ref c))) →
      PSs (cxOf (L2.CX P w) P w K mg base N qual scope f (.ref c) A outer s H E) body (tS ⟨G, M, H, ι, π⟩ E fs)
theorem df_ofC {P : Program} {w : World} {K : PySem.W.Frag} {mg : Str → Option Value} {base : Heap} {x qual : Str} {st : Stmt} {N ps : List Str} {k : Nat} {G : Gx} {fs : SS} {g : List D → Store → Res (D × Store)} {c : Addr} (Fn : ∃ f fd, FunC K x qual st f fd c ∧ mg x = some (.ref f)) (S : FnScope N ps (defScope st)) (hb : BindsH x qual st ps)
    (body : BodyC P w K mg base N qual (defScope st) G k (defBody st) fs c) (hlen : ∀ ds π, g ds π ≠ .fail → ds.length = ps.length) (sem : ∀ ds π, g ds π ≠ .fail → sRun fs N.length ds π = g ds π) : Df P w K mg base (k + 1) x [] (spS G g) := by
  obtain ⟨f, fd, F, hm⟩ := Fn
  refine ⟨f, fd, ps, [], ?_, hm, F.kp, F.toFun.binds hb, .nil⟩
  obtain ⟨oc, od, kV, doc, pm, an, ct, osl, rfl, lk, hcd⟩ := F.ex
  refine fn_of lk hcd S (fun vs H Q E h => ?_) fun A outer s H vs Q E hr h => ?_
  · obtain ⟨M, ι, π, ds, r, n⟩ := spS_out h
    rw [r.length]
    exact hlen ds π n
  · obtain ⟨M, ι, π, ds, W, r, h⟩ := h
    have n : g ds π ≠ .fail := fun z => by rw [z] at h; exact h
    exact ⟨_, body f A outer s H E M ι π hr, core_of W r n h (sem ds π n)⟩
end Ph
end
section
set_option Elab.async false
set_option linter.all false
set_option maxRecDepth 100000
set_option maxHeartbeats 2000000
/-! Ph, part Q: try with several clauses, some of them named (HandS has many unnamed ones, or one named one; the steps are turned from there). -/
namespace Ph
open PySem PySem.Spec PyProof.Rows L2

/-- the ends behind a named clause's suite: the name is gone -/
abbrev endsN (i : Nat) (D : Ends) : Ends := { nx := fun σ' H' => D.nx (σ'.set i none) H', rt := D.rt, bk := fun σ' H' => D.bk (σ'.set i none) H', ct := fun σ' H' => D.ct (σ'.set i none) H' }
abbrev Cls_ := Value × Option Nat × (Addr → Value → Option Addr → TS)
/-- what the clauses wish of an exception of the body -/
def wMix (K : PySem.W.Frag) (Wout : WX) (D : Ends) : List Cls_ → WX
  | [] => Wout
  | (c, none, ts) :: r => fun cls d σ H => ∃ b, PySem.W.exmOne K cls c = some b ∧ (b = true → ∀ a, H a = none → ts a cls d D σ H) ∧ (b = false → wMix K Wout D r cls d σ H)
  | (c, some i, ts) :: r => fun cls d σ H => ∃ b, PySem.W.exmOne K cls c = some b ∧ (b = true → ∀ a, H a = none → i < σ.length → ts a cls d (endsN i D) (σ.set i (some (.ref a))) H) ∧ (b = false → wMix K Wout D r cls d σ H)
inductive HdsM (X : Cx) : List ExceptHandler → List Cls_ → Prop
  | nil : HdsM X [] []
  | plain {x : Str} {c : Value} {ts : Addr → Value → Option Addr → TS} {b₀ : Stmt} {suite : List Stmt} {np pos' : Pos} {hds : List ExceptHandler} {l : List Cls_} (hc : Names X x c)
      (hsu : ∀ (a : Addr) (oe : Obj) (cls : Value) (d : Option Addr) (pn : List (Addr × Obj)), Zc cls d oe → (∃ vs, oe.data = .fields vs) → PSs (X.suite a ((a, oe) :: pn)) (b₀ :: suite) (ts a cls d)) (r : HdsM X hds l) :
      HdsM X (.ExceptHandler (some (.Name x np)) none (b₀ :: suite) pos' :: hds) ((c, none, ts) :: l)
  | named {x n : Str} {c : Value} {i : Nat} {ts : Addr → Value → Option Addr → TS} {b₀ : Stmt} {suite : List Stmt} {np pos' : Pos} {hds : List ExceptHandler} {l : List Cls_} (hi : X.N[i]? = some n) (hln : X.env.kindOf n = some .local) (hc : Names X x c)
      (hsu : ∀ (a : Addr) (oe : Obj) (cls : Value) (d : Option Addr) (pn : List (Addr × Obj)), Zc cls d oe → (∃ vs, oe.data = .fields vs) → PSs (X.suite a ((a, oe) :: pn)) (b₀ :: suite) (ts a cls d)) (r : HdsM X hds l) :
      HdsM X (.ExceptHandler (some (.Name x np)) (some n) (b₀ :: suite) pos' :: hds) ((c, some i, ts) :: l)
section
variable {X : Cx} {body : List Stmt} {h₀ : ExceptHandler} {hds : List ExceptHandler} {l : List Cls_} {pos : Pos} {tb : WX → TS} {Wout : WX}
theorem ps_try_mix (hs : X.stack = X.env :: X.outer) (hf : X.env.frame = some X.env.locals) (hN : X.N.Nodup) (tk : Takes X Wout)
    (hb : ∀ (W : WX) (pn : List (Addr × Obj)) (xe : Value → Shared → Prop), Takes (X.tr pn xe) W → PassesOwn (model X.prog X.w) X.A X.env xe → PSs (X.tr pn xe) body (tb W))
    (hh : HdsM X (h₀ :: hds) l) : PS X (.Try body (h₀ :: hds) [] [] pos) (fun D σ H => tb (wMix X.K Wout D l) D σ H) := by
  refine ⟨fun pins s σ H D I h => ?_⟩
  have ok := I.ok
  have hfr : X.A.frames = some (X.env :: X.outer) := by rw [ok.frames, hs]
  refine wpAny_Try_except ?_
  refine wpAny_mono ((hb (wMix X.K Wout D l) (X.pn ++ pins) (fun e s₁ => wpAny (model X.prog X.w) X.A (noteFrame e X.env) (fun _ s₂ => wpAny (model X.prog X.w) X.A (setFlight e none) (fun _ s₃ =>
    wpAny (model X.prog X.w) X.A (handleBy e X.env (h₀ :: hds)) (SP X pins D) X.xe s₃) X.xe s₂) X.xe s₁) (fun u s' xx => ?_) PassesOwn.looking).run [] s σ H D (I.toTry _) h) (fun f s1 hsp => ?_) (fun e s1 he => he)
  · obtain ⟨a, B, sI, pins', σ', H', cls, d, rfl, J', nb, up, sky, na, os, ag, w⟩ := xx
    have J : Inv X pins σ' H' sI := J'.ofTry ok
    have sky' : Sky B (X.env :: X.outer) a (Zc cls d) X.env.locals s'.heap := by rw [← hs]; exact sky
    show wpAny (model X.prog X.w) X.A (noteFrame (.ref a) X.env) _ _ _
    refine Sky.land Zc.steady hfr hf sky' fun h3 fl3 up3 => ?_
    have J3 : Inv X pins σ' H' { s' with heap := h3 } := J.landed nb fl3.1 (up.trans up3) os ag
    obtain ⟨oe3, vs3, he3, hz3, hd3⟩ := fl3.there
    have notFr : ∀ {h : Heap} {o : Obj} {vs : Array Value}, h.FunFrames B (X.env :: X.outer) → h.get? a = some o → o.data = .fields vs → a ∉ frs (X.env :: X.outer) := fun {h o vs} ff e dd hm => by
      obtain ⟨_, o', e', hnf⟩ := ff.mem hm
      rw [e] at e'; cases e'
      exact hnf _ dd
    have nfr := notFr fl3.2.2.1 he3 hd3
    have nL : a ≠ X.env.locals := fun z => nfr (List.mem_filterMap.mpr ⟨X.env, List.mem_cons_self, by rw [hf, z]⟩)
    have nF : a ∉ X.fs := fun hm => by
      obtain ⟨e, he, q⟩ := List.mem_filterMap.mp hm
      exact nfr (List.mem_filterMap.mpr ⟨e, List.mem_cons_of_mem _ he, q⟩)
    have S3 := J3.suite he3 hd3 na nL nF
    have LT : PySem.W.Looks (model X.prog X.w) h3 (typeOf (.ref a)) cls := fun A Q E s k q => wpAny_typeOf_ref (k _ _ he3) (by rw [hz3.1]; exact q)
    have test : ∀ {x : Str} {c : Value} {np : Pos} {Q : Value → Shared → Prop} {E : Value → Shared → Prop}, Names X x c → Q c { s' with heap := h3 } → wpAny (model X.prog X.w) (X.A.mark (some (.ref a))) (eval (.Name x np) X.env) Q E { s' with heap := h3 } := fun {x c np Q E} hc q => by
      obtain ⟨hg, hdbg, hm | ⟨hm, hv, hnn⟩⟩ := hc
      · exact ld_glob (X := X.suite a ((a, oe3) :: (X.pn ++ pins))) S3 hg hm q hdbg
      · exact ld_blt (X := X.suite a ((a, oe3) :: (X.pn ++ pins))) S3 hg hm hv q hnn hdbg
    have go : ∀ {hds' : List ExceptHandler} {l' : List Cls_}, HdsM X hds' l' → wMix X.K Wout D l' cls d σ' H' →
        wpAny (model X.prog X.w) X.A (handleBy (.ref a) X.env hds') (SP X pins D) X.xe { s' with heap := h3 } := by
      intro hds' l' hk
      induction hk with
      | nil =>
        intro w
        refine wpAny_handleBy_nil ?_
        obtain ⟨k1, k2, k3, oe, vs, T, oT, ts', he, hz, hd, h1, hr⟩ := id fl3
        unfold PySem.passOn
        refine wpAny_bind (wpAny_field he hd h1 ?_)
        rw [if_neg (show ¬ ((Value.ref T == Value.none) = true) from by simp)]
        have fin : wpAny (model X.prog X.w) X.A (setFlight (.ref a) X.env.frame) (fun _ s4 => wpAny (model X.prog X.w) X.A (throw (.ref a) : Sem Flow) (SP X pins D) X.xe s4) X.xe { s' with heap := h3 } := by
          rw [hf]
          refine HandSPX.setFlight_upZ fl3 fun h4 hh4 up4 => wpAny_throw (tk _ _ ?_)
          exact ⟨a, B, sI, pins, σ', H', cls, d, rfl, J, nb, (up.trans up3).trans up4, .inr (.inr (by rw [hs]; exact hh4)), na, os, ag, w⟩
        first
          | exact wpAny_bind (wpAny_pure (wpAny_bind fin))
          | exact wpAny_bind fin
      | @plain x c ts b₀ suite np pos' hds2 l2 hc hsu r ih =>
        intro w
        obtain ⟨b, hb1, hyes, hno⟩ := w
        refine wpAny_handleBy_cons (codeAny_handlers_test ?_) (by intro q; cases q)
        have LM := PySem.W.exm_one (M := model X.prog X.w) (J3.kIn) LT hb1
        refine test hc (LM.here ?_)
        cases b with
        | true =>
          refine codeAny_handlers_suite ?_
          refine HandSPX.lands_againZ fl3 fun h4 fl4 up4 => ?_
          have J4 : Inv X pins σ' H' { s' with heap := h4 } := J.landed nb fl4.1 ((up.trans up3).trans up4) os ag
          obtain ⟨oe4, vs4, he4, hz4, hd4⟩ := fl4.there
          have S4 := J4.suite he4 hd4 na nL nF
          refine wpAny_mono ((hsu a oe4 cls d (X.pn ++ pins) hz4 ⟨_, hd4⟩).run [] _ _ H' _ S4 (hyes rfl a na)) (fun f s6 hsp => ?_) (fun _ _ z => False.elim z)
          cases f with
          | next =>
            obtain ⟨σ6, H6, S6, q6⟩ := hsp
            exact ⟨_, _, S6.unsuite ok, q6⟩
          | brk =>
            obtain ⟨σ6, H6, S6, q6⟩ := hsp
            exact ⟨_, _, S6.unsuite ok, q6⟩
          | cont =>
            obtain ⟨σ6, H6, S6, q6⟩ := hsp
            exact ⟨_, _, S6.unsuite ok, q6⟩
          | ret u =>
            obtain ⟨v6, σ6, H6, S6, r6, q6⟩ := hsp
            exact ⟨_, _, _, S6.unsuite ok, r6, q6⟩
        | false =>
          show wpAny _ X.A (handleBy (.ref a) X.env hds2) _ _ _
          exact ih (hno rfl)
      | @named x n c i ts b₀ suite np pos' hds2 l2 hi hln hc hsu r ih =>
        intro w
        obtain ⟨b, hb1, hyes, hno⟩ := w
        have hloc : Loc X.env.scope n := .inl hln
        refine wpAny_handleBy_cons (codeAny_handlers_test ?_) (by intro q; cases q)
        have LM := PySem.W.exm_one (M := model X.prog X.w) (J3.kIn) LT hb1
        refine test hc (LM.here ?_)
        cases b with
        | true =>
          refine codeAny_handlers_suite_as ?_
          refine HandSPX.lands_againZ fl3 fun h4 fl4 up4 => ?_
          have J4 : Inv X pins σ' H' { s' with heap := h4 } := J.landed nb fl4.1 ((up.trans up3).trans up4) os ag
          obtain ⟨oe4, vs4, he4, hz4, hd4⟩ := fl4.there
          have S4 := J4.suite he4 hd4 na nL nF
          refine store_ok (X := X.suite a ((a, oe4) :: (X.pn ++ pins))) (v := .ref a) S4 hN hi hloc rfl (fun s5 S5 => ?_) (.inr hln)
          refine wpAny_mono ((hsu a oe4 cls d (X.pn ++ pins) hz4 ⟨_, hd4⟩).run [] s5 _ H' _ S5 (hyes rfl a na (by rw [J4.len]; exact (List.getElem?_eq_some_iff.mp hi).1))) (fun f s6 hsp => ?_) (fun _ _ z => False.elim z)
          have end_ : ∀ {σ6 : L2.St} {H6 : Hp} {Q : Shared → Prop}, Inv (X.suite a ((a, oe4) :: (X.pn ++ pins))) [] σ6 H6 s6 → (∀ s7, Inv X pins (σ6.set i none) H6 s7 → Q s7) →
              wpAny (model X.prog X.w) X.A (do bindName X.env n .none; unbindBehindTheSuite X.env n pos') (fun _ s7 => Q s7) X.xe s6 := fun {σ6 H6 Q} S6 hq => gone_ok (S6.unsuite ok) hN hi hln hq
          cases f with
          | next =>
            obtain ⟨σ6, H6, S6, q6⟩ := hsp
            exact end_ S6 fun s7 J7 => ⟨_, _, J7, q6⟩
          | brk =>
            obtain ⟨σ6, H6, S6, q6⟩ := hsp
            exact end_ S6 fun s7 J7 => ⟨_, _, J7, q6⟩
          | cont =>
            obtain ⟨σ6, H6, S6, q6⟩ := hsp
            exact end_ S6 fun s7 J7 => ⟨_, _, J7, q6⟩
          | ret u =>
            obtain ⟨v6, σ6, H6, S6, r6, q6⟩ := hsp
            exact end_ S6 fun s7 J7 => ⟨_, _, _, J7, r6, q6⟩
        | false =>
          show wpAny _ X.A (handleBy (.ref a) X.env hds2) _ _ _
          exact ih (hno rfl)
    exact go hh w
  · cases f with
    | next =>
      obtain ⟨σ', H', J', q⟩ := hsp
      exact wpAny_execs_nil ⟨σ', H', J'.ofTry ok, q⟩
    | brk =>
      obtain ⟨σ', H', J', q⟩ := hsp
      exact ⟨σ', H', J'.ofTry ok, q⟩
    | cont =>
      obtain ⟨σ', H', J', q⟩ := hsp
      exact ⟨σ', H', J'.ofTry ok, q⟩
    | ret u =>
      obtain ⟨v, σ', H', J', r, q⟩ := hsp
      exact ⟨v, σ', H', J'.ofTry ok, r, q⟩
end

/-! ### by data -/
/-- try: fb; hs: what the clauses do with an own exception (its class's number, its field, the cells) -/
def sTry (fb : SS) (hs : Nat → D → Store → Res Fl) : SS := fun ρ π => match fb ρ π with
  | .xc c d π1 => hs c d π1
  | r => r
/-- where the clauses begin: an exception of the class of number c with the field's data d has come -/
structure XAt (F : Fx) (ι : List Addr) (π : Store) (H : Hp) (c : Nat) (d : D) (π1 : Store) (cls : Value) (dx : Option Addr) (ι1 : List Addr) (H1 : Hp) : Prop where
  cls : cls = .ref (F.G.cls c)
  wo : Wo F ι1 π1 H1
  gr : Gr Nm ι π H ι1 π1 H1
  fld : XD F.G F.M0 ι1 π1 (fun dd => F.H0 dd = none ∧ H dd = none) H1 c d dx
theorem s_try {X : Cx} {F : Fx} {E : XK} {body : List Stmt} {h₀ : ExceptHandler} {hds : List ExceptHandler} {l : List Cls_} {pos : Pos} {fb : SS} {hs : Nat → D → Store → Res Fl} (hst : X.stack = X.env :: X.outer) (hf : X.env.frame = some X.env.locals) (hN : X.N.Nodup) (tk : Takes X (fun cls d _ H => E cls d H))
    (hb : ∀ (E' : XK) (pn : List (Addr × Obj)) (xe : Value → Shared → Prop) (H : Hp) (ι : List Addr) (π : Store), Takes (X.tr pn xe) (fun cls d _ H => E' cls d H) → PassesOwn (model X.prog X.w) X.A X.env xe → PSs (X.tr pn xe) body (tS ⟨F.G, F.M0, H, ι, π⟩ E' fb))
    (hh : HdsM X (h₀ :: hds) l)
    (hw : ∀ (D : Ends) (ι : List Addr) (π : Store) (H : Hp) (c : Nat) (d : Ph.D) (π1 : Store) (cls : Value) (dx : Option Addr) (ι1 : List Addr) (H1 : Hp) (σ : L2.St), XAt F ι π H c d π1 cls dx ι1 H1 → Go F E (hs c d π1) (Fw F ι π H D) → wMix X.K (fun cls d _ H => E cls d H) D l cls dx σ H1) :
    PS X (.Try body (h₀ :: hds) [] [] pos) (tS F E (sTry fb hs)) := by
  refine (ps_try_mix (tb := fun W D σ H => ∃ m : Hp × List Addr × Store, tS ⟨F.G, F.M0, m.1, m.2.1, m.2.2⟩ (fun cls d H => ∀ σ, W cls d σ H) fb D σ H) hst hf hN tk (fun W pn xe tkW own => ⟨fun pins s σ H D I ⟨m, q⟩ => (hb _ pn xe m.1 m.2.1 m.2.2 (tkW.imp fun c d σ H h => h σ) own).run pins s σ H D I q⟩) hh).weak fun D σ H h => ?_
  obtain ⟨ι, ρ, π, A, h⟩ := h
  refine ⟨⟨H, ι, π⟩, ι, ρ, π, ⟨A.val, ⟨A.wo.wd, .refl _ _ _ _⟩, A.len⟩, ?_⟩
  unfold sTry at h
  cases e : fb ρ π with
  | fail => rw [e] at h; exact h
  | ok fl =>
    rw [e] at h
    have h : Fw F ι π H D fl := h
    cases fl with
    | nx ρ' π' => exact fun ι' σ' H' A' g => h ι' σ' H' ⟨A'.val, ⟨A'.wo.wd, A.wo.gr.trans g⟩, A'.len⟩ g
    | rt d π' => exact fun v ι' H' W' g r => h v ι' H' ⟨W'.wd, A.wo.gr.trans g⟩ g r
    | bk ρ' π' => exact fun ι' σ' H' A' g => h ι' σ' H' ⟨A'.val, ⟨A'.wo.wd, A.wo.gr.trans g⟩, A'.len⟩ g
    | ct ρ' π' => exact fun ι' σ' H' A' g => h ι' σ' H' ⟨A'.val, ⟨A'.wo.wd, A.wo.gr.trans g⟩, A'.len⟩ g
  | xc c d π1 =>
    rw [e] at h
    have h : Go F E (hs c d π1) (Fw F ι π H D) := h
    exact fun dx ι' H' g W x σ' => hw D ι π H c d π1 _ dx ι' H' σ' ⟨rfl, ⟨W, A.wo.gr.trans g⟩, g, x.mono fun _ hn => ⟨A.wo.gr.ev.fresh hn, hn⟩⟩ h

/-! ### suites -/
/-- the data of the exception that is held at slot i -/
def tRetE (F : Fx) (i : Nat) (r : Nat → D → Option D) (a : Addr) (cls : Value) (dx : Option Addr) : TS := fun D σ H => σ[i]? = some (some (.ref a)) ∧ ∃ (ι : List Addr) (π : Store) (H0 : Hp) (ι0 : List Addr) (π0 : Store) (c : Nat) (d y : Ph.D), XAt F ι0 π0 H0 c d π cls dx ι H ∧ r c d = some y ∧
  ∀ w ι' H', Wo F ι' π H' → Gr Nm ι π H ι' π H' → Dr (F.G.at ι') (Mu F.M0 ι' π) H' y w → D.rt w H'
/-- return c, whatever the exception holds -/
theorem suite_const {X : Cx} {a : Addr} {oe : Obj} {pn : List (Addr × Obj)} {e : Expr} {v : V} {y : Ph.D} {pos : Pos} (he : PE (X.suite a ((a, oe) :: pn)) e (tC v)) (hy : ∀ G M H, Dr G M H y v) :
    PSs (X.suite a ((a, oe) :: pn)) [.Return (some e) pos] (fun D σ H => ∀ w, (∀ G M H, Dr G M H y w) → D.rt w H) :=
  pss_one ((ps_ret he).weak fun D σ H h => h v hy)
/-- isinstance(e, c), e the caught exception with its dict -/
def rIsD (K : PySem.W.Frag) (D a : Addr) (cls : Value) (dx : Option Addr) : List V → Hp → VK → Prop := fun xs H Q => ∃ (C dd : Addr) (fs : List (Str × V)) (b : Bool), xs = [.ref a, .ref C] ∧ cls = .ref D ∧ dx = some dd ∧ H dd = some (.xd fs) ∧ PySem.W.kitOne K (.ref D) (.ref C) = some b ∧ Q (.bl b) H
theorem call_isD {X : Cx} {a D : Addr} {oe : Obj} {cls : Value} {dx : Option Addr} {pn : List (Addr × Obj)} (C : ExcC X.K D) (hz : Zc cls dx oe) (hf : ∃ vs, oe.data = .fields vs) : CallR (X.suite a ((a, oe) :: pn)) (.builtin "isinstance") (rIsD X.K D a cls dx) := by
  intro pins s σ H xs us Q I r h
  obtain ⟨c, dd, fs, b, rfl, ec, ed, ea, e, q⟩ := h
  cases r with
  | cons rx rr =>
    cases rr with
    | cons rt rr =>
      cases rr
      cases rx
      obtain rfl : _ = Value.ref c := rt
      subst ec ed
      obtain ⟨hget, _⟩ := I.pin (a, oe) (List.mem_append.mpr (.inl List.mem_cons_self))
      obtain ⟨vs, hv⟩ := hf
      have hx : ObjOk X.prog X.w H s.heap dd (.xd fs) := I.hok dd _ ea
      obtain ⟨mA, hns, hr⟩ := hx
      obtain ⟨od, ho, hl⟩ := lookIn_ns hns
      have J : PySem.W.InstAt s.heap a oe D (some od) := ⟨hget, hz.1, by unfold PySem.W.notCls; rw [hv] <;> rfl, by rw [hz.2]; exact ho⟩
      have hcl : (PySem.W.clsIn X.K D).isSome = true := by
        obtain ⟨cd, hc, _⟩ := PySem.W.any_some C.hd
        rw [hc]; rfl
      exact PySem.W.kia_one (PySem.W.kitx_exc hcl C.hg C.hk C.hs C.ha C.hn C.ht C.hm) I.kIn J e (fun z => nomatch z) fun tk => ⟨.bl b, H, I.kept (t' := tk) fun _ _ z => z, rfl, q⟩
theorem clause_ret {F : Fx} {ι : List Addr} {π : Store} {H : Hp} {c : Nat} {d y : D} {π1 : Store} {cls : Value} {dx : Option Addr} {ι1 : List Addr} {H1 : Hp} {D : Ends} {σ : L2.St} {i : Nat} {r : Nat → Ph.D → Option Ph.D} {a : Addr} (A : XAt F ι π H c d π1 cls dx ι1 H1) (hr : r c d = some y) (h : Fw F ι π H D (.rt y π1)) (hi : i < σ.length) :
    tRetE F i r a cls dx (endsN i D) (σ.set i (some (.ref a))) H1 := ⟨List.getElem?_set_self hi, ι1, π1, H, ι, π, c, d, y, A, hr, fun w ι' H' W g r => h w ι' H' W (A.gr.trans g) r⟩
theorem clause_const {F : Fx} {ι : List Addr} {π : Store} {H : Hp} {c : Nat} {d y : D} {π1 : Store} {cls : Value} {dx : Option Addr} {ι1 : List Addr} {H1 : Hp} {D : Ends} (A : XAt F ι π H c d π1 cls dx ι1 H1) (h : Fw F ι π H D (.rt y π1)) :
    ∀ w, (∀ G M H, Dr G M H y w) → D.rt w H1 := fun w hw => h w ι1 H1 A.wo A.gr (hw _ _ _)
theorem onlyOf {c k : Nat} {d y : D} (h : (if k = c then some d else none) = some y) : k = c ∧ d = y := by
  by_cases hc : k = c
  · rw [if_pos hc] at h; exact ⟨hc, Option.some.inj h⟩
  · rw [if_neg hc] at h; cases h
theorem fld_of {G : Gx} {M : Addr → Prop} {ι' : List Addr} {π' : Store} {P : Addr → Prop} {H' : Hp} {c : Nat} {d : D} {dx : Option Addr} {f : Str} (h : XD G M ι' π' P H' c d dx) (hf : xfl G c = f) (hne : f ≠ Str.empty) : ∃ dd v, dx = some dd ∧ P dd ∧ H' dd = some (.xd [(xfl G c, v)]) ∧ Dr (G.at ι') (Mu M ι' π') H' d v := by
  rcases h with ⟨dd, v, e, p, hx, r, _⟩ | ⟨h, _⟩
  · exact ⟨dd, v, e, p, hx, r⟩
  · unfold xfl at hf
    rw [h] at hf
    exact absurd hf.symm hne
/-- return e.f -/
theorem suite_fld {X : Cx} {F : Fx} {a : Addr} {oe : Obj} {cls : Value} {dx : Option Addr} {pn : List (Addr × Obj)} {n : Str} {i c : Nat} {f : Str} {p p1 pos : Pos} (T : XfC X.K (F.G.cls c)) (hno : PySem.W.findIn X.K (.ref (F.G.cls c)) f = some none) (hfl : xfl F.G c = f)
    (hz : Zc cls dx oe) (hf : ∃ vs, oe.data = .fields vs) (hN : X.N[i]? = some n) (hv : Vis X.env.scope n) (hd : (n == ("__debug__" : Str)) = false := by decide) (hcd : (n == ("__classdict__" : Str)) = false := by decide) (hne : f ≠ Str.empty := by decide) :
    PSs (X.suite a ((a, oe) :: pn)) [.Return (some (.Attribute (.Name n p1) f p)) pos] (tRetE F i (fun k d => if k = c then some d else none) a cls dx) :=
  pss_one ((ps_ret (pe_xf T hno hz hf (pe_var (X := X.suite a ((a, oe) :: pn)) hN hv hd hcd) rfl)).weak fun D σ H h => by
    obtain ⟨h1, ι, π, H0, ι0, π0, c', d, y, A, hr, q⟩ := h
    obtain ⟨rfl, rfl⟩ := onlyOf hr
    obtain ⟨dd, v, e1, _, e4, r⟩ := fld_of A.fld hfl hne
    refine ⟨.ref a, h1, rfl, A.cls, dd, _, v, e1, e4, ?_, q v ι H A.wo (.refl _ _ _ _) r⟩
    rw [hfl]; simp)
/-- return e.f if isinstance(e, C) else s -/
theorem suite_isF {X : Cx} {F : Fx} {a : Addr} {oe : Obj} {cls : Value} {dx : Option Addr} {pn : List (Addr × Obj)} {n y : Str} {i c : Nat} {f : Str} {C : Addr} {e2 : Expr} {te2 : TE} {p p1 p2 p3 p4 p5 p6 pos : Pos} (T : XfC X.K (F.G.cls c)) (hno : PySem.W.findIn X.K (.ref (F.G.cls c)) f = some none) (hfl : xfl F.G c = f)
    (XC : ExcC X.K (F.G.cls c)) (hki : PySem.W.kitOne X.K (.ref (F.G.cls c)) (.ref C) = some true) (hm : X.mg "isinstance" = none) (hmT : X.mg y = some (.ref C)) (hg : Gl X "isinstance") (hgT : Gl X y) (hdy : (y == ("__debug__" : Str)) = false)
    (hz : Zc cls dx oe) (hf : ∃ vs, oe.data = .fields vs) (hN : X.N[i]? = some n) (hv : Vis X.env.scope n) (he2 : PE (X.suite a ((a, oe) :: pn)) e2 te2) (hd : (n == ("__debug__" : Str)) = false := by decide) (hcd : (n == ("__classdict__" : Str)) = false := by decide)
    (hs : starEach [.Name n p3, .Name y p4] X.env = (false, eval (.Name n p3) X.env) :: starEach [.Name y p4] X.env := by rfl) (hpl : (backTo p5 (starEach [.Name y p4] X.env)).any (·.1) = false := by rfl) (hne : f ≠ Str.empty := by decide) :
    PSs (X.suite a ((a, oe) :: pn)) [.Return (some (.IfExp (.Call (.Name "isinstance" p2) [.Name n p3, .Name y p4] [] p5) (.Attribute (.Name n p1) f p) e2 p6)) pos] (tRetE F i (fun k d => if k = c then some d else none) a cls dx) :=
  pss_one ((ps_ret (pe_ifExp (pt_val (pe_callB (X := X.suite a ((a, oe) :: pn)) (call_isD XC hz hf) hg hm (by decide +kernel) (pa_cons (pe_var (X := X.suite a ((a, oe) :: pn)) hN hv hd hcd) (pa_cons (pe_glob (X := X.suite a ((a, oe) :: pn)) (v := .ref C) hgT hmT rfl hdy) pa_nil) hs) (by decide) (by decide) hs hpl)) (pe_xf T hno hz hf (pe_var (X := X.suite a ((a, oe) :: pn)) hN hv hd hcd) rfl) he2)).weak fun D σ H h => by
    obtain ⟨h1, ι, π, H0, ι0, π0, c', d, y, A, hr, q⟩ := h
    obtain ⟨rfl, rfl⟩ := onlyOf hr
    obtain ⟨dd, v, e1, _, e4, r⟩ := fld_of A.fld hfl hne
    have fin : tXf a cls dx (F.G.cls c') f (tVar i) σ H D.rt := ⟨.ref a, h1, rfl, A.cls, dd, _, v, e1, e4, by rw [hfl]; simp, q v ι H A.wo (.refl _ _ _ _) r⟩
    refine ⟨.ref a, h1, ?_⟩
    exact ⟨C, dd, _, true, rfl, A.cls, e1, e4, hki, true, rfl, fin⟩)
end Ph
end
section
set_option Elab.async false
set_option linter.all false
set_option maxRecDepth 100000
set_option maxHeartbeats 2000000
/-! Ph, part R: defs that ask for no repr under way (repr's text hangs on that). The steps are turned from HandS's fn_of and run_fn. -/
namespace Ph
open PySem PySem.Spec PyProof.Rows L2

/-- FnOk, where no repr is under way -/
structure FnOkG (P : Program) (w : World) (K : PySem.W.Frag) (mg : Str → Option Value) (base : Heap) (CX : CXT) (k : Nat) (f : Addr) (fd : FuncData) (ps : List Str) (sp : Sp) : Prop where
  len : ∀ vs H Q E, sp vs H Q E → vs.length = ps.length
  run : ∀ (A : Around) (outer : List PySem.Env) (s : Shared) (H : Hp) (args : Args) (us : List Value) (vs : List V) (Q : VK) (E : XK), Room k A → A.guards = some [] → Env0 P w K mg base A outer s H → BindsTo s fd args (ps.zip us) → Vals vs us → sp vs H Q E →
    codeAny (model P w) A (.call (.ref f) args) (CR CX outer P w H s Q E) s
theorem fn_ofG {CX : CXT} {P : Program} {w : World} {K : PySem.W.Frag} {mg : Str → Option Value} {base : Heap} {k : Nat} {f : Addr} {name qual : Str} {params : Arguments} {body : List Stmt} {scope : Scope} {dV kV doc pm cdv ct oc : Value} {an od : Option Addr}
    {osl : Array (Option Value)} {N ps : List Str} {sp : Sp} (lk : K.lookup f = some ⟨oc, od, .func (PySem.W.fnOf name qual params body scope dV kV doc pm an cdv ct), osl⟩) (hcd : PySem.W.codeIn K cdv qual = true) (S : FnScope N ps scope)
    (len : ∀ vs H Q E, sp vs H Q E → vs.length = ps.length)
    (hbody : ∀ (A : Around) (outer : List PySem.Env) (s : Shared) (H : Hp) (vs : List V) (Q : VK) (E : XK), Room k (A.deeper (envOfC qual scope s.heap.objs.size f cdv)) → A.guards = some [] → sp vs H Q E →
      ∃ t, PSs (cxOf CX P w K mg base N qual scope f cdv A outer s H E) body t ∧ t { nx := fun _ H' => Q .non H', rt := Q } (start N vs) H) :
    FnOkG P w K mg base CX (k + 1) f (PySem.W.fnOf name qual params body scope dV kV doc pm an cdv ct) ps sp := by
  refine ⟨len, fun A outer s H args us vs Q E hr hgd e0 hb r hsp => ?_⟩
  have hl := len _ _ _ _ hsp
  have KX : K.In s.heap := e0.mod.kin.keeps fun b o e => (e0.bs b o e).1
  have lim : s.heap.NoLimit := e0.mod.nolimit.keeps fun b o e => (e0.bs b o e).1
  have hkind : ∀ y ∈ ps.zip us, scope.names.lookup y.1 = some .local ∨ (scope.names.lookup y.1 = some .cell ∧ ((cellsFrom (s.heap.objs.size + 1) scope.names []).lookup y.1).isSome = true) := fun ⟨n, v⟩ hy => by
    rcases S.par n (List.of_mem_zip hy).1 with q | q
    · exact .inl q
    · exact .inr ⟨q, PySem.W.cellsFrom_some _ _ _ (.inl q)⟩
  refine codeAny_call_function hr.depth (KX _ _ lk) rfl S.co S.gen rfl (PySem.W.codeRec_of KX hcd) (hb _ _ _ _ ?_)
  refine wpAny_newFunctionEnv_cells S.kind hkind fun env he s1 x => ?_
  subst he
  refine ⟨lim.keeps x.toInCall.keep, codeAny_func ?_⟩
  obtain ⟨t, ht, hq⟩ := hbody A outer s H vs Q E (hr.deeper _) hgd hsp
  have I : Inv (cxOf CX P w K mg base N qual scope f cdv A outer s H E) [] (start N vs) H s1 := inv_start S hr.hd e0 hl r x
  refine wpAny_mono (ht.run [] s1 (start N vs) H _ I hq) (fun fl s' hs => ?_) fun e s' hs => hs
  have fin : ∀ {σ' : L2.St} {H' : Hp} {v : V} {u : Value}, Inv (cxOf CX P w K mg base N qual scope f cdv A outer s H E) [] σ' H' s' → RelV v u → Q v H' → CE outer P w H s Q u s' :=
    fun {σ' H' v u} J rv q => ⟨v, H', J.os, J.bare, J.base, J.hok, rv, q⟩
  cases fl with
  | ret u =>
    obtain ⟨v, σ', H', J, rv, q⟩ := hs
    exact fin J rv q
  | next =>
    obtain ⟨σ', H', J, q⟩ := hs
    exact fin (v := V.non) (u := Value.none) J rfl q
  | brk =>
    obtain ⟨_, _, _, q⟩ := hs
    exact False.elim q
  | cont =>
    obtain ⟨_, _, _, q⟩ := hs
    exact False.elim q
/-- the body's derivation where no repr is under way -/
abbrev BodyG (P : Program) (w : World) (K : PySem.W.Frag) (mg : Str → Option Value) (base : Heap) (N : List Str) (qual : Str) (scope : Scope) (G : Gx) (k : Nat) (body : List Stmt) (fs : SS) : Prop :=
  ∀ (f : Addr) (cdv : Value) (A : Around) (outer : List PySem.Env) (s : Shared) (H : Hp) (E : XK) (M : Addr → Prop) (ι : List Addr) (π : Store), Room k (A.deeper (envOfC qual scope s.heap.objs.size f cdv)) → A.guards = some [] →
      PSs (cxOf (L2.CX P w) P w K mg base N qual scope f cdv A outer s H E) body (tS ⟨G, M, H, ι, π⟩ E fs)
section
variable {P : Program} {w : World} {K : PySem.W.Frag} {mg : Str → Option Value} {base : Heap} {G : Gx} {N ps : List Str} {x qual : Str} {st : Stmt} {k : Nat} {fs : SS}
structure DfG (P : Program) (w : World) (K : PySem.W.Frag) (mg : Str → Option Value) (base : Heap) (k : Nat) (x : Str) (sp : Sp) : Prop where
  ex : ∃ (f : Addr) (fd : FuncData) (ps : List Str), FnOkG P w K mg base (L2.CX P w) k f fd ps sp ∧ mg x = some (.ref f) ∧ PySem.W.keepIn K (.ref f) = true ∧ Binds K fd ps []
theorem df_ofG {g : List D → Store → Res (D × Store)} (Fn : ∃ f fd, Fun K x qual st f fd ∧ mg x = some (.ref f)) (S : FnScope N ps (defScope st)) (hb : BindsH x qual st ps) (body : BodyG P w K mg base N qual (defScope st) G k (defBody st) fs)
    (hlen : ∀ ds π, g ds π ≠ .fail → ds.length = ps.length) (sem : ∀ ds π, g ds π ≠ .fail → sRun fs N.length ds π = g ds π) : DfG P w K mg base (k + 1) x (spS G g) := by
  obtain ⟨f, fd, F, hm⟩ := Fn
  refine ⟨f, fd, ps, ?_, hm, F.kp, F.binds hb⟩
  obtain ⟨oc, od, kV, doc, pm, an, cdv, ct, osl, rfl, lk, hcd⟩ := F.ex
  refine fn_ofG lk hcd S (fun vs H Q E h => ?_) (fun A outer s H vs Q E hr hgd h => ?_)
  · obtain ⟨M, ι, π, ds, r, n⟩ := spS_out h
    rw [r.length]
    exact hlen ds π n
  · obtain ⟨M, ι, π, ds, W, r, h⟩ := h
    have n : g ds π ≠ .fail := fun z => by rw [z] at h; exact h
    exact ⟨_, body f cdv A outer s H E M ι π hr hgd, core_of W r n h (sem ds π n)⟩
end
section
variable {X : Cx} {F : Fx} {E : XK} {e : Expr} {es : List Expr} {pos p : Pos} {as : SA} {x : Str} {k : Nat}
theorem run_fnG {CX : CXT} {f : Addr} {fd : FuncData} {ps : List Str} {sp : Sp} {E : XK} {pins : List (Addr × Obj)} {σ : L2.St} {H : Hp} {s : Shared} {Q : VK} {us : List Value} {vs : List V} (Fk : FnOkG X.prog X.w X.K X.mg X.base CX k f fd ps sp) (hr : Room k X.A) (hgd : X.A.guards = some []) (hb : Binds X.K fd ps []) (hx : Passes CX X E)
    (I : Inv X pins σ H s) (r : Vals vs us) (h : sp vs H Q E) : wpAny (model X.prog X.w) X.A (call (.ref f) us) (EP X pins σ Q) X.xe s := by
  have hl : us.length = ps.length := by rw [← r.length]; exact Fk.len _ _ _ _ h
  have hb' := hb s us I.kIn (by rw [List.append_nil]; exact hl)
  rw [List.append_nil] at hb'
  refine wpAny_call (codeAny_mono (Fk.run X.A X.stack s H ⟨us, []⟩ us vs Q E hr hgd I.env0 hb' r h) fun r s' hq => ?_)
  cases r with
  | error e => exact hx pins σ H s e s' I hq
  | ok fl =>
    cases fl with
    | ret u => exact I.after hq
    | next => exact False.elim hq
    | brk => exact False.elim hq
    | cont => exact False.elim hq
theorem x_callG {g : List D → Store → Res (D × Store)} (Dn : DfG X.prog X.w X.K X.mg X.base k x (spS F.G g)) (hr : Room k X.A) (hgd : X.A.guards = some []) (hx : Passes (L2.CX X.prog X.w) X E) (ha : PA X (e :: es) (tXA F E as)) (hg : Gl X x := by rfl)
    (hdb : (x == ("__debug__" : Str)) = false := by decide) (he : starEach (e :: es) X.env = (false, eval e X.env) :: starEach es X.env := by rfl) (hpl : (backTo pos (starEach es X.env)).any (·.1) = false := by rfl) :
    PE X (.Call (.Name x p) (e :: es) [] pos) (tX F E (eCall g as)) := by
  obtain ⟨f, fd, ps, Fk, hm, hk, hb⟩ := Dn.ex
  have q : PE X (.Call (.Name x p) (e :: es) [] pos) (tCall (spS F.G g) [] E (tXA F E as)) := by
    refine ⟨fun pins s σ H Q I h => ?_⟩
    refine wpAny_Call_Name_kw (ld_glob I hg hm ?_ hdb)
    refine PySem.W.callWith_K (h₀ := X.base) I.ok.mod.kin hk (thn (ha.run pos pins s σ H _ I h) fun us s1 ⟨vs, H1, I1, r, q⟩ => ⟨I1.kIn, ?_⟩) he hpl
    have q : spS F.G g (vs ++ []) H1 Q E := q
    rw [List.append_nil] at q
    exact run_fnG Fk hr hgd hb hx I1 r q
  exact q.weak fun σ H Q h => call_weak (dds := []) (fun _ _ _ => rfl) (by simpa only [List.append_nil] using h)
end
end Ph
end
section
set_option Elab.async false
set_option linter.all false
set_option maxRecDepth 100000
set_option maxHeartbeats 2000000
/-! Ph, part S: repr of data. -/
namespace Ph
open PySem PySem.Spec PyProof.Rows L2
mutual
/-- the data that a repr shows -/
def D.toP : D → PyData
  | .bl b => .bool b
  | .int i => .int i
  | .str s => .str s
  | .tup l => .tuple (D.toPs l)
  | .ptup l => .tuple (D.toPs l)
  | .lst l => .list (D.toPs l)
  | _ => .none
def D.toPs : List D → List PyData
  | [] => []
  | d :: l => d.toP :: D.toPs l
end
mutual
def D.okP : D → Bool
  | .non => true
  | .bl _ => true
  | .int _ => true
  | .str _ => true
  | .tup l => D.okPs l
  | .ptup l => D.okPs l
  | .lst l => D.okPs l
  | _ => false
def D.okPs : List D → Bool
  | [] => true
  | d :: l => d.okP && D.okPs l
end
mutual
theorem dr_dp {G : Gx} {M : Addr → Prop} {H : Hp} : ∀ (d : D) (v : V), d.okP = true → Dr G M H d v → Dp G.K H v d.toP
  | .non, v, _, h => by obtain rfl : v = .non := h; exact .non
  | .bl b, v, _, h => by obtain rfl : v = .bl b := h; exact .bl b
  | .int i, v, _, h => by obtain rfl : v = .int i := h; exact .int i
  | .str s, v, _, h => by obtain rfl : v = .str s := h; exact .str s
  | .tup l, v, o, h => by obtain ⟨a, xs, rfl, t, r⟩ := h; exact .tup t.sq (dr_dps l xs o r)
  | .ptup l, v, o, h => by obtain ⟨a, xs, rfl, t, r⟩ := h; exact .tup t (dr_dps l xs o r)
  | .lst l, v, o, h => by obtain ⟨a, xs, rfl, _, t, r⟩ := h; exact .lst (.inl (.inl t)) (dr_dps l xs o r)
theorem dr_dps {G : Gx} {M : Addr → Prop} {H : Hp} : ∀ (l : List D) (vs : List V), D.okPs l = true → DrL G M H l vs → DpAll G.K H vs (D.toPs l)
  | [], vs, _, h => by obtain rfl : vs = [] := h; exact .nil
  | d :: l, vs, o, h => by
    obtain ⟨v, ws, rfl, r1, r2⟩ := h
    have o' := Bool.and_eq_true_iff.mp o
    exact .cons (dr_dp d v o'.1 r1) (dr_dps l ws o'.2 r2)
end
/-- repr(v) of a list or a tuple of data -/
theorem call_reprD {X : Cx} (hgd : X.A.guards = some []) : CallR X (.builtin "repr") (fun xs H Q => ∃ (a : Addr) (d : PyData), xs = [.ref a] ∧ Dp X.K H (.ref a) d ∧ d.showable = true ∧ d.hasDict = false ∧ X.A.units + (d.depth + 1) < cLine ∧ d.shown.length ≤ sizeLine ∧ Q (.str d.shown) H) := by
  intro pins s σ H xs us Q I r h
  obtain ⟨a, d, rfl, hd, h1, h2, h3, h4, q⟩ := h
  cases r with
  | cons rx rr =>
    cases rr
    obtain rfl : _ = Value.ref a := rx
    obtain ⟨as, R⟩ := Dp.reads I d _ _ hd rfl
    exact PySem.repr_of_reads' R h1 (fun z => by rw [h2] at z; cases z) hgd h3 (fun _ _ e => e) (fun h' u tk hk => ⟨.str d.shown, H, I.kept (t' := tk) hk, ⟨u, rfl⟩, q⟩) h4
/-- repr(v) of data -/
theorem call_repr {X : Cx} (hgd : X.A.guards = some []) : CallR X (.builtin "repr") (fun xs H Q => ∃ (v : V) (d : PyData), xs = [v] ∧ Dp X.K H v d ∧ d.showable = true ∧ d.hasDict = false ∧ X.A.units + (d.depth + 1) < cLine ∧ d.shown.length ≤ sizeLine ∧ Q (.str d.shown) H) := by
  intro pins s σ H xs us Q I r h
  obtain ⟨v, d, rfl, hd, h1, h2, h3, h4, q⟩ := h
  have r0 := r
  cases hd with
  | non =>
    obtain ⟨u, rfl, rfl⟩ := vals1 r
    exact PySem.P.repr_of_none ⟨.str _, H, I.tok _, ⟨_, rfl⟩, q⟩
  | bl b =>
    obtain ⟨u, rfl, rfl⟩ := vals1 r
    exact PySem.P.repr_of_bool ⟨.str _, H, I.tok _, ⟨_, rfl⟩, q⟩
  | int i =>
    obtain ⟨u, rfl, t, rfl⟩ := vals1 r
    exact PySem.P.repr_of_int (of_decide_eq_true h1) ⟨.str _, H, I.tok _, ⟨_, rfl⟩, q⟩
  | str x =>
    obtain ⟨u, rfl, t, rfl⟩ := vals1 r
    exact PySem.P.repr_of_str ⟨.str _, H, I.tok _, ⟨_, rfl⟩, q⟩ h4
  | lst e1 e2 => exact call_reprD hgd pins s σ H _ us Q I r0 ⟨_, _, rfl, .lst e1 e2, h1, h2, h3, h4, q⟩
  | tup e1 e2 => exact call_reprD hgd pins s σ H _ us Q I r0 ⟨_, _, rfl, .tup e1 e2, h1, h2, h3, h4, q⟩
/-- what repr computes -/
noncomputable def fRepr : List D → Res D
  | [d] => if d.okP = true ∧ d.toP.showable = true ∧ d.toP.hasDict = false ∧ d.toP.depth ≤ 150 ∧ d.toP.shown.length ≤ sizeLine then .ok (.str d.toP.shown) else .fail
  | _ => .fail
abbrev rRepr (K : PySem.W.Frag) (A : Around) : List V → Hp → VK → Prop := fun xs H Q => ∃ (v : V) (d : PyData), xs = [v] ∧ Dp K H v d ∧ d.showable = true ∧ d.hasDict = false ∧ A.units + (d.depth + 1) < cLine ∧ d.shown.length ≤ sizeLine ∧ Q (.str d.shown) H
theorem fd_repr {G : Gx} {A : Around} {k : Nat} (hr : Room k A) : FnD G (rRepr G.K A) fRepr := by
  intro ι M H ds d vs Q hm r e hq
  unfold fRepr at e
  split at e
  · rename_i d'
    split at e
    · rename_i c
      obtain ⟨v, rfl, rv⟩ := one_v r
      obtain rfl := Res.ok.inj e
      exact ⟨v, _, rfl, dr_dp (G := G.at ι) _ _ c.1 rv, c.2.1, c.2.2.1, by have := hr.un; have := c.2.2.2.1; omega, c.2.2.2.2, hq _ _ (.refl _ _) rfl⟩
    · cases e
  · cases e
theorem nx_repr : NoXc fRepr := fun ds c d π => by
  unfold fRepr
  split
  · split <;> exact fun z => nomatch z
  · exact fun z => nomatch z
end Ph
end
section
set_option Elab.async false
set_option linter.all false
set_option maxRecDepth 100000
set_option maxHeartbeats 2000000
/-! Ph, part Ra: exceptions without a field; == by an own __eq__; methods called by a keyword. -/
namespace Ph
open PySem PySem.Spec PyProof.Rows L2
/-! ### raise C() -/
/-- the own exception class x, number c, has no field -/
structure ExN (G : Gx) (mg : Str → Option Value) (x : Str) (c : Nat) : Prop where
  ex : ∃ (bmB : List Value) (B newId initId : String), ExcBaseFacts B newId initId bmB ∧ PySem.W.excIn G.K (G.cls c) bmB newId = true ∧ mg x = some (.ref (G.cls c)) ∧ PySem.W.keepIn G.K (.ref (G.cls c)) = true ∧
    PySem.W.subIn G.K (.ref (G.cls c)) (.type "BaseException") = some true ∧ PySem.W.typeIn G.K (.ref (G.cls c)) = some (.type "type") ∧ G.flds c = []
def sRaise0 (c : Nat) : SS := fun _ π => .xc c .non π
@[simp] theorem sRaise0_ap {c : Nat} {ρ : En} {π : Store} : sRaise0 c ρ π = .xc c .non π := rfl
section
variable {X : Cx} {F : Fx} {E : XK} {x : Str} {c k : Nat} {p pos pos2 : Pos}
theorem pmk_own0 {C : Addr} {bmB : List Value} {B newId initId : String} (F : ExcBaseFacts B newId initId bmB) (q : PySem.W.excIn X.K C bmB newId = true) (gC : X.mg x = some (.ref C))
    (kC : PySem.W.keepIn X.K (.ref C) = true) (r : Raises X (.ref C)) (hg : Gl X x) (hdb : (x == ("__debug__" : Str)) = false := by decide) :
    PMk X (.Call (.Name x p) [] [] pos) (fun _ H Q => Q (.ref C) none H) := by
  intro pins s σ H Q I h
  refine wpAny_Call_Name_kw (ld_glob I hg gC ?_ hdb)
  refine PySem.W.callWith_K0 (first := []) I.kIn kC ?_
  show wpAny _ _ (call (.ref C) []) _ _ _
  obtain ⟨bm, N, nm, qn, bs, hdct, sn, sub, ab, col, dd, k0, k1, k2, k3, k5, mN, hC, hN, hni, T⟩ := exc_obj I.kIn q
  refine wpAny_call_exc_subT F T hC hN hni (fun h' e hm => ?_) (Nat.zero_le _)
  exact mk_of I hm r h (I.hok.gone hm.new)
theorem s_raise0 (hc : X.calm = true) (tk : Takes X (fun cls d _ H => E cls d H)) (I : ExN F.G X.mg x c) (hK : F.G.K = X.K := by rfl) (hg : Gl X x := by rfl) (hdb : (x == ("__debug__" : Str)) = false := by decide) :
    PS X (.Raise (some (.Call (.Name x p) [] [] pos)) none pos2) (tS F E (sRaise0 c)) := by
  obtain ⟨bmB, B, newId, initId, FB, q, gC, kC, h1, h2, hf⟩ := I.ex
  rw [hK] at q kC h1 h2
  refine (ps_raise hc tk (pmk_own0 (p := p) (pos := pos) FB q gC kC (raises_own h1 h2) hg hdb)).weak fun D σ H h => ?_
  obtain ⟨ι, ρ, π, A, h⟩ := h
  have h : XW F E c .non π := h
  exact h none ι H A.wo.gr A.wo.wd (.inr ⟨hf, rfl⟩)
/-! ### return not isinstance(e, C) -/
def rIsD0 (K : PySem.W.Frag) (D a : Addr) (cls : Value) (dx : Option Addr) : List V → Hp → VK → Prop := fun xs H Q => ∃ (C : Addr) (b : Bool), xs = [.ref a, .ref C] ∧ cls = .ref D ∧ dx = none ∧ PySem.W.kitOne K (.ref D) (.ref C) = some b ∧ Q (.bl b) H
theorem call_isD0 {a D : Addr} {oe : Obj} {cls : Value} {dx : Option Addr} {pn : List (Addr × Obj)} (C : ExcC X.K D) (hz : Zc cls dx oe) (hf : ∃ vs, oe.data = .fields vs) : CallR (X.suite a ((a, oe) :: pn)) (.builtin "isinstance") (rIsD0 X.K D a cls dx) := by
  intro pins s σ H xs us Q I r h
  obtain ⟨c, b, rfl, ec, ed, e, q⟩ := h
  cases r with
  | cons rx rr =>
    cases rr with
    | cons rt rr =>
      cases rr
      cases rx
      obtain rfl : _ = Value.ref c := rt
      subst ec ed
      obtain ⟨hget, _⟩ := I.pin (a, oe) (List.mem_append.mpr (.inl List.mem_cons_self))
      obtain ⟨vs, hv⟩ := hf
      have J : PySem.W.InstAt s.heap a oe D none := ⟨hget, hz.1, by unfold PySem.W.notCls; rw [hv] <;> rfl, by rw [hz.2]; trivial⟩
      have hcl : (PySem.W.clsIn X.K D).isSome = true := by
        obtain ⟨cd, hc, _⟩ := PySem.W.any_some C.hd
        rw [hc]; rfl
      exact PySem.W.kia_one (PySem.W.kitx_exc hcl C.hg C.hk C.hs C.ha C.hn C.ht C.hm) I.kIn J e (fun z => nomatch z) fun tk => ⟨.bl b, H, I.kept (t' := tk) fun _ _ z => z, rfl, q⟩
/-- the exception has no field; y is returned -/
def tRetN (F : Fx) (i c : Nat) (a : Addr) (cls : Value) (dx : Option Addr) (y : V) : TS := fun D σ H => σ[i]? = some (some (.ref a)) ∧ cls = .ref (F.G.cls c) ∧ dx = none ∧ D.rt y H
theorem suite_notIs {F : Fx} {a : Addr} {oe : Obj} {cls : Value} {dx : Option Addr} {pn : List (Addr × Obj)} {n y : Str} {i c : Nat} {C : Addr} {b : Bool} {p2 p3 p4 p5 p6 pos : Pos}
    (XC : ExcC X.K (F.G.cls c)) (hki : PySem.W.kitOne X.K (.ref (F.G.cls c)) (.ref C) = some b) (hm : X.mg "isinstance" = none) (hmT : X.mg y = some (.ref C)) (hg : Gl X "isinstance") (hgT : Gl X y) (hdy : (y == ("__debug__" : Str)) = false)
    (hz : Zc cls dx oe) (hf : ∃ vs, oe.data = .fields vs) (hN : X.N[i]? = some n) (hv : Vis X.env.scope n) (hd : (n == ("__debug__" : Str)) = false := by decide) (hcd : (n == ("__classdict__" : Str)) = false := by decide)
    (hs : starEach [.Name n p3, .Name y p4] X.env = (false, eval (.Name n p3) X.env) :: starEach [.Name y p4] X.env := by rfl) (hpl : (backTo p5 (starEach [.Name y p4] X.env)).any (·.1) = false := by rfl) :
    PSs (X.suite a ((a, oe) :: pn)) [.Return (some (.UnaryOp .Not (.Call (.Name "isinstance" p2) [.Name n p3, .Name y p4] [] p5) p6)) pos] (tRetN F i c a cls dx (.bl (!b))) :=
  pss_one ((ps_ret (pe_not (pe_callB (X := X.suite a ((a, oe) :: pn)) (call_isD0 XC hz hf) hg hm (by decide +kernel) (pa_cons (pe_var (X := X.suite a ((a, oe) :: pn)) hN hv hd hcd) (pa_cons (pe_glob (X := X.suite a ((a, oe) :: pn)) (v := .ref C) hgT hmT rfl hdy) pa_nil) hs) (by decide) (by decide) hs hpl))).weak fun D σ H h => by
    obtain ⟨h1, h2, h3, q⟩ := h
    refine ⟨.ref a, h1, ?_⟩
    exact ⟨C, b, rfl, h2, h3, hki, b, rfl, q⟩)
theorem clause_retN {F : Fx} {ι : List Addr} {π : Store} {H : Hp} {c : Nat} {d : D} {π1 : Store} {cls : Value} {dx : Option Addr} {ι1 : List Addr} {H1 : Hp} {D : Ends} {σ : L2.St} {i : Nat} {a : Addr} {b : Bool} (A : XAt F ι π H c d π1 cls dx ι1 H1) (hf : F.G.flds c = []) (h : Fw F ι π H D (.rt (.bl b) π1)) (hi : i < σ.length) :
    tRetN F i c a cls dx (.bl b) (endsN i D) (σ.set i (some (.ref a))) H1 := by
  refine ⟨List.getElem?_set_self hi, A.cls, ?_, h (.bl b) ι1 H1 A.wo A.gr rfl⟩
  rcases A.fld with ⟨dd, v, e, p, hx, r, z⟩ | ⟨_, z⟩
  · exact absurd hf z
  · exact z
end
/-! ### == of two own instances -/
/-- a == b, both of the own class of number c -/
def eEqI (c : Nat) (g : List D → Store → Res (D × Store)) (a b : SE) : SE := fun ρ π => (a ρ π).bind fun p => (b ρ p.2).bind fun q => (cls? c q.2 p.1).bind fun _ => (cls? c q.2 q.1).bind fun _ => (g [p.1, q.1] q.2).bind fun r => (bl? r.1).bind fun z => .ok (.bl z, r.2)
def rEqI (G : Gx) (c : Nat) (g : List D → Store → Res (D × Store)) (E : XK) : R2 := fun x y H Q => ∃ a b dx dy fs gs, x = .ref a ∧ y = .ref b ∧ H a = some (.ins (G.cls c) dx fs) ∧ H b = some (.ins (G.cls c) dy gs) ∧ spS G g [.ref a, .ref b] H (fun v H' => (∃ z, v = .bl z) ∧ Q v H') E
section
variable {X : Cx} {F : Fx} {E : XK} {a b : Expr} {c k : Nat} {pos : Pos} {fa fb : SE} {g : List D → Store → Res (D × Store)}
theorem op_eqI (I : MtC X.prog X.w F.G X.mg X.base k c "__eq__" (spS F.G g)) (hr : Room k X.A) (hx : Passes (L2.CX X.prog X.w) X E) (hK : F.G.K = X.K := by rfl) : OpR X (compareOp .Eq) (rEqI F.G c g E) := by
  obtain ⟨f, fd, ps, hc, hm, Fn, hb, hn⟩ := I.ex
  rw [hK] at hc hm Fn hb
  intro pins s σ H x y v u Q I' rx ry hq
  obtain ⟨a, b, dx, dy, fs, gs, rfl, rfl, ha, hb', hq⟩ := hq
  cases rx
  cases ry
  obtain ⟨mA, J, _⟩ := ins_get I'.hok ha
  obtain ⟨mB, J', _⟩ := ins_get I'.hok hb'
  obtain ⟨od, J, _⟩ := J.look
  obtain ⟨od', J', _⟩ := J'.look
  obtain ⟨m, hF⟩ := I'.fr
  show wpAny (model X.prog X.w) X.A (richCompare .Eq (.ref a) (.ref b)) (EP X pins σ Q) X.xe s
  refine PySem.W.cmp_K (op := .Eq) (tb := .ref (F.G.cls c)) hr.units0 hF I'.ok.mod.kin J J'.type (by simp [PySem.W.notFirst]) hm.at_ hm.fn ?_
  refine wpAny_mono (run_fn (us := [.ref a, .ref b]) (vs := [.ref a, .ref b]) Fn hr hb .nil hx I' (.cons rfl (.cons rfl .nil)) hq) (fun w s' z => ?_) fun _ _ e => e
  obtain ⟨v, H', I2, rv, ⟨z, rfl⟩, q⟩ := z
  cases rv
  exact ⟨.bl z, H', I2, rfl, q⟩
theorem eqI_weak {σ : L2.St} {H : Hp} {Q : VK} (h : tX F E (eEqI c g fa fb) σ H Q) : tOp (rEqI F.G c g E) (tX F E fa) (tX F E fb) σ H Q := by
  obtain ⟨ι, ρ, π, A, h⟩ := h
  refine ⟨ι, ρ, π, A, Go.mono (fun p hp v ι1 H1 A1 e1 r1 => ⟨ι1, ρ, p.2, A1, Go.mono (fun q hq w ι2 H2 A2 e2 r2 => ?_) (Go.bind hp)⟩) (Go.bind h)⟩
  have hq := Go.bind hq
  unfold cls? at hq
  split at hq
  · rename_i c1
    have hq : Go F E ((if clsD q.1 q.2 = some c then Res.ok () else .fail).bind fun _ => (g [p.1, q.1] q.2).bind fun r => (bl? r.1).bind fun z => .ok (D.bl z, r.2)) (Kv F ι σ ρ π H Q) := hq
    split at hq
    · rename_i c2
      have hq : Go F E ((g [p.1, q.1] q.2).bind fun r => (bl? r.1).bind fun z => .ok (D.bl z, r.2)) (Kv F ι σ ρ π H Q) := hq
      have r1' := Dr.gr e2 (fun _ z => z.elim) r1
      obtain ⟨a, dx, xs, rfl, s1⟩ := inst_at A2 r1' c1
      obtain ⟨b, dy, ys, rfl, s2⟩ := inst_at A2 r2 c2
      refine ⟨a, b, dx, dy, _, _, rfl, rfl, s1, s2, F.M0, ι2, q.2, [p.1, q.1], A2.wo.wd, .cons r1' (.cons r2 rfl), ?_⟩
      cases eg : g [p.1, q.1] q.2 with
      | fail => rw [eg] at hq; exact hq.elim
      | xc c' d π' => rw [eg] at hq; exact Xk.out A2.wo.gr hq
      | ok r =>
        rw [eg] at hq
        have hq := Go.bind (show Go F E ((bl? r.1).bind fun z => .ok (D.bl z, r.2)) (Kv F ι σ ρ π H Q) from hq)
        intro v ι' H' g' W' rv
        cases er : r.1 with
        | bl z =>
          rw [er] at hq rv
          have hq : Kv F ι σ ρ π H Q (D.bl z, r.2) := hq
          exact ⟨⟨z, rv⟩, hq _ ι' H' (A2.go' g' W') ((e1.trans e2).trans g') rv⟩
        | _ => rw [er] at hq; exact hq.elim
    · exact hq.elim
  · exact hq.elim
theorem x_eqI (I : MtC X.prog X.w F.G X.mg X.base k c "__eq__" (spS F.G g)) (hr : Room k X.A) (hx : Passes (L2.CX X.prog X.w) X E) (ha : PE X a (tX F E fa)) (hb : PE X b (tX F E fb)) (hm : behindInMarks .Eq b = false) (hK : F.G.K = X.K := by rfl) : PE X (.Compare a [.Eq] [b] pos) (tX F E (eEqI c g fa fb)) :=
  (pe_cmpR (op_eqI I hr hx hK) ha hb hm).weak fun _ _ _ h => eqI_weak h
end
/-! ### o.m(k = v) -/
/-- a method called by one keyword -/
structure MtK (P : Program) (w : World) (G : Gx) (mg : Str → Option Value) (base : Heap) (k : Nat) (c : Nat) (m kw : Str) (sp : Sp) : Prop where
  ex : ∃ (f : Addr) (fd : FuncData) (ps : List Str), Cls G.K (G.cls c) ∧ Meth G.K (G.cls c) m f ∧ FnOk P w G.K mg base (L2.CX P w) k f fd ps sp ∧ (∀ (s : Shared) (a v : Value), G.K.In s.heap → BindsTo s fd ⟨[a], [(kw, v)]⟩ (ps.zip [a, v])) ∧ m ∉ G.flds c
section
variable {X : Cx} {F : Fx} {E : XK} {o e : Expr} {m kw : Str} {c k : Nat} {pos apos kpos : Pos} {fo fe : SE} {g : List D → Store → Res (D × Store)}
theorem one1 {σ : L2.St} {H : Hp} {K : List V → Hp → Prop} (h : tXA F E (aCons fe aNil) σ H K) : tX F E fe σ H (fun x H1 => ∃ z, [x] = [z] ∧ K [z] H1) := by
  obtain ⟨ι, ρ, π, A, h⟩ := h
  refine ⟨ι, ρ, π, A, Go.mono (fun p hp x ι1 H1 A1 e1 r1 => ⟨x, rfl, ?_⟩) (Go.bind h)⟩
  exact hp [x] ι1 H1 A1 e1 (.cons r1 rfl)
theorem x_methK {pl : Sem Bool} (I : MtK X.prog X.w F.G X.mg X.base k c m kw (spS F.G g)) (hr : Room k X.A) (hx : Passes (L2.CX X.prog X.w) X E) (ho : PE X o (tX F E fo)) (he : PE X e (tX F E fe)) (hK : F.G.K = X.K := by rfl)
    (hall : (backToKw pos (keywordEach [⟨some kw, e, kpos⟩] X.env)).all (·.1.isSome) = true := by rfl) (hks : (backToKw pos (keywordEach [⟨some kw, e, kpos⟩] X.env)).filterMap (·.1) = [kw] := by rfl)
    (hpl : ((backTo pos (starEach [] X.env)).any (·.1) || (backToKw pos (keywordEach [⟨some kw, e, kpos⟩] X.env)).any (·.1.isNone)) = false := by rfl)
    (ht : eval (.Call (.Attribute o m apos) [] [⟨some kw, e, kpos⟩] pos) X.env = (do
      let ov ← eval o X.env
      standAt apos.atName
      let (f, first) ← holding [ov] (getMethod ov m pl)
      callWith pos f first (backTo pos (starEach [] X.env)) (backToKw pos (keywordEach [⟨some kw, e, kpos⟩] X.env))) := by rfl) :
    PE X (.Call (.Attribute o m apos) [] [⟨some kw, e, kpos⟩] pos) (tX F E (eMeth c g fo (aCons fe aNil))) := by
  obtain ⟨f, fd, ps, hc, hm, Fn, hb, hn⟩ := I.ex
  rw [hK] at hc hm Fn hb
  have q : PE X (.Call (.Attribute o m apos) [] [⟨some kw, e, kpos⟩] pos) (tMeth (F.G.cls c) m (spS F.G g) [] E (tX F E fo) (tXA F E (aCons fe aNil))) := by
    refine ⟨fun pins s σ H Q I h => ?_⟩
    refine PySem.W.methodCall_KW (pl := pl) (thn (ho.run pins s σ H _ I h) fun u s1 ⟨x, H1, I1, rx, a, dx, fs, ex, ea, l, q⟩ => ?_) ht
    subst ex
    obtain rfl : u = Value.ref a := rx
    refine getmeth_ok I1 ea hc hm l ?_
    refine PySem.W.callWith_KW0 (first := [.ref a]) (h₀ := X.base) I1.ok.mod.kin hm.kp hall ?_ hpl
    have q' : tCons (tX F E fe) tNil σ H1 (fun zs H2 => ∃ z, zs = [z] ∧ spS F.G g (V.ref a :: ([z] ++ [])) H2 Q E) := one1 q
    refine thn ((pk_cons (nm := some kw) (kpos := kpos) he pk_nil).run pos pins s1 σ H1 _ I1 q') fun ws s2 ⟨zs, H2, I2, rz, z, ez, q2⟩ => ⟨I2.kIn, ?_⟩
    rw [hks]
    subst ez
    obtain ⟨w, rfl, rw'⟩ := vals1 rz
    have hl := Fn.len _ _ _ _ q2
    have r2 : Vals [V.ref a, z] [Value.ref a, w] := .cons rfl rz
    refine wpAny_call (codeAny_mono (Fn.run X.A X.stack s2 H2 ⟨[.ref a], [(kw, w)]⟩ [.ref a, w] [.ref a, z] Q E hr I2.env0 (hb s2 (.ref a) w I2.kIn) r2 q2) fun r s' hq => ?_)
    cases r with
    | error e => exact hx pins σ H2 s2 e s' I2 hq
    | ok fl =>
      cases fl with
      | ret v => exact I2.after hq
      | next => exact False.elim hq
      | brk => exact False.elim hq
      | cont => exact False.elim hq
  exact (q.weak fun _ _ _ h => meth_weak hn h)
end
end Ph
end
section
set_option Elab.async false
set_option linter.all false
set_option maxRecDepth 100000
set_option maxHeartbeats 2000000
/-! Ph, part Rb: slices of lists that change; built-ins over data in which such lists stand. -/
namespace Ph
open PySem PySem.Spec PyProof.Rows L2
/-- a slice of a list's cell: a new cell -/
def eSlC (e : SE) (lo hi : SO) : SE := fun ρ π => (e ρ π).bind fun p => (lo ρ p.2).bind fun q => (hi ρ q.2).bind fun r => match p.1 with
  | .ptr n => match r.2[n]? with
    | some (.lst l) => .ok (.ptr r.2.length, r.2 ++ [.lst (cutD l q.1 r.1)])
    | _ => .fail
  | _ => .fail
/-- data, the lists of its cells read -/
def ldd (π : Store) : D → D
  | .lst l => .lst (l.map (ld π))
  | d => ld π d
def eFnD (g : List D → Res D) (as : SA) : SE := fun ρ π => (as ρ π).bind fun x => (g (x.1.map (ldd x.2))).bind fun z => if frz z = true then .ok (z, x.2) else .fail
section
variable {X : Cx} {F : Fx} {E : XK} {e : Expr} {es : List Expr} {lo hi : Option Expr} {pos p p2 : Pos} {fe : SE} {fl fh : SO} {as : SA} {x : Str} {g : List D → Res D} {r : List V → Hp → VK → Prop} {id T : String}
theorem x_sliceC (he : PE X e (tX F E fe)) (hl : PO X lo (tXO F E fl)) (hh : PO X hi (tXO F E fh)) : PE X (.Subscript e (.Slice lo hi none p2) pos) (tX F E (eSlC fe fl fh)) :=
  (pe_slice (sl_tupF.or sl_list) he hl hh).weak fun σ H Q h => by
    obtain ⟨ι, ρ, π, A, h⟩ := h
    refine ⟨ι, ρ, π, A, Go.mono (fun p hp v ι1 H1 A1 e1 r1 => ⟨ι1, ρ, p.2, A1, Go.mono (fun q hq ι2 H2 A2 e2 => ⟨ι2, ρ, q.2, A2, Go.mono (fun r hr ι3 H3 A3 e3 => ?_) (Go.bind hq)⟩) (Go.bind hp)⟩) (Go.bind h)⟩
    have r3 := Dr.gr (e2.trans e3) (fun _ z => z.elim) r1
    have ee := (e1.trans e2).trans e3
    cases e : p.1 with
    | ptr n =>
      rw [e] at hr r3
      cases ec : r.2[n]? with
      | none => simp only [ec] at hr; exact hr.elim
      | some c =>
        cases c with
        | lst l =>
          simp only [ec] at hr
          have hr : Kv F ι σ ρ π H Q (.ptr r.2.length, r.2 ++ [.lst (cutD l q.1 r.1)]) := hr
          obtain ⟨a, rfl, hn, xs, s, rx⟩ := A3.wo.cell r3 ec
          refine .inr ⟨a, xs, rfl, SqL.of s, fun b hb => ?_⟩
          have gg : Gr Nm ι3 r.2 H3 (ι3 ++ [b]) (r.2 ++ [.lst (cutD l q.1 r.1)]) (upd H3 b (.lst (cutV xs q.1 r.1))) := .add A3.wo.wd hb (.new hb)
          exact hr (.ref b) _ _ (A3.add hb (.new hb) (by rw [upd_same]; exact fun q => nomatch q) ⟨cutV xs q.1 r.1, upd_same, DrL.gr gg (fun _ z => z.elim) (cut_dr rx _ _)⟩) (ee.trans gg) (ptr_new A3.wo.wd.il)
        | _ => simp only [ec] at hr; exact hr.elim
    | _ => rw [e] at hr; exact hr.elim
theorem ldd_dr {ι : List Addr} {π : Store} {H : Hp} {v : V} (A : Wo F ι π H) {d : D} (r : Dr (F.G.at ι) (Mu F.M0 ι π) H d v) : Dr (F.G.at ι) Nm H (ldd π d) v := by
  cases d with
  | lst l =>
    obtain ⟨a, xs, e, _, s, q⟩ := r
    exact ⟨a, xs, e, fun z => z, s, ld_drL A q⟩
  | _ => exact ld_dr A r
theorem ldd_drL {ι : List Addr} {π : Store} {H : Hp} (A : Wo F ι π H) : ∀ {ds : List D} {vs : List V}, DrL (F.G.at ι) (Mu F.M0 ι π) H ds vs → DrL (F.G.at ι) Nm H (ds.map (ldd π)) vs
  | [], _, r => r
  | d :: ds, vs, r => by
    obtain ⟨v, ws, e, q, t⟩ := r
    exact ⟨v, ws, e, ldd_dr A q, ldd_drL A t⟩
theorem fnD_weak (nx : NoXc g) (hg : FnD F.G r g) {σ : L2.St} {H : Hp} {Q : VK} (h : tX F E (eFnD g as) σ H Q) : tXA F E as σ H fun vs H1 => r vs H1 Q := by
  obtain ⟨ι, ρ, π, A, h⟩ := h
  refine ⟨ι, ρ, π, A, Go.mono (fun p hp vs ι1 H1 A1 e1 r1 => ?_) (Go.bind h)⟩
  have hp := Go.bind hp
  cases e : g (p.1.map (ldd p.2)) with
  | fail => rw [e] at hp; exact hp.elim
  | xc c d => exact absurd e (nx _ _ _ _)
  | ok d =>
    rw [e] at hp
    have hp : Go F E (if frz d = true then Res.ok (d, p.2) else .fail) (Kv F ι σ ρ π H Q) := hp
    split at hp
    · rename_i hf
      have hq : Kv F ι σ ρ π H Q (d, p.2) := hp
      exact hg _ _ _ _ _ _ _ (fun _ z => z.elim) (ldd_drL A1.wo r1) e fun v H' x r => hq v _ H' (A1.same x) (e1.trans (.of_ev x)) (frz_dr d v hf r)
    · exact hp.elim
theorem x_callBD (hc : CallR X (.builtin id) r) (hf : FnD F.G r g) (nx : NoXc g) (hm : X.mg x = none) (hv : bootBuiltins x = some (.builtin id)) (ha : PA X (e :: es) (tXA F E as)) (hg : Gl X x := by rfl) (hn : x ≠ "__name__" := by decide) (hdb : (x == ("__debug__" : Str)) = false := by decide)
    (he : starEach (e :: es) X.env = (false, eval e X.env) :: starEach es X.env := by rfl) (hpl : (backTo pos (starEach es X.env)).any (·.1) = false := by rfl) : PE X (.Call (.Name x p) (e :: es) [] pos) (tX F E (eFnD g as)) :=
  (pe_callB hc hg hm hv ha hn hdb he hpl).weak fun _ _ _ h => fnD_weak nx hf h
end
end Ph
end
section
set_option Elab.async false
set_option linter.all false
set_option maxRecDepth 100000
set_option maxHeartbeats 2000000
/-! Ph, part Rd: != of two own instances whose class has an own __eq__. -/
namespace Ph
open PySem PySem.Spec PyProof.Rows PySem.SeqAt L2
section
variable {M : Model} {prog : Program} {w : World} {A : Around} {E : Value → Shared → Prop} {s : Shared} {K : PySem.W.Frag} {x y C f : Addr} {ox oy : Obj} {od od' : Option Obj}
theorem ifBound_objNe {args : List Value} {Q : Option Value → Shared → Prop} (X : K.In s.heap) (I : PySem.W.InstAt s.heap x ox C od) (hs : PySem.W.findIn K (.ref C) "__ne__" = some (some (.builtin "object.__ne__")))
    (h : wpAny M A (call (.builtin "object.__ne__") (.ref x :: args)) (fun v => Q (some v)) E s) : wpAny M A (callSpecialIfBound? (.ref x) "__ne__" args) Q E s := by
  simp only [callSpecialIfBound?, bindSpecialIfBound?]
  refine wpAny_holding (wpAny_bind (wpAny_bind (wpAny_bind (I.type.here ((PySem.W.looks_findIn X hs).here ?_)))))
  refine wpAny_bind (wpAny_askSetting (wpAny_ite ?_))
  have fin : wpAny M A (call (.builtin "object.__ne__") ([.ref x] ++ args) >>= fun v => pure (some v)) Q E s := wpAny_bind (wpAny_mono h (fun v s' h' => wpAny_pure h') fun _ _ h' => h')
  split
  · exact wpAny_bind (wpAny_of_eq (F.cmp_object.ne.bind _) (wpAny_pure (by exact fin)))
  · exact wpAny_tryCatch (wpAny_bind (wpAny_of_eq (F.cmp_object.ne.bind _) (wpAny_pure (by exact fin))))
theorem entry_ne (hu : A.units < cLine) (X : K.In s.heap) (I : PySem.W.InstAt s.heap x ox C od) (he : PySem.W.findIn K (.ref C) "__eq__" = some (some (.ref f))) (hf : PySem.W.isFn K (.ref f) = true) {Q : Fin → Shared → Prop}
    (h : wpAny M A (call (.ref f) [.ref x, .ref y]) (fun v s' => ∃ b, v = .bool b ∧ Q (.done (.ret (.bool (!b)))) s') E s) : wpAny M A (Builtin.«object.__ne__» ⟨[.ref x, .ref y], []⟩) Q E s := by
  unfold Builtin.«object.__ne__»
  repeat (first
    | with_reducible refine wpAny_cRoomFor hu ?_
    | (refine wpAny_bind (m := callSpecialIfBound? (.ref x) (Str.ofString "__eq__") [.ref y])
        (PySem.W.ifBound_K X I he hf (wpAny_mono h (fun r s' hr => by
          obtain ⟨b, rfl, hq⟩ := hr
          repeat (first | exact hq | exact wpAny_pure hq | exact wpAny_truthy_bool hq | (refine wpAny_bind (m := truthy (.bool _)) (wpAny_truthy_bool ?_)) | wp_step)) fun _ _ e => e)))
    | wp_step)
theorem rc_ne (hu : A.units + 1 < cLine) (X : K.In s.heap) (I : PySem.W.InstAt s.heap x ox C od) (J : PySem.W.InstAt s.heap y oy C od') (hm : PySem.W.mroIn K C (.type "object") = some true)
    (hn : PySem.W.findIn K (.ref C) "__ne__" = some (some (.builtin "object.__ne__"))) (he : PySem.W.findIn K (.ref C) "__eq__" = some (some (.ref f))) (hf : PySem.W.isFn K (.ref f) = true) {Q : Value → Shared → Prop}
    (h : wpAny (model prog w) A.in1 (call (.ref f) [.ref x, .ref y]) (fun v s' => ∃ b, v = .bool b ∧ Q (.bool (!b)) s') E s) : wpAny (model prog w) A (richCompare .NotEq (.ref x) (.ref y)) Q E s := by
  have one : wpAny (model prog w) A (tryCompare (.ref x) "__ne__" (.ref y)) (fun r s' => ∃ v, r = some v ∧ Q v s') E s := by
    unfold tryCompare
    refine wpAny_bind (ifBound_objNe X I hn (wpAny_call (codeAny_call_builtin F.cmp_object.ne.plain F.cmpEntry_ne (PySem.W.check_slot F.cmpKind_ne F.cmpSplit_ne (I.type.andThen (PySem.W.looks_mroIn X hm)) (F.cmpArgs_ne _ _)
      (entry_ne (A := A.in1) hu X I he hf (wpAny_mono h (fun v s' hv => ?_) fun _ _ e => e))))))
    obtain ⟨b, rfl, hq⟩ := hv
    first | exact ⟨b, rfl, wpAny_pure ⟨_, rfl, hq⟩⟩ | exact ⟨b, rfl, _, rfl, hq⟩ | exact ⟨b, rfl, wpAny_pure (wpAny_pure ⟨_, rfl, hq⟩)⟩
  simp only [richCompare, cmpInfo_NotEq, oneThing_ref]
  refine wpAny_holding (wpAny_bind (wpAny_cRoomFor (Nat.lt_of_succ_lt hu) ?_))
  refine wpAny_bind (I.type.here (wpAny_bind (J.type.here ?_)))
  split
  · rename_i q
    simp at q
  · refine wpAny_bind (wpAny_pure ?_)
    simp only [Bool.false_eq_true, if_false]
    refine wpAny_bind (wpAny_mono one (fun r s' z => ?_) fun _ _ e => e)
    obtain ⟨v, rfl, hq⟩ := z
    exact wpAny_pure hq
end
/-- the class of number c takes its __ne__ from object -/
structure NeC (G : Gx) (c : Nat) : Prop where
  mro : PySem.W.mroIn G.K (G.cls c) (.type "object") = some true
  ne : PySem.W.findIn G.K (.ref (G.cls c)) "__ne__" = some (some (.builtin "object.__ne__"))
/-- a != b, both of the own class of number c -/
def eNeI (c : Nat) (g : List D → Store → Res (D × Store)) (a b : SE) : SE := fun ρ π => (eEqI c g a b ρ π).bind fun r => (bl? r.1).bind fun z => .ok (.bl (!z), r.2)
def rNeI (G : Gx) (c : Nat) (g : List D → Store → Res (D × Store)) (E : XK) : R2 := fun x y H Q => rEqI G c g E x y H fun v H' => ∀ z, v = .bl z → Q (.bl (!z)) H'
section
variable {X : Cx} {F : Fx} {E : XK} {a b : Expr} {c k : Nat} {pos : Pos} {fa fb : SE} {g : List D → Store → Res (D × Store)}
theorem op_neI (I : MtC X.prog X.w F.G X.mg X.base k c "__eq__" (spS F.G g)) (N : NeC F.G c) (hr : Room (k + 1) X.A) (hx : Passes (L2.CX X.prog X.w) X E) (hK : F.G.K = X.K := by rfl) : OpR X (compareOp .NotEq) (rNeI F.G c g E) := by
  obtain ⟨f, fd, ps, hc, hm, Fn, hb, hn⟩ := I.ex
  have n1 := N.mro
  have n2 := N.ne
  rw [hK] at hc hm Fn hb n1 n2
  intro pins s σ H x y v u Q I' rx ry hq
  obtain ⟨a, b, dx, dy, fs, gs, rfl, rfl, ha, hb', hq⟩ := hq
  cases rx
  cases ry
  obtain ⟨mA, J, _⟩ := ins_get I'.hok ha
  obtain ⟨mB, J', _⟩ := ins_get I'.hok hb'
  obtain ⟨od, J, _⟩ := J.look
  obtain ⟨od', J', _⟩ := J'.look
  show wpAny (model X.prog X.w) X.A (richCompare .NotEq (.ref a) (.ref b)) (EP X pins σ Q) X.xe s
  have hrm : Room k X.A.in1 := hr.in1
  refine rc_ne (by have := hr.un; omega) I'.kIn J J' n1 n2 hm.at_ hm.fn ?_
  have e0 : Env0 X.prog X.w X.K X.mg X.base X.A.in1 X.stack s H := by
    have e := I'.env0
    exact ⟨e.frames, e.mod, e.bs, e.bsz, e.funs, e.frf, e.hok, e.bare⟩
  have hl := Fn.len _ _ _ _ hq
  have r2 : Vals [V.ref a, V.ref b] [Value.ref a, Value.ref b] := .cons rfl (.cons rfl .nil)
  refine wpAny_call (codeAny_mono (Fn.run X.A.in1 X.stack s H ⟨[.ref a, .ref b], []⟩ [.ref a, .ref b] [.ref a, .ref b] _ E hrm e0 (by
    have := hb s [.ref a, .ref b] I'.kIn (by simpa using hl)
    simpa using this) r2 hq) fun r s' hq => ?_)
  cases r with
  | error e => exact hx pins σ H s e s' I' hq
  | ok fl =>
    cases fl with
    | ret w =>
      obtain ⟨z, H', I2, rz, ⟨bz, ez⟩, q⟩ := I'.after hq
      subst ez
      cases rz
      exact ⟨bz, rfl, .bl (!bz), H', I2, rfl, q bz rfl⟩
    | next => exact False.elim hq
    | brk => exact False.elim hq
    | cont => exact False.elim hq
theorem neI_weak {σ : L2.St} {H : Hp} {Q : VK} (h : tX F E (eNeI c g fa fb) σ H Q) : tOp (rNeI F.G c g E) (tX F E fa) (tX F E fb) σ H Q := by
  obtain ⟨ι, ρ, π, A, h⟩ := h
  refine eqI_weak (Q := fun v H' => ∀ z, v = .bl z → Q (.bl (!z)) H') ⟨ι, ρ, π, A, Go.mono (fun p hp v ι1 H1 A1 e1 r1 z ez => ?_) (Go.bind h)⟩
  subst ez
  have hp := Go.bind hp
  cases e : p.1 with
  | bl y =>
    rw [e] at hp r1
    have hq : Kv F ι σ ρ π H Q (D.bl (!y), p.2) := hp
    have ez : V.bl z = V.bl y := r1
    cases ez
    exact hq _ ι1 H1 A1 e1 rfl
  | _ => rw [e] at hp; exact hp.elim
theorem x_neI (I : MtC X.prog X.w F.G X.mg X.base k c "__eq__" (spS F.G g)) (N : NeC F.G c) (hr : Room (k + 1) X.A) (hx : Passes (L2.CX X.prog X.w) X E) (ha : PE X a (tX F E fa)) (hb : PE X b (tX F E fb)) (hm : behindInMarks .NotEq b = false) (hK : F.G.K = X.K := by rfl) : PE X (.Compare a [.NotEq] [b] pos) (tX F E (eNeI c g fa fb)) :=
  (pe_cmpR (op_neI I N hr hx hK) ha hb hm).weak fun _ _ _ h => neI_weak h
end
end Ph
end
section
set_option Elab.async false
set_option linter.all false
set_option maxRecDepth 100000
set_option maxHeartbeats 2000000
/-! Ph, part Re: a comprehension whose list is changed later. -/
namespace Ph
open PySem PySem.Spec PyProof.Rows L2
/-- a list made by a comprehension: a new cell -/
def eLcC (items : SA) (vs : List Nat) (tg : STg) (t : ST) (e : SE) : SE := fun ρ π => (items ρ π).bind fun p => (small5 p.1 ()).bind fun _ => (lcLoop tg t e p.1 (wipeE ρ vs) p.2).bind fun r => .ok (.ptr r.2.length, r.2 ++ [.lst r.1])
section
variable {G : Gx} {C M0 : Addr → Prop} {ι ι1 : List Addr} {π π1 : Store} {H H1 : Hp} {a : Addr} {c : Cell} {F : Fx} {acc : List D} {xs : List V}
theorem Gr.adopt (g : Gr C ι π H ι1 π1 H1) (il : ι1.length = π1.length) (ha : H a = none) : Gr C ι π H (ι1 ++ [a]) (π1 ++ [c]) H1 where
  ev := g.ev
  pre := g.pre.trans (pre_snoc _ _)
  frs := fun b h n => by
    rcases List.mem_append.mp h with h | h
    · exact g.frs b h n
    · rw [List.mem_singleton.mp h]; exact ha
  live := fun b h n => by
    obtain ⟨m, u, h1, h2, h3⟩ := h
    rcases get_snoc h1 with h1 | ⟨e, h1⟩
    · rcases get_snoc h2 with h2 | ⟨e, _⟩
      · exact g.live b ⟨m, u, h1, h2, h3⟩ n
      · have := (List.getElem?_eq_some_iff.mp h1).1
        omega
    · subst h1
      exact absurd ha n
theorem mu_adopt (il : ι.length = π.length) : ∀ b, Mu F.M0 (ι ++ [a]) (π ++ [c]) b → Mu (Hid F a) ι π b := fun b h => by
  rcases h with h | ⟨m, u, h1, h2, h3⟩
  · exact .inl (.inl h)
  · rcases get_snoc h1 with h1 | ⟨e, h1⟩
    · rcases get_snoc h2 with h2 | ⟨e, _⟩
      · exact .inr ⟨m, u, h1, h2, h3⟩
      · have := (List.getElem?_eq_some_iff.mp h1).1
        omega
    · exact .inl (.inr h1)
theorem Wd.adopt (W : Wd G (Hid F a) ι π H) (hι : a ∉ ι) (hm : ¬ F.M0 a) (hp : H a = some (.lst xs)) (ra : DrL (G.at ι) (Mu (Hid F a) ι π) H acc xs) : Wd G F.M0 (ι ++ [a]) (π ++ [.lst acc]) H where
  cel := fun m u e => by
    rcases get_snoc e with e | ⟨rfl, rfl⟩
    · obtain ⟨b, e1, r1⟩ := W.cel m u e
      exact ⟨b, get_app e1, Cl.mv (pre_snoc _ _) (.refl _ _) (fun b z _ => mu_adopt W.il b z) (fun o q => q) r1⟩
    · refine ⟨a, ?_, xs, hp, DrL.mv (pre_snoc _ _) (.refl _ _) (fun b z _ => mu_adopt W.il b z) _ _ ra⟩
      rw [← W.il, List.getElem?_append_right (Nat.le_refl _), Nat.sub_self]
      rfl
  il := by rw [List.length_append, List.length_append, W.il]; rfl
  nd := by
    refine List.nodup_append.mpr ⟨W.nd, by simp, fun b hb c' hc' => ?_⟩
    rw [List.mem_singleton.mp hc']
    intro z
    rw [z] at hb
    exact hι hb
  in_ := fun b h => by
    rcases List.mem_append.mp h with h | h
    · exact W.in_ b h
    · rw [List.mem_singleton.mp h, hp]; exact fun z => nomatch z
  m0 := fun b h => W.m0 b (.inl h)
  dis := fun b h z => by
    rcases List.mem_append.mp z with z | z
    · exact W.dis b (.inl h) z
    · rw [List.mem_singleton.mp z] at h
      exact hm h
end
section
variable {X : Cx} {F : Fx} {js js1 : List Nat} {E : XK} {elt tg iter tg1 iter1 c : Expr} {ifs ifs1 : List Expr} {scope : Scope} {own : List (Str × Nat)} {pos py spos : Pos} {items items1 : SA} {h h1 : STg} {ft ft1 : ST} {fe : SE} {y : Str}
theorem lc_weakC {σ : L2.St} {H : Hp} {Q : VK} (hj : (js.all fun i => (own.map (·.2)).contains i) = true) (hh : tX F E (eLcC items (own.map (·.2)) h ft fe) σ H Q) :
    tLc (tI F E items) (fun v σ H Q => ∃ M, tTg (F.wm M) EN js h v σ H Q) (fun σ H Q => ∃ M, tXT (F.wm M) EN ft σ H Q) (fun σ H Q => ∃ M, tX (F.wm M) EN fe σ H Q) (own.map (·.2)) σ H Q := by
  have hjn : ∀ i ∈ js, i ∈ own.map (·.2) := fun i hi => List.contains_iff_mem.mp (List.all_eq_true.mp hj i hi)
  generalize own.map (·.2) = vs at *
  obtain ⟨ι, ρ, π, A, hh⟩ := hh
  refine ⟨ι, ρ, π, A, Go.mono (fun p hp J ι1 H1 A1 e1 W Dl hD => ?_) (Go.bind hh)⟩
  have hp := Go.bind hp
  unfold small5 at hp
  split at hp
  case isFalse => exact hp.elim
  rename_i hz
  have hp := Go.bind (show Go F E (Res.bind (lcLoop h ft fe p.1 (wipeE ρ vs) p.2) _) _ from hp)
  have A1w : At F ι1 (L2.wipe σ vs) (wipeE ρ vs) p.2 H1 := A1.wipe
  have h0 : F.H0 Dl = none := A1.wo.gr.ev.fresh hD
  have hι1 : Dl ∉ ι1 := fun z => A1.wo.wd.in_ Dl z hD
  have gn : Gr (fun a => a = Dl) ι1 p.2 H1 ι1 p.2 (upd H1 Dl (.lst [])) := .of_ev (.new hD)
  refine ⟨fun i m H2 => m = p.1.length - i ∧ i ≤ p.1.length ∧ ∃ ι' π' acc, Lw F Dl ι1 p.2 (upd H1 Dl (.lst [])) (L2.wipe σ vs) (wipeE ρ vs) ι' π' acc H2 ∧ acc.length ≤ i ∧
      Go F E (lcLoop h ft fe (p.1.drop i) (wipeE ρ vs) π') (fun r => Kv F ι σ ρ π H Q (.ptr r.2.length, r.2 ++ [Cell.lst (acc ++ r.1)])),
    ⟨p.1.length, by simp, Nat.zero_le _, ι1, p.2, [], ⟨A1w.hide hD _, .refl _ _ _ _, [], upd_same, rfl⟩, Nat.le_refl _, hp⟩, ?_⟩
  rintro i m H2 ⟨rfl, hle, ι', π', acc, L, hal, hl⟩
  have evN : Ev (Mu Nm ι1 p.2) H1 H2 := ⟨fun a o e n => L.gr.ev.keep a o (by rw [upd_ne (ne_of_none e hD)]; exact e) fun z => by
      rcases z with z | z
      · rw [z, hD] at e; cases e
      · exact n (.inr z), fun a xs e => L.gr.ev.tup a xs (by rw [upd_ne (ne_of_none e hD)]; exact e), fun a o u e => L.gr.ev.frz a o u (by rw [upd_ne (ne_of_none e hD)]; exact e), fun a φ e => L.gr.ev.ext a φ (by rw [upd_ne (ne_of_none e hD)]; exact e), fun a e => L.gr.ev.there a (by
        by_cases z : a = Dl
        · rw [z, upd_same]; exact fun q => nomatch q
        · rw [upd_ne z]; exact e)⟩
  have ev : Ev (Mu F.M0 ι1 p.2) H1 H2 := evN.mono fun a z _ => z.elim (fun z => z.elim) .inr
  have muH : ∀ a, Mu (Hid F Dl) ι' π' a → H1 a ≠ none → Mu F.M0 ι1 p.2 a := fun a z n => by
    rcases z with (z | z) | z
    · exact .inl z
    · rw [z] at n; exact absurd hD n
    · refine .inr (L.gr.live a z ?_)
      by_cases e : a = Dl
      · rw [e, upd_same]; exact fun q => nomatch q
      · rw [upd_ne e]; exact n
  have hι' : Dl ∉ ι' := L.gr.out (o := .lst []) upd_same hι1
  by_cases hlt : i < p.1.length
  · refine .inr ⟨W.go i H2 ev hlt, fun H3 => i + 1 ≤ p.1.length ∧ ∃ ι' π' acc, Lw F Dl ι1 p.2 (upd H1 Dl (.lst [])) (L2.wipe σ vs) (wipeE ρ vs) ι' π' acc H3 ∧ acc.length ≤ i + 1 ∧
      Go F E (lcLoop h ft fe (p.1.drop (i + 1)) (wipeE ρ vs) π') (fun r => Kv F ι σ ρ π H Q (.ptr r.2.length, r.2 ++ [Cell.lst (acc ++ r.1)])), fun H3 ⟨z, q⟩ => ⟨p.1.length - (i + 1), by omega, rfl, z, q⟩, fun x H'' y => ?_⟩
    have hd : p.1[i]? = some p.1[i] := List.getElem?_eq_getElem hlt
    obtain ⟨ex, rx⟩ := W.yld i x H2 H'' _ ι' (Mu (Hid F Dl) ι' π') ev (List.IsPrefix.trans (List.prefix_refl _) L.gr.pre) muH L.at_.mx hd y
    rw [List.drop_eq_getElem_cons hlt] at hl
    obtain ⟨A2, g2, xs, hD2, ra⟩ := L
    have t := lc_turn (Nx := fun H3 => i + 1 ≤ p.1.length ∧ ∃ ι' π' acc, Lw F Dl ι1 p.2 (upd H1 Dl (.lst [])) (L2.wipe σ vs) (wipeE ρ vs) ι' π' acc H3 ∧ acc.length ≤ i + 1 ∧
      Go F E (lcLoop h ft fe (p.1.drop (i + 1)) (wipeE ρ vs) π') (fun r => Kv F ι σ ρ π H Q (.ptr r.2.length, r.2 ++ [Cell.lst (acc ++ r.1)])))
      (ws := vs) h0 hι' hjn ⟨A2.same ex, g2.trans (.of_ev ex), xs, ex.keep _ _ hD2 id, DrL.ev ex.nm _ _ ra⟩ rx (by omega) hl
      (fun ι3 H3 π3 new L3 _ hn hl3 => ⟨hlt, ι3, π3, acc ++ new, L3, by rw [List.length_append]; omega, Go.mono (fun r hr => by rw [List.append_assoc]; exact hr) hl3⟩)
    have hw : L2.wipe (L2.wipe σ vs) vs = L2.wipe σ vs := wipe_eq (wipe_len _) fun i hi => wipe_same hi
    rw [hw] at t
    exact t
  · have e : i = p.1.length := by omega
    subst e
    refine .inl ⟨W.stop _ H2 ev (Nat.le_refl _), ?_⟩
    rw [List.drop_length] at hl
    have hl : Kv F ι σ ρ π H Q (.ptr π'.length, π' ++ [Cell.lst (acc ++ [])]) := hl
    rw [List.append_nil] at hl
    obtain ⟨A2, g2, xs, hD2, ra⟩ := L
    have As := A2.show_ (F := F) fun a z => .inl z
    have g12 : Gr Nm ι1 p.2 H1 ι' π' H2 := ⟨evN, g2.pre, fun a h n => ?_, fun a h n => g2.live a h ?_⟩
    · have hm : ¬ F.M0 Dl := fun z => A1.wo.wd.m0 Dl z hD
      have W3 : Wo F (ι' ++ [Dl]) (π' ++ [.lst acc]) H2 := ⟨A2.wo.wd.adopt hι' hm hD2 ra, As.wo.gr.adopt A2.wo.wd.il h0⟩
      have g13 : Gr Nm ι1 p.2 H1 (ι' ++ [Dl]) (π' ++ [.lst acc]) H2 := g12.adopt A2.wo.wd.il hD
      exact hl (.ref Dl) _ H2 (A1.go W3 g13 fun _ z => z.elim) (e1.trans g13) (ptr_new A2.wo.wd.il)
    · have q := g2.frs a h n
      by_cases e : a = Dl
      · rw [e]; exact hD
      · rw [upd_ne e] at q; exact q
    · by_cases e : a = Dl
      · rw [e, upd_same]; exact fun q => nomatch q
      · rw [upd_ne e]; exact n

section
variable (hc : X.calm = true) (hN : X.N.Nodup) (hi : PI X tg iter (tI F E items)) (ok : BlkOk X.N X.env.scope scope own)
    (hg : ∀ (M : Addr → Prop) (s : Shared) (H : Hp) (C : Addr) (cl : List (Str × Addr)) (fp : List Addr), PG (X.blk s H scope (compEnvC scope cl C X.env) fp) tg (tTg (F.wm M) EN js h))
    (ht : ∀ (M : Addr → Prop) (s : Shared) (H : Hp) (C : Addr) (cl : List (Str × Addr)) (fp : List Addr), PTs (X.blk s H scope (compEnvC scope cl C X.env) fp) ifs (tXT (F.wm M) EN ft))
    (he : ∀ (M : Addr → Prop) (s : Shared) (H : Hp) (C : Addr) (cl : List (Str × Addr)) (fp : List Addr), PE (X.blk s H scope (compEnvC scope cl C X.env) fp) elt (tX (F.wm M) EN fe))
include hc hN hi ok hg ht he
theorem x_lcC (hj : (js.all fun i => (own.map (·.2)).contains i) = true := by rfl) (hs : ∀ x, foldedSetIterable iter X.env x = pure x := by intro _; rfl) :
    PE X (.ListComp elt [⟨tg, iter, ifs, 0⟩] scope pos) (tX F E (eLcC items (own.map (·.2)) h ft fe)) :=
  (pe_lc hc hN hi ok (fun s H C cl fp => PG.ex fun M => hg M s H C cl fp) (fun s H C cl fp => PTs.ex fun M => ht M s H C cl fp) (fun s H C cl fp => PE.ex fun M => he M s H C cl fp) hs).weak fun σ H Q hh => lc_weakC hj hh
end
end
section
variable {X : Cx} {F : Fx} {E : XK} {a b : Expr} {c k : Nat} {pos : Pos} {fa fb : SE} {g : List D → Store → Res (D × Store)}
theorem xt_eqI (I : MtC X.prog X.w F.G X.mg X.base k c "__eq__" (spS F.G g)) (hr : Room k X.A) (hx : Passes (L2.CX X.prog X.w) X E) (ha : PE X a (tX F E fa)) (hb : PE X b (tX F E fb)) (hm : behindInMarks .Eq b = false) (hK : F.G.K = X.K := by rfl) : PT X (.Compare a [.Eq] [b] pos) (tXT F E (tB (eEqI c g fa fb))) :=
  (pt_cmpR (op_eqI I hr hx hK) ha hb hm).weak fun _ _ _ h => test_weak (fun _ h => eqI_weak h) h
theorem xt_neI (I : MtC X.prog X.w F.G X.mg X.base k c "__eq__" (spS F.G g)) (N : NeC F.G c) (hr : Room (k + 1) X.A) (hx : Passes (L2.CX X.prog X.w) X E) (ha : PE X a (tX F E fa)) (hb : PE X b (tX F E fb)) (hm : behindInMarks .NotEq b = false) (hK : F.G.K = X.K := by rfl) : PT X (.Compare a [.NotEq] [b] pos) (tXT F E (tB (eNeI c g fa fb))) :=
  (pt_cmpR (op_neI I N hr hx hK) ha hb hm).weak fun _ _ _ h => test_weak (fun _ h => neI_weak h) h
end
end Ph
end
section
set_option Elab.async false
set_option linter.all false
set_option maxRecDepth 100000
set_option maxHeartbeats 2000000
/-! Ph, part Rg: dicts by ints, as cells. -/
namespace Ph
open PySem PySem.Spec PyProof.Rows L2
def lookI (kvs : List (Int × D)) (k : Int) : Option D := (kvs.find? fun kv => decide (kv.1 = k)).map (·.2)
def setI (kvs : List (Int × D)) (k : Int) (d : D) : List (Int × D) := if (kvs.any fun kv => decide (kv.1 = k)) = true then kvs.map (fun kv => if kv.1 = k then (kv.1, d) else kv) else kvs ++ [(k, d)]
abbrev zk (kvs : List (Int × D)) (xs : List V) : List (Key × V) := (kvs.map fun kv => (Sum.inl kv.1 : Key)).zip xs
section
variable {G : Gx} {M : Addr → Prop} {H : Hp} {k : Int} {d : D} {v : V}
theorem look_v : ∀ {kvs : List (Int × D)} {xs : List V}, DrL G M H (kvs.map (·.2)) xs → match lookI kvs k with
    | some d => ∃ v, valV (zk kvs xs) (.inl k) = some v ∧ Dr G M H d v
    | none => valV (zk kvs xs) (.inl k) = none
  | [], xs, r => by
    show valV (zk [] xs) (.inl k) = none
    simp [zk, valV]
  | (j, e) :: kvs, xs, r => by
    obtain ⟨x, ys, rfl, r1, r2⟩ := r
    by_cases hj : j = k
    · subst hj
      have : lookI ((j, e) :: kvs) j = some e := by simp [lookI]
      rw [this]
      exact ⟨x, by simp [zk, valV], r1⟩
    · have e1 : lookI ((j, e) :: kvs) k = lookI kvs k := by simp [lookI, List.find?_cons, hj]
      have e2 : valV (zk ((j, e) :: kvs) (x :: ys)) (.inl k) = valV (zk kvs ys) (.inl k) := by
        have : ¬ ((Sum.inl j : Key) = .inl k) := fun z => hj (by cases z; rfl)
        simp [zk, valV, List.find?_cons, this]
      rw [e1, e2]
      exact look_v r2
theorem any_zk : ∀ {kvs : List (Int × D)} {xs : List V}, xs.length = kvs.length → ((zk kvs xs).any fun kv => decide (kv.1 = .inl k)) = kvs.any fun kv => decide (kv.1 = k)
  | [], xs, _ => by simp [zk]
  | (j, e) :: kvs, [], h => by simp at h
  | (j, e) :: kvs, x :: xs, h => by
    have ih := any_zk (kvs := kvs) (xs := xs) (by simpa using h)
    have ej : decide ((Sum.inl j : Key) = .inl k) = decide (j = k) := by
      rw [Bool.eq_iff_iff]
      simp
    show ((Sum.inl j, x) :: zk kvs xs).any _ = _
    rw [List.any_cons, List.any_cons, ih]
    show (decide ((Sum.inl j : Key) = .inl k) || _) = (decide (j = k) || _)
    rw [ej]
theorem map_zk (rd : Dr G M H d v) : ∀ {kvs : List (Int × D)} {xs : List V}, DrL G M H (kvs.map (·.2)) xs → ∃ ys, (zk kvs xs).map (fun kv => if kv.1 = .inl k then (kv.1, v) else kv) = zk (kvs.map fun kv => if kv.1 = k then (kv.1, d) else kv) ys ∧ DrL G M H ((kvs.map fun kv => if kv.1 = k then (kv.1, d) else kv).map (·.2)) ys
  | [], xs, r => ⟨[], by simp [zk], rfl⟩
  | (j, e) :: kvs, xs, r => by
    obtain ⟨x, ys, rfl, r1, r2⟩ := r
    obtain ⟨zs, e1, q⟩ := map_zk rd r2
    by_cases hj : j = k
    · subst hj
      refine ⟨v :: zs, ?_, ⟨v, zs, rfl, by simpa using rd, q⟩⟩
      show ((Sum.inl j, x) :: zk kvs ys).map _ = _
      rw [List.map_cons, e1]
      simp [zk]
    · have nj : ¬ ((Sum.inl j : Key) = .inl k) := fun z => hj (by cases z; rfl)
      refine ⟨x :: zs, ?_, ⟨x, zs, rfl, by simpa [hj] using r1, q⟩⟩
      show ((Sum.inl j, x) :: zk kvs ys).map _ = _
      rw [List.map_cons, e1]
      simp [zk, hj, nj]
theorem put_v (rd : Dr G M H d v) {kvs : List (Int × D)} {xs : List V} (r : DrL G M H (kvs.map (·.2)) xs) : ∃ ys, putK (zk kvs xs) (.inl k) v = zk (setI kvs k d) ys ∧ DrL G M H ((setI kvs k d).map (·.2)) ys := by
  have hl : xs.length = kvs.length := by rw [r.length, List.length_map]
  unfold putK setI
  rw [any_zk hl]
  by_cases h : (kvs.any fun kv => decide (kv.1 = k)) = true
  · rw [if_pos h, if_pos h]
    exact map_zk rd r
  · rw [if_neg h, if_neg h]
    refine ⟨xs ++ [v], ?_, ?_⟩
    · show zk kvs xs ++ [(Sum.inl k, v)] = zk (kvs ++ [(k, d)]) (xs ++ [v])
      unfold zk
      rw [List.map_append, List.zip_append (by rw [List.length_map, hl])]
      rfl
    · rw [List.map_append]
      exact r.append (.one rd)
end
/-- d[k] -/
def eDGetI (o i : SE) : SE := fun ρ π => (o ρ π).bind fun p => (i ρ p.2).bind fun q => match p.1 with
  | .ptr n => match q.2[n]? with
    | some (.dki kvs) => (int? q.1).bind fun k => (Res.of (lookI kvs k)).bind fun d => .ok (d, q.2)
    | _ => .fail
  | _ => .fail
/-- {}, to be a dict by ints -/
def eNewI : SE := fun _ π => .ok (.ptr π.length, π ++ [.dki []])
section
variable {X : Cx} {F : Fx} {E : XK} {o i e : Expr} {pos pos' : Pos} {fo fi fe : SE}
theorem x_dgetI (hu : X.A.units + 1 < cLine) (ho : PE X o (tX F E fo)) (hi : PE X i (tX F E fi)) (hs : NoSl i) : PE X (.Subscript o i pos) (tX F E (eDGetI fo fi)) :=
  (pe_dget hu ho hi hs).weak fun σ H Q h => by
    obtain ⟨ι, ρ, π, A, h⟩ := h
    refine ⟨ι, ρ, π, A, Go.mono (fun p hp v ι1 H1 A1 e1 r1 => ⟨ι1, ρ, p.2, A1, Go.mono (fun q hq w ι2 H2 A2 e2 r2 => ?_) (Go.bind hp)⟩) (Go.bind h)⟩
    have r1' := Dr.gr e2 (fun _ z => z.elim) r1
    cases ep : p.1 with
    | ptr n =>
      rw [ep] at hq r1'
      cases ec : q.2[n]? with
      | none => simp only [ec] at hq; exact hq.elim
      | some c =>
        cases c with
        | dki kvs =>
          simp only [ec] at hq
          have hq := Go.bind hq
          cases eq : q.1 with
          | int k =>
            rw [eq] at hq r2
            have hq := Go.bind (show Go F E ((Res.of (lookI kvs k)).bind fun d => .ok (d, q.2)) (Kv F ι σ ρ π H Q) from hq)
            obtain ⟨a, rfl, hn, xs, s, rx⟩ := A2.wo.cell r1' ec
            have l := look_v (k := k) rx
            cases el : lookI kvs k with
            | none => rw [el] at hq; exact hq.elim
            | some d =>
              rw [el] at hq l
              obtain ⟨x, ev, rd⟩ := l
              have hq : Kv F ι σ ρ π H Q (d, q.2) := hq
              obtain rfl : w = V.int k := r2
              refine ⟨a, x, rfl, ?_, hq x ι2 H2 A2 (e1.trans e2) rd⟩
              have := DGet.k (k := .inl k) s
              rw [ev] at this
              exact this
          | _ => rw [eq] at hq; exact hq.elim
        | _ => simp only [ec] at hq; exact hq.elim
    | _ => rw [ep] at hq; exact hq.elim
theorem x_newI : PE X (.Dict [] [] pos) (tX F E eNewI) := pe_dnewK.weak fun σ H Q h => by
  obtain ⟨ι, ρ, π, A, h⟩ := h
  intro a ha
  have h : Kv F ι σ ρ π H Q (.ptr π.length, π ++ [.dki []]) := h
  have g : Gr Nm ι π H (ι ++ [a]) (π ++ [.dki []]) (upd H a (.dK [])) := .add A.wo.wd ha (.new ha)
  exact h (.ref a) _ _ (A.add ha (.new ha) (by rw [upd_same]; exact fun q => nomatch q) ⟨[], by rw [upd_same]; rfl, rfl⟩) g (ptr_new A.wo.wd.il)
theorem put_dki {ι : List Addr} {σ : L2.St} {ρ : En} {π : Store} {H : Hp} {n : Nat} {a : Addr} {l l' : List (Int × D)} {o : HO} {xs' : List V} (A : At F ι σ ρ π H) (hn : ι[n]? = some a) (hc : π[n]? = some (.dki l)) {xs : List V} (s : H a = some (.dK (zk l xs))) (r : DrL (F.G.at ι) (Mu F.M0 ι π) H (l'.map (·.2)) xs') :
    At F ι σ ρ (π.set n (.dki l')) (upd H a (.dK (zk l' xs'))) ∧ Gr Nm ι π H ι (π.set n (.dki l')) (upd H a (.dK (zk l' xs'))) := by
  have x : Ev (fun b => b = a) H (upd H a (.dK (zk l' xs'))) := .put rfl s
  have g : Gr Nm ι π H ι (π.set n (.dki l')) (upd H a (.dK (zk l' xs'))) := .put hn hc (fun z => nomatch z) x
  exact ⟨A.putC hn hc (fun z => nomatch z) x ⟨xs', upd_same, DrL.gr g (fun _ z => z.elim) r⟩, g⟩
/-- d[k] = e -/
def sDPutI (o i e : SE) : SS := fun ρ π => (e ρ π).bind fun v => (o ρ v.2).bind fun p => (i ρ p.2).bind fun q => match p.1 with
  | .ptr n => match q.2[n]? with
    | some (.dki kvs) => (int? q.1).bind fun k => if kvs.length < 100000 then .ok (.nx ρ (q.2.set n (.dki (setI kvs k v.1)))) else .fail
    | _ => .fail
  | _ => .fail
theorem s_dputI (hu : X.A.units + 1 < cLine) (ho : PE X o (tX F E fo)) (hi : PE X i (tX F E fi)) (he : PE X e (tX F E fe)) (hs : swapsWith e (some (.Subscript o i pos')) pos.line X.env = pure false := by rfl) : PS X (.Assign [.Subscript o i pos'] e pos) (tS F E (sDPutI fo fi fe)) :=
  (ps_dput hu ho hi he hs).weak fun D σ H h => by
    obtain ⟨ι, ρ, π, A, h⟩ := h
    refine ⟨ι, ρ, π, A, Go.mono (fun v hv x ι1 H1 A1 e1 r1 => ⟨ι1, ρ, v.2, A1, Go.mono (fun p hp y ι2 H2 A2 e2 r2 => ⟨ι2, ρ, p.2, A2, Go.mono (fun q hq z ι3 H3 A3 e3 r3 => ?_) (Go.bind hp)⟩) (Go.bind hv)⟩) (Go.bind h)⟩
    have r1' := Dr.gr (e2.trans e3) (fun _ z => z.elim) r1
    have r2' := Dr.gr e3 (fun _ z => z.elim) r2
    cases ep : p.1 with
    | ptr n =>
      rw [ep] at hq r2'
      cases ec : q.2[n]? with
      | none => simp only [ec] at hq; exact hq.elim
      | some c =>
        cases c with
        | dki kvs =>
          simp only [ec] at hq
          have hq := Go.bind hq
          cases eq : q.1 with
          | int k =>
            rw [eq] at hq r3
            have hq : Go F E (if kvs.length < 100000 then Res.ok (Fl.nx ρ (q.2.set n (.dki (setI kvs k v.1)))) else .fail) (Fw F ι π H D) := hq
            split at hq
            · rename_i hl
              have hq : Fw F ι π H D (.nx ρ (q.2.set n (.dki (setI kvs k v.1)))) := hq
              obtain ⟨a, rfl, hn, xs, s, rx⟩ := A3.wo.cell r2' ec
              obtain ⟨ys, ey, ry⟩ := put_v r1' rx (k := k)
              obtain rfl : z = V.int k := r3
              have lx : (zk kvs xs).length = kvs.length := by
                unfold zk
                rw [List.length_zip, List.length_map, rx.length, List.length_map]
                omega
              obtain ⟨A4, g4⟩ := put_dki (o := .dK []) A3 hn ec s ry
              refine ⟨a, _, rfl, DPut.k (k := .inl k) s (by rw [lx]; exact Nat.lt_of_lt_of_le hl (big (Nat.le_refl _))), ?_⟩
              rw [ey]
              exact hq ι3 σ _ A4 (((e1.trans e2).trans e3).trans g4)
            · exact hq.elim
          | _ => rw [eq] at hq; exact hq.elim
        | _ => simp only [ec] at hq; exact hq.elim
    | _ => rw [ep] at hq; exact hq.elim
/-- a in d, a not in d -/
def tDinI (neg : Bool) (a b : SE) : ST := fun ρ π => (a ρ π).bind fun x => (b ρ x.2).bind fun y => match y.1 with
  | .ptr n => match y.2[n]? with
    | some (.dki kvs) => (int? x.1).bind fun k => .ok (if neg then !(lookI kvs k).isSome else (lookI kvs k).isSome, y.2)
    | _ => .fail
  | _ => .fail
theorem dinI_weak {neg : Bool} {σ : L2.St} {H : Hp} {Q : Bool → Hp → Prop} (h : tXT F E (tDinI neg fi fo) σ H Q) : tX F E fi σ H fun y H1 => tX F E fo σ H1 fun x H2 => ∃ a o, x = .ref a ∧ DGet H2 a y o ∧ Q (if neg then !o.isSome else o.isSome) H2 := by
  obtain ⟨ι, ρ, π, A, h⟩ := h
  refine ⟨ι, ρ, π, A, Go.mono (fun p hp x ι1 H1 A1 e1 r1 => ⟨ι1, ρ, p.2, A1, Go.mono (fun q hq y ι2 H2 A2 e2 r2 => ?_) (Go.bind hp)⟩) (Go.bind h)⟩
  have r1' := Dr.gr e2 (fun _ z => z.elim) r1
  cases ep : q.1 with
  | ptr n =>
    rw [ep] at hq r2
    cases ec : q.2[n]? with
    | none => simp only [ec] at hq; exact hq.elim
    | some c =>
      cases c with
      | dki kvs =>
        simp only [ec] at hq
        have hq := Go.bind hq
        cases eq : p.1 with
        | int k =>
          rw [eq] at hq r1'
          have hq : ∀ ι' H', At F ι' σ ρ q.2 H' → Gr Nm ι π H ι' q.2 H' → Q (if neg then !(lookI kvs k).isSome else (lookI kvs k).isSome) H' := hq
          obtain ⟨a, rfl, hn, xs, s, rx⟩ := A2.wo.cell r2 ec
          obtain rfl : x = V.int k := r1'
          refine ⟨a, valV (zk kvs xs) (.inl k), rfl, DGet.k (k := .inl k) s, ?_⟩
          have l := look_v (k := k) rx
          have es : (valV (zk kvs xs) (.inl k)).isSome = (lookI kvs k).isSome := by
            cases el : lookI kvs k with
            | none => rw [el] at l; rw [l]; rfl
            | some d =>
              rw [el] at l
              obtain ⟨v, ev, _⟩ := l
              rw [ev]; rfl
          rw [es]
          exact hq _ _ A2 (e1.trans e2)
        | _ => rw [eq] at hq; exact hq.elim
      | _ => simp only [ec] at hq; exact hq.elim
  | _ => rw [ep] at hq; exact hq.elim
theorem xt_dinI (hu : X.A.units + 1 < cLine) (ha : PE X i (tX F E fi)) (hb : PE X o (tX F E fo)) (hm : behindInMarks .In o = false) : PT X (.Compare i [.In] [o] pos) (tXT F E (tDinI false fi fo)) :=
  (pt_cmp (pc_din hu ha hb) hm).weak fun σ H Q h => by
    obtain ⟨ι, ρ, π, A, q⟩ := dinI_weak h
    refine ⟨ι, ρ, π, A, Go.mono (fun p hp v ι1 H1 A1 e1 r1 => ?_) q⟩
    obtain ⟨ι2, ρ2, π2, A2, q2⟩ := hp v ι1 H1 A1 e1 r1
    refine ⟨ι2, ρ2, π2, A2, Go.mono (fun p2 hp2 v2 ι3 H3 A3 e3 r3 => ?_) q2⟩
    obtain ⟨a, o, ex, g, q3⟩ := hp2 v2 ι3 H3 A3 e3 r3
    exact ⟨a, o, ex, g, _, rfl, q3⟩
theorem xt_dnotI (hu : X.A.units + 1 < cLine) (ha : PE X i (tX F E fi)) (hb : PE X o (tX F E fo)) (hm : behindInMarks .NotIn o = false) : PT X (.Compare i [.NotIn] [o] pos) (tXT F E (tDinI true fi fo)) :=
  (pt_cmp (pc_dnotin hu ha hb) hm).weak fun σ H Q h => by
    obtain ⟨ι, ρ, π, A, q⟩ := dinI_weak h
    refine ⟨ι, ρ, π, A, Go.mono (fun p hp v ι1 H1 A1 e1 r1 => ?_) q⟩
    obtain ⟨ι2, ρ2, π2, A2, q2⟩ := hp v ι1 H1 A1 e1 r1
    refine ⟨ι2, ρ2, π2, A2, Go.mono (fun p2 hp2 v2 ι3 H3 A3 e3 r3 => ?_) q2⟩
    obtain ⟨a, o, ex, g, q3⟩ := hp2 v2 ι3 H3 A3 e3 r3
    exact ⟨a, o, ex, g, _, rfl, q3⟩
end
end Ph
end
section
set_option Elab.async false
set_option linter.all false
set_option maxRecDepth 100000
set_option maxHeartbeats 2000000
/-! Ph, part Rh: a dict by ints displayed with one pair. -/
namespace Ph
open PySem PySem.Spec PyProof.Rows L2
section
variable {F : Fx} {ι : List Addr} {σ : L2.St} {ρ : En} {π : Store} {H : Hp} {a : Addr} {c : Cell} {G : Gx}
/-- the hidden thing is written -/
theorem At.putO (A : At F ι σ ρ π H) {p : Addr} {o : HO} (hm : F.M0 p) (hι : p ∉ ι) (h0 : F.H0 p = none) (e : Ev F.M0 H (upd H p o)) : At F ι σ ρ π (upd H p o) := by
  have e' : Ev (Mu F.M0 ι π) H (upd H p o) := e.mono fun b h _ => .inl h
  have q := A.wo.gr
  refine ⟨fun i d h => ?_, ⟨⟨fun n c h => ?_, A.wo.wd.il, A.wo.wd.nd, fun a h => e.there a (A.wo.wd.in_ a h), fun a h => e.there a (A.wo.wd.m0 a h), A.wo.wd.dis⟩, ⟨⟨fun a o h n => ?_, fun a zs h => ?_, fun a o u h => ?_, fun a φ h => ?_, fun a h => e.there a (q.ev.there a h)⟩, q.pre, q.frs, q.live⟩⟩, A.len⟩
  · obtain ⟨v, e1, r⟩ := A.val i d h
    exact ⟨v, e1, Dr.ev e' _ _ r⟩
  · obtain ⟨a, e1, r⟩ := A.wo.wd.cel n c h
    refine ⟨a, e1, Cl.mv (List.prefix_refl _) e' (fun _ h _ => h) (fun o z => ?_) r⟩
    rw [upd_ne (fun z' => hι (by rw [← z']; exact List.mem_of_getElem? e1))]
    exact z
  · rw [upd_ne (ne_of_none h h0)]
    exact q.ev.keep a o h n
  · rw [upd_ne (ne_of_none h h0)]
    exact q.ev.tup a zs h
  · rw [upd_ne (ne_of_none h h0)]
    exact q.ev.frz a o u h
  · rw [upd_ne (ne_of_none h h0)]
    exact q.ev.ext a φ h
theorem Wd.adopt' (W : Wd G (Hid F a) ι π H) (hι : a ∉ ι) (hm : ¬ F.M0 a) (hs : H a ≠ none) (r : Cl (G.at (ι ++ [a])) (Mu F.M0 (ι ++ [a]) (π ++ [c])) H a c) : Wd G F.M0 (ι ++ [a]) (π ++ [c]) H where
  cel := fun m u e => by
    rcases get_snoc e with e | ⟨rfl, rfl⟩
    · obtain ⟨b, e1, r1⟩ := W.cel m u e
      exact ⟨b, get_app e1, Cl.mv (pre_snoc _ _) (.refl _ _) (fun b z _ => mu_adopt W.il b z) (fun o q => q) r1⟩
    · refine ⟨a, ?_, r⟩
      rw [← W.il, List.getElem?_append_right (Nat.le_refl _), Nat.sub_self]
      rfl
  il := by rw [List.length_append, List.length_append, W.il]; rfl
  nd := by
    refine List.nodup_append.mpr ⟨W.nd, by simp, fun b hb c' hc' => ?_⟩
    rw [List.mem_singleton.mp hc']
    intro z
    rw [z] at hb
    exact hι hb
  in_ := fun b h => by
    rcases List.mem_append.mp h with h | h
    · exact W.in_ b h
    · rw [List.mem_singleton.mp h]; exact hs
  m0 := fun b h => W.m0 b (.inl h)
  dis := fun b h z => by
    rcases List.mem_append.mp z with z | z
    · exact W.dis b (.inl h) z
    · rw [List.mem_singleton.mp z] at h
      exact hm h
end
theorem gr_hide {o' : HO} {Dl : Addr} {ι1 ι' : List Addr} {π1 π' : Store} {H1 H2 : Hp} (g : Gr (fun a => a = Dl) ι1 π1 (upd H1 Dl o') ι' π' H2) (hD : H1 Dl = none) : Gr Nm ι1 π1 H1 ι' π' H2 :=
  ⟨⟨fun a o e n => g.ev.keep a o (by rw [upd_ne (ne_of_none e hD)]; exact e) fun z => by
      rcases z with z | z
      · rw [z, hD] at e; cases e
      · exact n (.inr z), fun a xs e => g.ev.tup a xs (by rw [upd_ne (ne_of_none e hD)]; exact e), fun a o u e => g.ev.frz a o u (by rw [upd_ne (ne_of_none e hD)]; exact e), fun a φ e => g.ev.ext a φ (by rw [upd_ne (ne_of_none e hD)]; exact e), fun a e => g.ev.there a (by
        by_cases z : a = Dl
        · rw [z, upd_same]; exact fun q => nomatch q
        · rw [upd_ne z]; exact e)⟩, g.pre, fun a h n => by
    have q := g.frs a h n
    by_cases e : a = Dl
    · rw [e]; exact hD
    · rw [upd_ne e] at q; exact q, fun a h n => g.live a h (by
    by_cases e : a = Dl
    · rw [e, upd_same]; exact fun q => nomatch q
    · rw [upd_ne e]; exact n)⟩
/-- {k: v} -/
def eDispI (k v : SE) : SE := fun ρ π => (noX (k ρ π)).bind fun p => (noX (v ρ p.2)).bind fun q => (int? p.1).bind fun n => .ok (.ptr q.2.length, q.2 ++ [.dki [(n, q.1)]])
section
variable {X : Cx} {F : Fx} {E : XK} {k v : Expr} {pos : Pos} {fk fv : SE}
theorem x_dispI (hk : ∀ M : Addr → Prop, PE X k (tX (F.wm M) EN fk)) (hv : ∀ M : Addr → Prop, PE X v (tX (F.wm M) EN fv)) : PE X (.Dict [some k] [v] pos) (tX F E (eDispI fk fv)) :=
  (pe_disp (pps_cons (PE.ex fun M => hk M) (PE.ex fun M => hv M) pps_nil) rfl rfl (by simp) (by simp)).weak fun σ H Q h => by
    obtain ⟨ι, ρ, π, A, h⟩ := h
    intro p hp
    have h := Go.bind h
    have Ah := A.hide hp (.dK [])
    have hιp : p ∉ ι := fun z => A.wo.wd.in_ p z hp
    have h0 : F.H0 p = none := A.wo.gr.ev.fresh hp
    have hm : ¬ F.M0 p := fun z => A.wo.wd.m0 p z hp
    refine ⟨Hid F p, ι, ρ, π, Ah, Go.noX (F := F) (E := E) (Go.mono (fun kd hq x ι1 H1 A1 g1 r1 => ?_) h)⟩
    have hq := Go.bind hq
    refine ⟨Hid F p, ι1, ρ, kd.2, A1, Go.noX (F := F) (E := E) (Go.mono (fun vd hw y ι2 H2 A2 g2 r2 => ?_) hq)⟩
    have hw := Go.bind hw
    have g12 := g1.trans g2
    have hD2 : H2 p = some (.dK []) := g12.kept upd_same hιp
    have hι2 := g12.out (o := .dK []) upd_same hιp
    cases ek : kd.1 with
    | int n =>
      rw [ek] at hw r1
      have hw : Kv F ι σ ρ π H Q (.ptr vd.2.length, vd.2 ++ [.dki [(n, vd.1)]]) := hw
      obtain rfl : x = V.int n := r1
      refine ⟨hD2, [(.inl n, y)], rfl, (by show 1 ≤ 15; decide), ?_⟩
      have em : mergeK [] [((.inl n : Key), y)] = [(.inl n, y)] := rfl
      rw [em]
      have e3 : Ev (Hid F p) H2 (upd H2 p (.dK [(.inl n, y)])) := .put (.inr rfl) hD2
      have A3 : At (F.wm (Hid F p)) ι2 σ ρ vd.2 (upd H2 p (.dK [(.inl n, y)])) := A2.putO (.inr rfl) hι2 h0 e3
      have r3 := Dr.ev (e3.mono fun b z _ => (.inl z : Mu (Hid F p) ι2 vd.2 b)) _ _ r2
      have gp : Gr (fun a => a = p) ι2 vd.2 H2 ι2 vd.2 (upd H2 p (.dK [(.inl n, y)])) := ⟨.put (.inl rfl) hD2, List.prefix_refl _, fun _ h n => absurd h n, fun _ h _ => h⟩
      have g13 := (gr_hide (g12.nm.trans gp) hp).adopt (c := .dki [(n, vd.1)]) A3.wo.wd.il hp
      have W3 := A3.wo.wd.adopt' (c := .dki [(n, vd.1)]) hι2 hm (by rw [upd_same]; exact fun z => nomatch z) ⟨[y], by rw [upd_same]; rfl, DrL.mv (pre_snoc _ _) (.refl _ _) (fun b z _ => mu_adopt A3.wo.wd.il b z) [vd.1] [y] (.one r3)⟩
      exact hw (.ref p) _ _ (A.go ⟨W3, A.wo.gr.trans g13⟩ g13 fun _ z => z.elim) g13 (ptr_new A3.wo.wd.il)
    | _ => rw [ek] at hw; exact hw.elim
end
end Ph
end
section
set_option Elab.async false
set_option linter.all false
set_option maxRecDepth 100000
set_option maxHeartbeats 2000000
/-! Ph, part Ri: sorted(d) of a dict by ints. -/
namespace Ph
open PySem PySem.Spec PySem.W PyProof.Rows L2
section
variable {X : Cx}
def rSortedI : List V → Hp → VK → Prop := fun xs H Q => ∃ (a : Addr) (kvs : List (Key × V)) (ns : List Int), xs = [.ref a] ∧ H a = some (.dK kvs) ∧ kvs.map (·.1) = ns.map Sum.inl ∧ ns.length < 64 ∧
  ∀ (ns' : List Int) (p : Addr), ns'.Perm ns → ns'.Pairwise (· ≤ ·) → H p = none → Q (.ref p) (upd H p (.lst (ns'.map V.int)))
theorem cr_sortedI (hc : X.calm = true) : CallR X (.builtin "sorted") rSortedI := by
  intro pins s σ H xs us Q I r h
  obtain ⟨a, kvs, ns, rfl, hk, hkn, h64, q⟩ := h
  rw [Vals.ref1 r]
  obtain ⟨z, lo, vs, rk, hd⟩ := (show ObjOk X.prog X.w H s.heap a (.dK kvs) from I.hok a _ hk)
  obtain ⟨ep, hat⟩ := hd.dictAt
  have hl : kvs.length = vs.length := Paired.length rk
  have hl' : vs.length = ns.length := by
    have := congrArg List.length hkn
    rw [List.length_map, List.length_map] at this
    omega
  refine Calls.call_function_entry kind_sorted plain_sorted entry_sorted (args_sorted1 _) ?_
  unfold Builtin.«sorted»
  refine wpAny_bind (m := checkCount "sorted" 1 1 _) (wpAny_pure ?_)
  refine wpAny_bind (collect_src (kdl_dict (knd := mixKind X.prog X.w) (kvs := vs) (ep := ep) lo) (I.ok.hd hc) hat (by rw [← hl]; exact z) fun h' tk acc hkeep hge0 hacc => ?_)
  have hal : acc.toList.length = ns.length := by rw [Array.length_toList, hacc.1, hl']
  have hI : IntsAre acc.toList ns := by
    have rel : Vals (ns.map V.int) acc.toList := by
      refine vals_of_at (by rw [List.length_map, hal]) fun j x u h1 h2 => ?_
      obtain ⟨k, y, hky, hi⟩ := hacc.2 j u (by rw [← Array.getElem?_toList]; exact h2)
      have e1 : (kvs.map (·.1))[j]? = some k := by
        rw [KV.keys rk, List.getElem?_map, hky] <;> rfl
      rw [hkn, List.getElem?_map] at e1
      rw [List.getElem?_map] at h1
      cases e3 : ns[j]? with
      | none => rw [e3] at h1; cases h1
      | some m =>
        rw [e3] at h1 e1
        cases h1
        cases e1
        exact keyIs_rel (k := .inl m) hi
    exact rel.ints
  refine wpAny_bind (wpAny_newList ?_ (by rw [hal]; exact small64 h64))
  have hoL : (h'.push (seqObj "list" acc.toList.toArray 0)).get? h'.objs.size = some (seqObj "list" acc.toList.toArray 0) := Heap.get?_push_size _ rfl
  refine wpAny_bind (wpAny_holding (wpAny_call_entry slot_list_sort ⟨_, hoL, rfl⟩ entry_list_sort (list_sort_tree hoL hI (by rw [hal]; exact h64) fun out ns' a1 a2 a3 => ⟨_, rfl, ?_⟩) (args_list_sort _)))
  obtain ⟨c, hcc⟩ := sortedHeap_at (vs := acc.toList) (out := out) hoL
  have hge : s.heap.objs.size ≤ h'.objs.size := Nat.le_of_lt hge0
  refine wpAny_pure ⟨_, rfl, .ref h'.objs.size, upd H h'.objs.size (.lst (ns'.map V.int)), I.laid (t' := tk) (fun b u e => ?_) hge ⟨by rw [List.length_map, a2.length_eq]; exact small64 h64, out.toList, c, vals_of_ints a1, by simpa using hcc⟩, rfl, q ns' _ a2 a3 (I.hok.fresh hge)⟩
  have q := hkeep b u e
  have hlt := Heap.lt_size q
  show (sortedHeap (h'.push (seqObj "list" acc.toList.toArray 0)) h'.objs.size acc.toList out).get? b = some u
  rw [sortedHeap_old (Nat.ne_of_lt hlt) (by rw [size_push']; exact Nat.lt_succ_of_lt hlt)]
  exact Heap.get?_push_of_some _ q

end
def eSortI (e : SE) : SE := fun ρ π => (e ρ π).bind fun p => match p.1 with
  | .ptr n => match p.2[n]? with
    | some (.dki kvs) => if kvs.length < 64 then .ok (.lst ((sortI (kvs.map (·.1))).map D.int), p.2) else .fail
    | _ => .fail
  | _ => .fail
section
variable {X : Cx} {F : Fx} {E : XK} {e : Expr} {fe : SE} {p pos : Pos}
theorem x_sortI (hm : X.mg "sorted" = none) (he : PE X e (tX F E fe)) (hc : X.calm = true := by rfl) (hg : Gl X "sorted" := by rfl) (hs : starEach [e] X.env = (false, eval e X.env) :: starEach [] X.env := by rfl) (hpl : (backTo pos (starEach [] X.env)).any (·.1) = false := by rfl) :
    PE X (.Call (.Name "sorted" p) [e] [] pos) (tX F E (eSortI fe)) := (pe_callB (cr_sortedI hc) hg hm (by decide +kernel) (pa_cons he pa_nil hs) (by decide) (by decide) hs hpl).weak fun σ H Q h => by
  obtain ⟨ι, ρ, π, A, h⟩ := h
  refine ⟨ι, ρ, π, A, Go.mono (fun q hq v ι1 H1 A1 e1 r1 => ?_) (Go.bind h)⟩
  cases ep : q.1 with
  | ptr n =>
    rw [ep] at hq r1
    cases ec : q.2[n]? with
    | none => simp only [ec] at hq; exact hq.elim
    | some c =>
      cases c with
      | dki kvs =>
        simp only [ec] at hq
        split at hq
        · rename_i h64
          have hq : Kv F ι σ ρ π H Q (.lst ((sortI (kvs.map (·.1))).map D.int), q.2) := hq
          obtain ⟨a, rfl, hn, xs, s, rx⟩ := A1.wo.cell r1 ec
          refine ⟨a, zk kvs xs, kvs.map (·.1), rfl, s, ?_, by rw [List.length_map]; exact h64, fun ns' b pm so hb => ?_⟩
          · unfold zk
            rw [List.map_fst_zip (by rw [List.length_map, rx.length, List.length_map]; exact Nat.le_refl _), List.map_map]
            rfl
          · have en : ns' = sortI (kvs.map (·.1)) := sortI_uniq pm so
            subst en
            exact hq (.ref b) ι1 _ (A1.same (.new hb)) (e1.trans (.of_ev (.new hb))) (.lstN (ints_d _) hb A1.mx)
        · exact hq.elim
      | _ => simp only [ec] at hq; exact hq.elim
  | _ => rw [ep] at hq; exact hq.elim
end
end Ph
end
section
set_option Elab.async false
set_option linter.all false
set_option maxRecDepth 100000
set_option maxHeartbeats 2000000
/-! Ph, part Rj: l.pop(0). -/
namespace Ph
open PySem PySem.Spec PyProof.Rows L2
def ePop0 (o : SE) : SE := fun ρ π => (o ρ π).bind fun p => (lstC p.2 p.1).bind fun n => (getL p.2 n).bind fun l => match l with
  | [] => .fail
  | d :: r => .ok (d, p.2.set n (.lst r))
section
variable {X : Cx} {F : Fx} {E : XK} {o : Expr} {apos cpos p0 : Pos} {fo : SE} {j : Nat}
theorem x_pop0 (ho : PE X o (tX F E fo)) (hbase : attributeBase o "pop" X.env (eval o X.env) = eval o X.env := by rfl)
    (hfew : ((backTo cpos (starEach [.Constant (.int 0) j p0] X.env)).all (fun x => !x.1) && (backToKw cpos (keywordEach [] X.env)).all (fun x => x.1.isSome)
      && decide (([.Constant (.int 0) j p0] : List Expr).length + ([] : List Keyword).length + (if ([] : List Keyword).isEmpty then 0 else 1) < 30)) = true := by rfl)
    (hline : (apos.endLine == cpos.line) = true := by rfl) (hs : starEach [.Constant (.int 0) j p0] X.env = (false, eval (.Constant (.int 0) j p0) X.env) :: starEach [] X.env := by rfl) (hplain : (backTo cpos (starEach [] X.env)).any (·.1) = false := by rfl) :
    PE X (.Call (.Attribute o "pop" apos) [.Constant (.int 0) j p0] [] cpos) (tX F E (ePop0 fo)) :=
  (pe_bm PySem.F.plainAttrs_list PySem.F.slot_list_pop PySem.F.type_list_pop mt_popAt ho (pa_cons pe_int pa_nil hs) hbase hfew hline hs hplain).weak fun σ H Q h => by
    obtain ⟨ι, ρ, π, A, h⟩ := h
    refine ⟨ι, ρ, π, A, Go.mono (fun p hp v ι1 H1 A1 e1 r1 => ?_) (Go.bind h)⟩
    have hp := Go.bind hp
    obtain ⟨d, π1⟩ := p
    rcases lstC_cases π1 d with ⟨n, l0, rfl, ec0, en⟩ | en
    · rw [en] at hp
      have hp := Go.bind (show Go F E (Res.bind (getL π1 n) _) _ from hp)
      obtain ⟨a, rfl, hn, _⟩ := A1.wo.cell r1 ec0
      rcases getL_cases π1 n with ⟨l, ec, eg⟩ | eg
      · rw [eg] at hp
        obtain ⟨xs, s, q⟩ := cell_of A1 hn ec
        cases l with
        | nil => exact hp.elim
        | cons d r =>
          have hp : Kv F ι σ ρ π H Q (d, π1.set n (.lst r)) := hp
          obtain ⟨y, ys, rfl, ry, rr⟩ := q
          obtain ⟨A3, g3⟩ := put_lst (l' := r) (xs' := ys) A1 hn ec s rr
          refine ⟨.inl ⟨rfl, y :: ys, SqL.of s⟩, a, y :: ys, 0, 0, y, rfl, rfl, s, by decide, by decide, ?_, rfl, hp _ _ _ A3 (e1.trans g3) (Dr.gr g3 (fun _ z => z.elim) ry)⟩
          simp [seqIndex?]
      · rw [eg] at hp; exact hp.elim
    · rw [en] at hp; exact hp.elim
end
end Ph
end
section
set_option Elab.async false
set_option linter.all false
set_option maxRecDepth 100000
set_option maxHeartbeats 2000000
/-! Ph, part Rk: [..] * n. -/
namespace Ph
open PySem PySem.Spec PyProof.Rows L2
def dRep : D → D → Option D
  | .lst l, .int k => if (0 ≤ k ∧ k ≤ 1000) ∧ l.length ≤ 1000 then some (.lst (List.replicate k.toNat l).flatten) else none
  | _, _ => none
section
variable {G : Gx} {M : Addr → Prop} {H : Hp} {l : List D} {xs : List V}
theorem drl_rep (r : DrL G M H l xs) : ∀ n : Nat, DrL G M H (List.replicate n l).flatten (List.replicate n xs).flatten
  | 0 => rfl
  | n + 1 => by
    rw [List.replicate_succ, List.replicate_succ, List.flatten_cons, List.flatten_cons]
    exact r.append (drl_rep r n)
theorem od_rep : OpD G rRep dRep := by
  intro ι M H dx dy d x y Q hm rx ry e hq
  cases dx with
  | lst l =>
    cases dy with
    | int k =>
      obtain ⟨a, xs, rfl, n, s, r⟩ := rx
      have ry : y = .int k := ry
      subst ry
      unfold dRep at e
      dsimp only at e
      split at e
      · rename_i c
        obtain ⟨⟨c1, c2⟩, c3⟩ := c
        cases e
        refine ⟨a, k, xs, rfl, rfl, s, by omega, by omega, ?_, fun p hp => hq _ _ (.new hp) (.lstN (drl_rep r _) hp hm)⟩
        have h1 : xs.length * k.toNat ≤ 1000 * 1000 := Nat.mul_le_mul (by rw [r.length]; exact c3) (by omega)
        exact Nat.le_trans h1 (by rw [sizeLine_eq]; omega)
      · cases e
    | _ => cases e
  | _ => cases e
end
/-- {}, to be a dict whose values are all True -/
def eNewD : SE := fun _ π => .ok (.ptr π.length, π ++ [.dct []])
theorem x_newD {X : Cx} {F : Fx} {E : XK} {pos : Pos} : PE X (.Dict [] [] pos) (tX F E eNewD) := pe_dnewK.weak fun σ H Q h => by
  obtain ⟨ι, ρ, π, A, h⟩ := h
  intro a ha
  have h : Kv F ι σ ρ π H Q (.ptr π.length, π ++ [.dct []]) := h
  have g : Gr Nm ι π H (ι ++ [a]) (π ++ [.dct []]) (upd H a (.dK [])) := .add A.wo.wd ha (.new ha)
  exact h (.ref a) _ _ (A.add (c := .dct []) ha (.new ha) (by rw [upd_same]; exact fun q => nomatch q) upd_same) g (ptr_new A.wo.wd.il)
end Ph
end
section
set_option Elab.async false
set_option linter.all false
set_option maxRecDepth 100000
set_option maxHeartbeats 2000000
/-! Ph, part Sa: calls by keywords alone; == of an own instance with another thing. -/
namespace Ph
open PySem PySem.Spec PyProof.Rows L2
/-! ### keywords -/
/-- the values in the parameters' order -/
def prm {α : Type} (js : List Nat) (l : List α) : List α := js.filterMap fun j => l[j]?
theorem DrL.at_ {G : Gx} {M : Addr → Prop} {H : Hp} : ∀ {ds : List D} {vs : List V} (j : Nat), DrL G M H ds vs → (ds[j]? = none ∧ vs[j]? = none) ∨ ∃ d v, ds[j]? = some d ∧ vs[j]? = some v ∧ Dr G M H d v
  | [], _, j, r => by
    obtain rfl := (r : _ = [])
    exact .inl ⟨by simp, by simp⟩
  | d :: ds, vs, 0, r => by
    obtain ⟨v, ws, rfl, q, t⟩ := r
    exact .inr ⟨d, v, rfl, rfl, q⟩
  | d :: ds, vs, j + 1, r => by
    obtain ⟨v, ws, rfl, q, t⟩ := r
    simpa using DrL.at_ j t
theorem DrL.prm {G : Gx} {M : Addr → Prop} {H : Hp} {ds : List D} {vs : List V} (r : DrL G M H ds vs) : ∀ (js : List Nat), DrL G M H (Ph.prm js ds) (Ph.prm js vs)
  | [] => rfl
  | j :: js => by
    have ih := DrL.prm r js
    unfold Ph.prm at ih ⊢
    rcases DrL.at_ j r with ⟨e1, e2⟩ | ⟨d, v, e1, e2, q⟩
    · rw [List.filterMap_cons_none e1, List.filterMap_cons_none e2]; exact ih
    · rw [List.filterMap_cons_some e1, List.filterMap_cons_some e2]; exact .cons q ih
theorem vals_at : ∀ {vs : List V} {us : List Value} (j : Nat), Vals vs us → (vs[j]? = none ∧ us[j]? = none) ∨ ∃ v u, vs[j]? = some v ∧ us[j]? = some u ∧ RelV v u
  | _, _, j, .nil => .inl ⟨by simp, by simp⟩
  | _, _, 0, .cons r t => .inr ⟨_, _, rfl, rfl, r⟩
  | _, _, j + 1, .cons r t => by simpa using vals_at j t
theorem vals_prm {vs : List V} {us : List Value} (r : Vals vs us) : ∀ (js : List Nat), Vals (prm js vs) (prm js us)
  | [] => .nil
  | j :: js => by
    have ih := vals_prm r js
    unfold prm at ih ⊢
    rcases vals_at j r with ⟨e1, e2⟩ | ⟨d, v, e1, e2, q⟩
    · rw [List.filterMap_cons_none e1, List.filterMap_cons_none e2]; exact ih
    · rw [List.filterMap_cons_some e1, List.filterMap_cons_some e2]; exact .cons q ih
def aPrm (n : Nat) (js : List Nat) (as : SA) : SA := fun ρ π => (as ρ π).bind fun x => if x.1.length = n then .ok (prm js x.1, x.2) else .fail
theorem _root_.L2.PK.weak {X : Cx} {es : List Keyword} {t t' : TA} (h : PK X es t) (w : ∀ σ H Q, t' σ H Q → t σ H Q) : PK X es t' := ⟨fun pos pins s σ H Q I q => h.run pos pins s σ H Q I (w σ H Q q)⟩
/-- the def x of the module, called by keywords alone: names ks, their values put in order by js -/
structure DfK (P : Program) (w : World) (K : PySem.W.Frag) (mg : Str → Option Value) (base : Heap) (k : Nat) (x : Str) (ks : List Str) (js : List Nat) (sp : Sp) : Prop where
  ex : ∃ (f : Addr) (fd : FuncData) (ps : List Str), FnOk P w K mg base (L2.CX P w) k f fd ps sp ∧ mg x = some (.ref f) ∧ PySem.W.keepIn K (.ref f) = true ∧ ∀ (s : Shared) (ws : List Value), K.In s.heap → ws.length = ks.length → BindsTo s fd ⟨[], ks.zip ws⟩ (ps.zip (prm js ws))
/-- the own class x of number c, called by keywords alone -/
structure ClK (P : Program) (w : World) (G : Gx) (mg : Str → Option Value) (base : Heap) (k : Nat) (x : Str) (c : Nat) (ks : List Str) (js : List Nat) (sp : Sp) : Prop where
  ex : ∃ (f : Addr) (fd : FuncData) (ps : List Str), mg x = some (.ref (G.cls c)) ∧ Mk G.K (G.cls c) f ∧ FnOk P w G.K mg base (L2.CX P w) k f fd ps sp ∧ ∀ (s : Shared) (a : Value) (ws : List Value), G.K.In s.heap → ws.length = ks.length → BindsTo s fd ⟨[a], ks.zip ws⟩ (ps.zip (a :: prm js ws))
section
variable {X : Cx} {F : Fx} {E : XK} {e : Expr} {kws : List Keyword} {kpos pos p : Pos} {fe : SE} {as : SA} {x : Str} {c k : Nat} {ks : List Str} {js : List Nat} {g : List D → Store → Res (D × Store)} {nm : Option Str} {n : Nat}
theorem xk_nil : PK X [] (tXA F E aNil) := pk_nil.weak fun σ H Q h => by
  obtain ⟨ι, ρ, π, A, h⟩ := h
  exact h [] ι H A (.refl _ _ _ _) rfl
theorem xk_cons (ha : PE X e (tX F E fe)) (hr : PK X kws (tXA F E as)) : PK X (⟨nm, e, kpos⟩ :: kws) (tXA F E (aCons fe as)) :=
  (pk_cons ha hr).weak fun σ H Q h => by
    obtain ⟨ι, ρ, π, A, h⟩ := h
    refine ⟨ι, ρ, π, A, Go.mono (fun p hp x ι1 H1 A1 e1 r1 => ⟨ι1, ρ, p.2, A1, Go.mono (fun q hq ys ι2 H2 A2 e2 r2 => ?_) (Go.bind hp)⟩) (Go.bind h)⟩
    exact hq (x :: ys) ι2 H2 A2 (e1.trans e2) (.cons (Dr.gr e2 (fun _ z => z.elim) r1) r2)
theorem aPrm_cases (x : List D × Store) : (x.1.length = n ∧ (if x.1.length = n then Res.ok (prm js x.1, x.2) else .fail) = .ok (prm js x.1, x.2)) ∨ (if x.1.length = n then Res.ok (prm js x.1, x.2) else .fail) = .fail := by
  by_cases h : x.1.length = n
  · exact .inl ⟨h, if_pos h⟩
  · exact .inr (if_neg h)
theorem prm_weak {σ : L2.St} {H : Hp} {Q : VK} (h : tX F E (eCall g (aPrm n js as)) σ H Q) : tXA F E as σ H fun zs H2 => zs.length = n ∧ spS F.G g (prm js zs) H2 Q E := by
  obtain ⟨ι, ρ, π, A, h⟩ := h
  refine ⟨ι, ρ, π, A, Go.mono (fun p hp vs ι1 H1 A1 e1 r1 => ?_) (Go.bind (Go.bind h))⟩
  rcases aPrm_cases (n := n) (js := js) p with ⟨hl, e0⟩ | e0
  case inr => rw [e0] at hp; exact hp.elim
  rw [e0] at hp
  refine ⟨by rw [r1.length]; exact hl, F.M0, ι1, p.2, prm js p.1, A1.wo.wd, DrL.prm r1 js, ?_⟩
  have hq : Go F E (g (prm js p.1) p.2) (Kv F ι σ ρ π H Q) := hp
  cases e : g (prm js p.1) p.2 with
  | fail => rw [e] at hq; exact hq.elim
  | xc c d π' =>
    rw [e] at hq
    exact Xk.out A1.wo.gr hq
  | ok d =>
    rw [e] at hq
    intro v ι' H' g W r
    exact hq v ι' H' (A1.go' g W) (e1.trans g) r
/-- f(k = v, ..) -/
theorem x_callK (Dn : DfK X.prog X.w X.K X.mg X.base k x ks js (spS F.G g)) (hr : Room k X.A) (hx : Passes (L2.CX X.prog X.w) X E) (hkw : PK X kws (tXA F E as)) (hg : Gl X x := by rfl)
    (hall : (backToKw pos (keywordEach kws X.env)).all (·.1.isSome) = true := by rfl) (hks : (backToKw pos (keywordEach kws X.env)).filterMap (·.1) = ks := by rfl) (hdb : (x == ("__debug__" : Str)) = false := by decide)
    (hpl : ((backTo pos (starEach [] X.env)).any (·.1) || (backToKw pos (keywordEach kws X.env)).any (·.1.isNone)) = false := by rfl) (hn : ks.length = n := by rfl) :
    PE X (.Call (.Name x p) [] kws pos) (tX F E (eCall g (aPrm n js as))) := by
  subst hn
  obtain ⟨f, fd, ps, Fk, hm, hk, hb⟩ := Dn.ex
  have q : PE X (.Call (.Name x p) [] kws pos) (fun σ H Q => tXA F E as σ H fun zs H2 => zs.length = ks.length ∧ spS F.G g (prm js zs) H2 Q E) := by
    refine ⟨fun pins s σ H Q I h => ?_⟩
    refine wpAny_Call_Name_kw (ld_glob I hg hm ?_ hdb)
    refine PySem.W.callWith_KW0 (first := []) (h₀ := X.base) I.ok.mod.kin hk hall ?_ hpl
    refine thn (hkw.run pos pins s σ H _ I h) fun ws s2 ⟨zs, H2, I2, rz, hl, q2⟩ => ⟨I2.kIn, ?_⟩
    rw [hks]
    have r2 := vals_prm rz js
    refine wpAny_call (codeAny_mono (Fk.run X.A X.stack s2 H2 ⟨[], ks.zip ws⟩ (prm js ws) (prm js zs) Q E hr I2.env0 (hb s2 ws I2.kIn (rz.length.symm.trans hl)) r2 q2) fun r s' hq => ?_)
    cases r with
    | error e => exact hx pins σ H2 s2 e s' I2 hq
    | ok fl =>
      cases fl with
      | ret u => exact I2.after hq
      | next => exact False.elim hq
      | brk => exact False.elim hq
      | cont => exact False.elim hq
  exact q.weak fun _ _ _ h => prm_weak h
theorem makeK_weak {σ : L2.St} {H : Hp} {Q : VK} (h : tX F E (eMake c g (aPrm n js as)) σ H Q) : tMakeK (F.G.cls c) 0 n (spS F.G g) (fun us zs => us ++ prm js zs) E tNil (tXA F E as) σ H Q := by
  obtain ⟨ι, ρ, π, A, h⟩ := h
  refine ⟨ι, ρ, π, A, Go.mono (fun q hq vs ι1 H1 A1 e1 r1 => ?_) (Go.bind (Go.bind h))⟩
  rcases aPrm_cases (n := n) (js := js) q with ⟨hl, e0⟩ | e0
  case inr => rw [e0] at hq; exact hq.elim
  rw [e0] at hq
  refine ⟨rfl, by rw [r1.length]; exact hl, fun a dx ha hdx hne => ?_⟩
  have hq := Go.bind (show Go F E ((g (.ptr q.2.length :: prm js q.1) (q.2 ++ [.ins c []])).bind fun r => (non? r.1).bind fun _ => .ok (D.ptr q.2.length, r.2)) _ from hq)
  have ev : Ev Nm H1 (upd (upd H1 dx (.own a)) a (.ins (F.G.cls c) dx [])) := .of fun b u e => by
    rw [upd_ne (ne_of_none e ha), upd_ne (ne_of_none e hdx)]
    exact e
  have h1 : (upd (upd H1 dx (.own a)) a (.ins (F.G.cls c) dx [])) a ≠ none := by rw [upd_same]; exact fun z => nomatch z
  have g1 : Gr Nm ι1 q.2 H1 (ι1 ++ [a]) (q.2 ++ [.ins c []]) _ := .add (M0 := F.M0) A1.wo.wd ha ev
  have cl : Cl (F.G.at (ι1 ++ [a])) (Mu F.M0 (ι1 ++ [a]) (q.2 ++ [.ins c []])) (upd (upd H1 dx (.own a)) a (.ins (F.G.cls c) dx [])) a (.ins c []) := ⟨dx, [], by rw [upd_same, List.zip_nil_right], Nat.zero_le _, rfl⟩
  have A2 := A1.add ha ev h1 cl
  refine ⟨F.M0, ι1 ++ [a], q.2 ++ [.ins c []], .ptr q.2.length :: prm js q.1, A2.wo.wd, ?_, ?_⟩
  · exact .cons (ptr_new A1.wo.wd.il) (DrL.gr g1 (fun _ z => z.elim) (DrL.prm r1 js))
  · cases eg : g (.ptr q.2.length :: prm js q.1) (q.2 ++ [.ins c []]) with
    | fail => rw [eg] at hq; exact hq.elim
    | xc c' d π' =>
      rw [eg] at hq
      exact Xk.out A2.wo.gr hq
    | ok r =>
      rw [eg] at hq
      have hq := Go.bind (show Go F E ((non? r.1).bind fun _ => .ok (D.ptr q.2.length, r.2)) _ from hq)
      intro v ι' H' g' W' rv
      cases er : r.1 with
      | non =>
        rw [er] at hq rv
        have hq : Kv F ι σ ρ π H Q (.ptr q.2.length, r.2) := hq
        exact ⟨rv, hq _ ι' H' (A2.go' g' W') ((e1.trans g1).trans g') ⟨a, rfl, g'.at (by
          rw [← A1.wo.wd.il, List.getElem?_append_right (Nat.le_refl _), Nat.sub_self]; rfl)⟩⟩
      | _ => rw [er] at hq; exact hq.elim
/-- C(k = v, ..) -/
theorem x_makeK (I : ClK X.prog X.w F.G X.mg X.base k x c ks js (spS F.G g)) (hr : Room (k + 1) X.A) (hx : Passes (L2.CX X.prog X.w) X E) (hkw : PK X kws (tXA F E as)) (hK : F.G.K = X.K := by rfl) (hg : Gl X x := by rfl) (hdb : (x == ("__debug__" : Str)) = false := by decide)
    (hall : (backToKw pos (keywordEach kws X.env)).all (·.1.isSome) = true := by rfl) (hks : (backToKw pos (keywordEach kws X.env)).filterMap (·.1) = ks := by rfl)
    (hpl : ((backTo pos (starEach [] X.env)).any (·.1) || (backToKw pos (keywordEach kws X.env)).any (·.1.isNone)) = false := by rfl) (hn : ks.length = n := by rfl) : PE X (.Call (.Name x p) [] kws pos) (tX F E (eMake c g (aPrm n js as))) := by
  subst hn
  obtain ⟨f, fd, ps, hm, M, Fn, hb⟩ := I.ex
  rw [hK] at M Fn hb
  have kb : KBn X.K fd ps 1 ks (fun us ws => us ++ prm js ws) (fun us ws => us ++ prm js ws) := ⟨fun s us ws X l1 l2 => by
    obtain ⟨a, rfl⟩ := List.length_eq_one_iff.mp l1
    exact hb s a ws X l2, fun r1 r2 => r1.append (vals_prm r2 js)⟩
  exact (pe_makeK0 (g := fun us ws => us ++ prm js ws) (gV := fun us zs => us ++ prm js zs) M Fn hr hg hm kb hx hkw hall hks hdb hpl).weak fun _ _ _ h => makeK_weak h
end
/-! ### == of an own instance with another thing -/
/-- the right thing's class goes not ahead of class number c -/
abbrev NfC (G : Gx) (c : Nat) (tb : Value) : Prop := PySem.W.notFirst G.K (G.cls c) tb = true
/-- a == b, a of the own class of number c, b of that of number c2 -/
def eEqX (c c2 : Nat) (g : List D → Store → Res (D × Store)) (a b : SE) : SE := fun ρ π => (a ρ π).bind fun p => (b ρ p.2).bind fun q => (cls? c q.2 p.1).bind fun _ => (cls? c2 q.2 q.1).bind fun _ => (g [p.1, q.1] q.2).bind fun r => (bl? r.1).bind fun z => .ok (.bl z, r.2)
/-- a == None -/
def eEqN (c : Nat) (g : List D → Store → Res (D × Store)) (a : SE) : SE := fun ρ π => (a ρ π).bind fun p => (cls? c p.2 p.1).bind fun _ => (g [p.1, .non] p.2).bind fun r => (bl? r.1).bind fun z => .ok (.bl z, r.2)
def rEqX (G : Gx) (c c2 : Nat) (g : List D → Store → Res (D × Store)) (E : XK) : R2 := fun x y H Q => ∃ a b dx dy fs gs, x = .ref a ∧ y = .ref b ∧ H a = some (.ins (G.cls c) dx fs) ∧ H b = some (.ins (G.cls c2) dy gs) ∧ spS G g [.ref a, .ref b] H (fun v H' => (∃ z, v = .bl z) ∧ Q v H') E
def rEqN (G : Gx) (c : Nat) (g : List D → Store → Res (D × Store)) (E : XK) : R2 := fun x y H Q => ∃ a dx fs, x = .ref a ∧ y = .non ∧ H a = some (.ins (G.cls c) dx fs) ∧ spS G g [.ref a, .non] H (fun v H' => (∃ z, v = .bl z) ∧ Q v H') E
section
variable {X : Cx} {F : Fx} {E : XK} {a b : Expr} {c c2 k : Nat} {pos : Pos} {fa fb : SE} {g : List D → Store → Res (D × Store)}
theorem op_eqX (I : MtC X.prog X.w F.G X.mg X.base k c "__eq__" (spS F.G g)) (hr : Room k X.A) (hx : Passes (L2.CX X.prog X.w) X E) (hn : NfC F.G c (.ref (F.G.cls c2))) (hK : F.G.K = X.K := by rfl) : OpR X (compareOp .Eq) (rEqX F.G c c2 g E) := by
  obtain ⟨f, fd, ps, hc, hm, Fn, hb, _⟩ := I.ex
  rw [hK] at hc hm Fn hb
  unfold NfC at hn
  rw [hK] at hn
  intro pins s σ H x y v u Q I' rx ry hq
  obtain ⟨a, b, dx, dy, fs, gs, rfl, rfl, ha, hb', hq⟩ := hq
  cases rx
  cases ry
  obtain ⟨mA, J, _⟩ := ins_get I'.hok ha
  obtain ⟨mB, J', _⟩ := ins_get I'.hok hb'
  obtain ⟨od, J, _⟩ := J.look
  obtain ⟨od', J', _⟩ := J'.look
  obtain ⟨m, hF⟩ := I'.fr
  show wpAny (model X.prog X.w) X.A (richCompare .Eq (.ref a) (.ref b)) (EP X pins σ Q) X.xe s
  refine PySem.W.cmp_K (op := .Eq) (tb := .ref (F.G.cls c2)) hr.units0 hF I'.ok.mod.kin J J'.type hn hm.at_ hm.fn ?_
  refine wpAny_mono (run_fn (us := [.ref a, .ref b]) (vs := [.ref a, .ref b]) Fn hr hb .nil hx I' (.cons rfl (.cons rfl .nil)) hq) (fun w s' z => ?_) fun _ _ e => e
  obtain ⟨v, H', I2, rv, ⟨z, rfl⟩, q⟩ := z
  cases rv
  exact ⟨.bl z, H', I2, rfl, q⟩
theorem op_eqN (I : MtC X.prog X.w F.G X.mg X.base k c "__eq__" (spS F.G g)) (hr : Room k X.A) (hx : Passes (L2.CX X.prog X.w) X E) (hK : F.G.K = X.K := by rfl) : OpR X (compareOp .Eq) (rEqN F.G c g E) := by
  obtain ⟨f, fd, ps, hc, hm, Fn, hb, _⟩ := I.ex
  rw [hK] at hc hm Fn hb
  intro pins s σ H x y v u Q I' rx ry hq
  obtain ⟨a, dx, fs, rfl, rfl, ha, hq⟩ := hq
  cases rx
  obtain rfl : u = Value.none := ry
  obtain ⟨mA, J, _⟩ := ins_get I'.hok ha
  obtain ⟨od, J, _⟩ := J.look
  obtain ⟨m, hF⟩ := I'.fr
  show wpAny (model X.prog X.w) X.A (richCompare .Eq (.ref a) .none) (EP X pins σ Q) X.xe s
  have tn : PySem.W.Looks (model X.prog X.w) s.heap (typeOf .none) (.type "NoneType") := .of_pure rfl
  refine PySem.W.cmp_K (op := .Eq) (tb := .type "NoneType") hr.units0 hF I'.ok.mod.kin J tn (by rfl) hm.at_ hm.fn ?_
  refine wpAny_mono (run_fn (us := [.ref a, .none]) (vs := [.ref a, .non]) Fn hr hb .nil hx I' (.cons rfl (.cons rfl .nil)) hq) (fun w s' z => ?_) fun _ _ e => e
  obtain ⟨v, H', I2, rv, ⟨z, rfl⟩, q⟩ := z
  cases rv
  exact ⟨.bl z, H', I2, rfl, q⟩
theorem eqX_weak {σ : L2.St} {H : Hp} {Q : VK} (h : tX F E (eEqX c c2 g fa fb) σ H Q) : tOp (rEqX F.G c c2 g E) (tX F E fa) (tX F E fb) σ H Q := by
  obtain ⟨ι, ρ, π, A, h⟩ := h
  refine ⟨ι, ρ, π, A, Go.mono (fun p hp v ι1 H1 A1 e1 r1 => ⟨ι1, ρ, p.2, A1, Go.mono (fun q hq w ι2 H2 A2 e2 r2 => ?_) (Go.bind hp)⟩) (Go.bind h)⟩
  have hq := Go.bind hq
  unfold cls? at hq
  split at hq
  · rename_i c1
    have hq : Go F E ((if clsD q.1 q.2 = some c2 then Res.ok () else .fail).bind fun _ => (g [p.1, q.1] q.2).bind fun r => (bl? r.1).bind fun z => .ok (D.bl z, r.2)) (Kv F ι σ ρ π H Q) := hq
    split at hq
    · rename_i c2'
      have hq : Go F E ((g [p.1, q.1] q.2).bind fun r => (bl? r.1).bind fun z => .ok (D.bl z, r.2)) (Kv F ι σ ρ π H Q) := hq
      have r1' := Dr.gr e2 (fun _ z => z.elim) r1
      obtain ⟨a, dx, xs, rfl, s1⟩ := inst_at A2 r1' c1
      obtain ⟨b, dy, ys, rfl, s2⟩ := inst_at A2 r2 c2'
      refine ⟨a, b, dx, dy, _, _, rfl, rfl, s1, s2, F.M0, ι2, q.2, [p.1, q.1], A2.wo.wd, .cons r1' (.cons r2 rfl), ?_⟩
      cases eg : g [p.1, q.1] q.2 with
      | fail => rw [eg] at hq; exact hq.elim
      | xc c' d π' => rw [eg] at hq; exact Xk.out A2.wo.gr hq
      | ok r =>
        rw [eg] at hq
        have hq := Go.bind (show Go F E ((bl? r.1).bind fun z => .ok (D.bl z, r.2)) (Kv F ι σ ρ π H Q) from hq)
        intro v ι' H' g' W' rv
        cases er : r.1 with
        | bl z =>
          rw [er] at hq rv
          have hq : Kv F ι σ ρ π H Q (D.bl z, r.2) := hq
          exact ⟨⟨z, rv⟩, hq _ ι' H' (A2.go' g' W') ((e1.trans e2).trans g') rv⟩
        | _ => rw [er] at hq; exact hq.elim
    · exact hq.elim
  · exact hq.elim
theorem eqN_weak {σ : L2.St} {H : Hp} {Q : VK} (h : tX F E (eEqN c g fa) σ H Q) : tOp (rEqN F.G c g E) (tX F E fa) (tX F E (eC .non)) σ H Q := by
  obtain ⟨ι, ρ, π, A, h⟩ := h
  refine ⟨ι, ρ, π, A, Go.mono (fun p hp v ι1 H1 A1 e1 r1 => ⟨ι1, ρ, p.2, A1, ?_⟩) (Go.bind h)⟩
  intro w ι2 H2 A2 e2 r2
  have hq := Go.bind hp
  unfold cls? at hq
  split at hq
  · rename_i c1
    have hq : Go F E ((g [p.1, .non] p.2).bind fun r => (bl? r.1).bind fun z => .ok (D.bl z, r.2)) (Kv F ι σ ρ π H Q) := hq
    have r1' := Dr.gr e2 (fun _ z => z.elim) r1
    obtain ⟨a, dx, xs, rfl, s1⟩ := inst_at A2 r1' c1
    refine ⟨a, dx, _, rfl, r2, s1, F.M0, ι2, p.2, [p.1, .non], A2.wo.wd, .cons r1' (.cons rfl rfl), ?_⟩
    cases eg : g [p.1, .non] p.2 with
    | fail => rw [eg] at hq; exact hq.elim
    | xc c' d π' => rw [eg] at hq; exact Xk.out A2.wo.gr hq
    | ok r =>
      rw [eg] at hq
      have hq := Go.bind (show Go F E ((bl? r.1).bind fun z => .ok (D.bl z, r.2)) (Kv F ι σ ρ π H Q) from hq)
      intro v ι' H' g' W' rv
      cases er : r.1 with
      | bl z =>
        rw [er] at hq rv
        have hq : Kv F ι σ ρ π H Q (D.bl z, r.2) := hq
        exact ⟨⟨z, rv⟩, hq _ ι' H' (A2.go' g' W') ((e1.trans e2).trans g') rv⟩
      | _ => rw [er] at hq; exact hq.elim
  · exact hq.elim
theorem x_eqX (I : MtC X.prog X.w F.G X.mg X.base k c "__eq__" (spS F.G g)) (hr : Room k X.A) (hx : Passes (L2.CX X.prog X.w) X E) (hn : NfC F.G c (.ref (F.G.cls c2))) (ha : PE X a (tX F E fa)) (hb : PE X b (tX F E fb)) (hm : behindInMarks .Eq b = false) (hK : F.G.K = X.K := by rfl) : PE X (.Compare a [.Eq] [b] pos) (tX F E (eEqX c c2 g fa fb)) :=
  (pe_cmpR (op_eqX I hr hx hn hK) ha hb hm).weak fun _ _ _ h => eqX_weak h
theorem x_eqN {j p2} (I : MtC X.prog X.w F.G X.mg X.base k c "__eq__" (spS F.G g)) (hr : Room k X.A) (hx : Passes (L2.CX X.prog X.w) X E) (ha : PE X a (tX F E fa)) (hK : F.G.K = X.K := by rfl) : PE X (.Compare a [.Eq] [.Constant .none j p2] pos) (tX F E (eEqN c g fa)) :=
  (pe_cmpR (op_eqN I hr hx hK) ha (x_non (F := F) (E := E)) (by rfl)).weak fun _ _ _ h => eqN_weak h
end
end Ph
end
section
set_option Elab.async false
set_option linter.all false
set_option maxRecDepth 100000
set_option maxHeartbeats 2000000
/-! Ph, part Sb: x(lambda: e), x a def that tries what it got; suites that return lists. -/
namespace Ph
open PySem PySem.Spec PyProof.Rows L2 LamX NdefX
/-! ### the lambda, where it stands -/
def eLam0 (f : Addr) (i : Nat) (m : Store → Res (D × Store)) : SE := fun ρ π => (gt ρ i).bind fun d => match d with
  | .fn b => if b = f then m π else .fail
  | _ => .fail
/-- a lambda without parameters, with its captured data, in the def that calls it -/
structure LamAt0 (X : Cx) (Fr : Fx) (NL fr : List Str) (f : Addr) (ebody : Expr) (k : Nat) (fb : SE) (wds : List D) : Prop where
  ex : ∃ (L : NF) (pm ctv : Value) (wvs : List V), NScope NL [] fr L.scope ∧
    (∀ (H : Hp) (s : Shared), Un X.fs X.ex X.H_0 H X.s_0.heap s.heap → s.heap.get? f = some (PySem.W.kla_obj "<lambda>" L.qual L.params ebody L.scope L.cl pm L.c ctv) ∧ CellsAt L.cl fr (wvs.map some) s.heap H) ∧
    (∀ (cl : List (Str × Addr)) (pm cv ctv : Value), bindArgs (PySem.W.kla_fn "<lambda>" L.qual L.params ebody L.scope cl pm cv ctv) ⟨[], []⟩ = pure []) ∧
    Fr.H0 L.c = some (CodeO L.c L.qual) ∧ DrL (Fr.G.at Fr.ι0) (Mu Fr.M0 Fr.ι0 Fr.π0) Fr.H0 wds wvs ∧
    (∀ (A : Around) (outer : List PySem.Env) (s : Shared) (H : Hp) (E : XK) (M : Addr → Prop) (Hx : Hp) (ι : List Addr) (π : Store), Room k (A.deeper (envF L f s.heap.objs.size)) → PE (ncx (L2.CX X.prog X.w) X.prog X.w X.K X.mg X.base NL L f A outer s H E) ebody (tX ⟨Fr.G, M, Hx, ι, π⟩ E fb))
section
variable {P : Program} {w : World} {K : PySem.W.Frag} {mg : Str → Option Value} {base : Heap} {N : List Str} {L : NF} {f : Addr} {A : Around} {outer : List PySem.Env} {s : Shared} {H : Hp} {E : XK}
theorem takN : Takes (ncx (L2.CX P w) P w K mg base N L f A outer s H E) (fun cls d _ H => E cls d H) := takes_of rfl rfl rfl rfl
theorem passN : Passes (L2.CX P w) (ncx (L2.CX P w) P w K mg base N L f A outer s H E) E := passes_call takN (fun _ _ _ _ h => h)
end
theorem LamAt0.tr {X : Cx} {Fr : Fx} {NL fr : List Str} {f : Addr} {ebody : Expr} {k : Nat} {fb : SE} {wds : List D} (Lm : LamAt0 X Fr NL fr f ebody k fb wds) (pn : List (Addr × Obj)) (xe : Value → Shared → Prop) {ι : List Addr} {π : Store} {H : Hp} (W : Wo Fr ι π H) : LamAt0 (X.tr pn xe) ⟨Fr.G, Fr.M0, H, ι, π⟩ NL fr f ebody k fb wds := by
  obtain ⟨L, pm, ctv, wvs, S, St, hb, hco, hw, hbody⟩ := Lm.ex
  exact ⟨L, pm, ctv, wvs, S, St, hb, W.gr.ev.ext _ _ hco, DrL.gr W.gr (fun _ z => z.elim) hw, hbody⟩
theorem x_lam0 {X : Cx} {F : Fx} {E : XK} {NL fr : List Str} {f : Addr} {ebody : Expr} {k i : Nat} {a : Str} {fb : SE} {wds : List D} {p pos : Pos} (Lm : LamAt0 X F NL fr f ebody k fb wds) (hr : Room (k + 1) X.A) (hx : Passes (L2.CX X.prog X.w) X E)
    (hN : X.N[i]? = some a := by rfl) (hv : Vis X.env.scope a := by first | exact Or.inl rfl | exact Or.inr (Or.inl rfl) | exact Or.inr (Or.inr rfl)) (hd : (a == ("__debug__" : Str)) = false := by decide) (hcd : (a == ("__classdict__" : Str)) = false := by decide) :
    PE X (.Call (.Name a p) [] [] pos) (tX F E (eLam0 f i (lamRun fb NL.length wds []))) := by
  obtain ⟨L, pm, ctv, wvs, S, St, hb, hco, hw, hbody⟩ := Lm.ex
  refine ⟨fun pins s σ H Q I h => ?_⟩
  obtain ⟨ι, ρ, π, A, h⟩ := h
  have h2 := Go.bind h
  clear h
  cases eg : gt ρ i with
  | fail => rw [eg] at h2; exact h2.elim
  | xc c d => exact absurd eg gt_xc
  | ok d =>
    rw [eg] at h2
    cases d with
    | fn b =>
      replace h2 : Go F E (if b = f then lamRun fb NL.length wds [] π else .fail) _ := h2
      by_cases eb : b = f
      case neg => rw [if_neg eb] at h2; exact h2.elim
      rw [if_pos eb] at h2
      subst eb
      obtain ⟨v, e1, r1⟩ := A.val i _ (gt_some eg)
      obtain rfl : v = .ref b := r1
      refine wpAny_Call_Name_kw (thn ((pe_var (pos := p) hN hv hd hcd).run pins s σ H (fun v H1 => v = .ref b ∧ H1 = H) I ⟨.ref b, e1, rfl, rfl⟩) fun u s1 ⟨v, H1, I1, r1, q1⟩ => ?_)
      obtain ⟨ev, eH⟩ := q1
      subst ev
      rw [eH] at I1
      obtain rfl : u = Value.ref b := r1
      refine PySem.W.callWith_F0 (first := []) ⟨_, _, _, _, (St _ _ I1.base).1⟩ ?_
      show wpAny _ _ (call (.ref b) []) _ _ _
      have rw1 := DrL.gr A.wo.gr (fun _ z => z.elim) hw
      obtain ⟨sv, sl⟩ := start_lam (N := NL) (ds := []) (vs := []) rfl rw1
      have rc : codeAny (model X.prog X.w) X.A (.call (.ref b) ⟨[], []⟩) (CR (L2.CX X.prog X.w) X.stack X.prog X.w H s1 Q E) s1 := by
        refine lam_code (N := NL) (vs := []) (us := []) (tb := tX ⟨F.G, F.M0, H, ι, π⟩ E fb) S hr I1.env0 (St _ _ I1.base).1 (A.wo.gr.ev.ext _ _ hco) (St _ _ I1.base).2 .nil rfl (fun cl pm cv ctv us hu => ?_) (fun hr' => hbody _ _ _ _ _ _ _ _ _ hr') ?_
        · obtain rfl := List.length_eq_zero_iff.mp hu
          exact hb cl pm cv ctv
        · refine ⟨ι, _, π, ⟨sv, ⟨A.wo.wd, .refl _ _ _ _⟩, sl⟩, ?_⟩
          have hq : Go F E (fb _ π) (Kv F ι σ ρ π H Q) := h2
          cases ef : fb (([] : List D).map some ++ (wds.map some ++ List.replicate (NL.length - ([] : List D).length - wds.length) none)) π with
          | fail => rw [ef] at hq; exact hq.elim
          | ok y =>
            rw [ef] at hq
            exact fun v ι2 H2 A2 e3 r3 => hq v ι2 H2 (A.go' e3 A2.wo.wd) e3 r3
          | xc c d π' =>
            rw [ef] at hq
            exact (Xk.out (F := F) A.wo.gr hq : Xk F.G F.M0 E ι π H c d π')
      refine wpAny_call (codeAny_mono rc fun r s' hq => ?_)
      cases r with
      | error e => exact hx pins σ H s1 e s' I1 hq
      | ok fl =>
        cases fl with
        | ret u => exact I1.after hq
        | next => exact False.elim hq
        | brk => exact False.elim hq
        | cont => exact False.elim hq
    | _ => exact h2.elim
def eCallLam0 (n : Nat) (q : Str) (js : List Nat) (gW : List D → Store → Res (D × Store)) : SE := fun ρ π => (gts ρ js).bind fun wds => (tabOk n q π).bind fun _ => noX (gW wds π)
theorem x_callLam0 {X : Cx} {F : Fx} {E : XK} {x : Str} {ebody : Expr} {params : Arguments} {scope : Scope} {lpos p pos : Pos} {c g : Addr} {n k : Nat} {st : Stmt} {Ng psg NL fr : List Str} {fd : FuncData} {js : List Nat} {fsw : Addr → List D → SS} {gW : List D → Store → Res (D × Store)} {fb : SE}
    (Fn : Fun X.K x x st g fd) (hm : X.mg x = some (.ref g)) (Sg : FnScope Ng psg (defScope st)) (hpl2 : psg.length = 1) (hbg : BindsH x x st psg)
    (TB : TabB X.base X.mg c (F.G.tabA n)) (hcode : X.env.code = .ref c) (hr : Room (k + 1) X.A) (hgd : X.A.guards = some [])
    (S : NScope NL [] fr scope) (hfree : ∀ y ∈ scope.names, y.2 = .free → X.env.scope.names.lookup y.1 = some .cell ∨ X.env.scope.names.lookup y.1 = some .free) (hfr : ∀ y ∈ fr, (y, NameKind.free) ∈ scope.names) (hjs : js.map (fun j => X.N[j]?) = fr.map some)
    (hdef : defaultsOf params X.env = ([], []))
    (hb : ∀ (q : Str) (cl : List (Str × Addr)) (pm cv ctv : Value), bindArgs (PySem.W.kla_fn "<lambda>" q params ebody scope cl pm cv ctv) ⟨[], []⟩ = pure [])
    (hbody : ∀ (kk : Nat) (L : NF) (f : Addr) (A : Around) (outer : List PySem.Env) (s : Shared) (H : Hp) (E : XK) (M : Addr → Prop) (Hx : Hp) (ι : List Addr) (π : Store), kk + 2 = k → L.scope = scope → Room kk (A.deeper (envF L f s.heap.objs.size)) → PE (ncx (L2.CX X.prog X.w) X.prog X.w X.K X.mg X.base NL L f A outer s H E) ebody (tX ⟨F.G, M, Hx, ι, π⟩ E fb))
    (bodyg : ∀ (kk : Nat) (cdv : Value) (A : Around) (outer : List PySem.Env) (s : Shared) (H : Hp) (M : Addr → Prop) (ι : List Addr) (π : Store) (f : Addr) (wds : List D), kk + 2 = k → Room (kk + 2) (A.deeper (envOfC x (defScope st) s.heap.objs.size g cdv)) → A.guards = some [] →
      LamAt0 (cxOf (L2.CX X.prog X.w) X.prog X.w X.K X.mg X.base Ng x (defScope st) g cdv A outer s H EN) ⟨F.G, M, H, ι, π⟩ NL fr f ebody kk fb wds →
      PSs (cxOf (L2.CX X.prog X.w) X.prog X.w X.K X.mg X.base Ng x (defScope st) g cdv A outer s H EN) (defBody st) (tS ⟨F.G, M, H, ι, π⟩ EN (fsw f wds)))
    (sem : ∀ (wds : List D) (π : Store) (f : Addr), gW wds π ≠ .fail → sRun (fsw f wds) Ng.length [.fn f] π = gW wds π)
    (hk : ∃ kk, kk + 2 = k) (hg : Gl X x := by rfl) (hdb : (x == ("__debug__" : Str)) = false := by decide)
    (hs2 : starEach [.Lambda params ebody scope lpos] X.env = (false, eval (.Lambda params ebody scope lpos) X.env) :: starEach [] X.env := by rfl) :
    PE X (.Call (.Name x p) [.Lambda params ebody scope lpos] [] pos) (tX F E (eCallLam0 n (lq X) js gW)) := by
  refine ⟨fun pins s σ H Q I h => ?_⟩
  obtain ⟨ι, ρ, π, A, h⟩ := h
  have h := Go.bind h
  cases egs : gts ρ js with
  | fail => rw [egs] at h; exact h.elim
  | xc _ _ _ => exact absurd egs gts_xc
  | ok wds =>
    rw [egs] at h
    have hq : Go F E ((tabOk n (lq X) π).bind fun _ => noX (gW wds π)) (Kv F ι σ ρ π H Q) := h
    refine wpAny_Call_Name_kw (ld_glob I hg hm ?_ hdb)
    have hpl : (backTo pos (starEach [] X.env)).any (·.1) = false := by rfl
    refine PySem.W.callWith_K (h₀ := X.base) I.ok.mod.kin Fn.kp ?_ hs2 hpl
    rw [hs2]
    show wpAny _ _ (spliced ((false, eval (.Lambda params ebody scope lpos) X.env) :: backTo pos (starEach [] X.env))) _ _ s
    have hf2 : ∀ y ∈ scope.names, y.2 = .free → ∃ c, X.env.cells.lookup y.1 = some c := fun y hy e => (hfree y hy e).elim (fun z => I.ok.has _ (.inl z)) fun z => I.ok.has _ (.inr z)
    rcases tabOk_cases n (lq X) π with ⟨e0, et⟩ | et
    case inr => rw [et] at hq; exact hq.elim
    rw [et] at hq
    have hq : Go F E (noX (gW wds π)) (Kv F ι σ ρ π H Q) := hq
    obtain ⟨P', eP, eP', hT⟩ := A.wo.wd.cel n _ e0
    have eP' : P' = F.G.tabA n := eP'
    subst eP'
    refine Calls.spliced_cons (lam_make3 I TB hcode hT hdef hf2 fun f c' pm' ctv H2 s2 I2 ev T2 hf hfn hfrs hco => ?_)
    refine Calls.spliced_nil ⟨I2.kIn, ?_⟩
    have hg0 : (Cell.tab n (lq X)) ≠ .gone := fun z => nomatch z
    have gP : Gr Nm ι π H ι (π.set n (.tab n (lq X))) H2 := .put eP e0 hg0 ev
    have A2 : At F ι σ ρ (π.set n (.tab n (lq X))) H2 := A.putC eP e0 hg0 ev ⟨rfl, T2⟩
    rw [set_same e0] at gP A2
    obtain ⟨oc, od, kV, doc, pm, an, cdv, ct, osl, efd, lk, hcd⟩ := Fn.ex
    obtain ⟨kk, hkk⟩ := hk
    have nf : gW wds π ≠ .fail := fun z => by rw [z] at hq; exact hq
    obtain ⟨wvs, hwv, rw_⟩ := gts_v A2 egs
    have C2 : CellsAt (cloFrom X.env.cells scope.names []) fr (wvs.map some) s2.heap H2 := by
      rw [← hwv]
      exact cells_of I2 (Caps.made I2.ok hfree hfr hjs)
    rw [efd] at lk
    have rc : codeAny (model X.prog X.w) X.A (.call (.ref g) ⟨[.ref f], []⟩) (CR (L2.CX X.prog X.w) X.stack X.prog X.w H2 s2 Q EN) s2 := by
      refine run_ofS (N := Ng) (ps := psg) (us := [.ref f]) (vs := [.ref f]) lk hcd Sg hr I2.env0 (by rw [← efd]; exact Fn.binds hbg s2 [.ref f] I2.kIn (by rw [hpl2]; rfl)) (.cons rfl .nil) (by rw [hpl2]; rfl) fun hr' => ?_
      have Lm : LamAt0 (cxOf (L2.CX X.prog X.w) X.prog X.w X.K X.mg X.base Ng x (defScope st) g cdv X.A X.stack s2 H2 EN) ⟨F.G, F.M0, H2, ι, π⟩ NL fr f ebody kk fb wds := by
        refine ⟨⟨"<lambda>", lq X, params, [], scope, cloFrom X.env.cells scope.names [], c'⟩, pm', ctv, wvs, S, fun H3 s3 U3 => ⟨U3.keep f _ hf hfn hfrs (fun z => nomatch (show f ∈ ([] : List Addr) from z)), cells_un C2 U3⟩, hb (lq X), hco, rw_, fun A3 outer3 s3 H3 E3 M3 Hx3 ι3 π3 hr3 => hbody kk _ f A3 outer3 s3 H3 E3 M3 Hx3 ι3 π3 hkk rfl hr3⟩
      refine ⟨_, bodyg kk cdv X.A X.stack s2 H2 F.M0 ι π f wds hkk (by rw [hkk]; exact hr') hgd Lm, ?_⟩
      refine core_of (g := fun ds π => gW wds π) (ds := [.fn f]) A2.wo.wd (.one rfl) nf ?_ (sem wds π f nf)
      show match gW wds π with
        | .fail => False
        | .ok d => ∀ v ι' H', Gr Nm ι π H2 ι' d.2 H' → Wd F.G F.M0 ι' d.2 H' → Dr (F.G.at ι') (Mu F.M0 ι' d.2) H' d.1 v → Q v H'
        | .xc c d π' => Xk F.G F.M0 EN ι π H2 c d π'
      cases eg : gW wds π with
      | fail => exact absurd eg nf
      | xc c d π' =>
        rw [eg] at hq
        exact hq.elim
      | ok r =>
        rw [eg] at hq
        have hq : Kv F ι σ ρ π H Q r := hq
        exact fun v ι' H' g' W' rv => hq v ι' H' (A2.go' g' W') (gP.trans g') rv
    refine wpAny_call (codeAny_mono rc fun r s3 hq3 => ?_)
    cases r with
    | error e =>
      obtain ⟨_, _, _, _, _, _, _, _, _, _, _, _, z⟩ := hq3
      exact z.elim
    | ok fl =>
      cases fl with
      | ret u => exact I2.after hq3
      | next => exact False.elim hq3
      | brk => exact False.elim hq3
      | cont => exact False.elim hq3
end Ph
end
section
set_option Elab.async false
set_option linter.all false
set_option maxRecDepth 100000
set_option maxHeartbeats 2000000
/-! Ph, part Sc: try around a lambda; suites that return lists with a repr. -/
namespace Ph
open PySem PySem.Spec PyProof.Rows L2 LamX NdefX
theorem s_tryW {X : Cx} {F : Fx} {E : XK} {body : List Stmt} {h₀ : ExceptHandler} {hds : List ExceptHandler} {l : List Cls_} {pos : Pos} {fb : SS} {hs : Nat → D → Store → Res Fl} (hst : X.stack = X.env :: X.outer) (hf : X.env.frame = some X.env.locals) (hN : X.N.Nodup) (tk : Takes X (fun cls d _ H => E cls d H))
    (hb : ∀ (E' : XK) (pn : List (Addr × Obj)) (xe : Value → Shared → Prop) (H : Hp) (ι : List Addr) (π : Store), Wo F ι π H → Takes (X.tr pn xe) (fun cls d _ H => E' cls d H) → PassesOwn (model X.prog X.w) X.A X.env xe → PSs (X.tr pn xe) body (tS ⟨F.G, F.M0, H, ι, π⟩ E' fb))
    (hh : HdsM X (h₀ :: hds) l)
    (hw : ∀ (D : Ends) (ι : List Addr) (π : Store) (H : Hp) (c : Nat) (d : Ph.D) (π1 : Store) (cls : Value) (dx : Option Addr) (ι1 : List Addr) (H1 : Hp) (σ : L2.St), XAt F ι π H c d π1 cls dx ι1 H1 → Go F E (hs c d π1) (Fw F ι π H D) → wMix X.K (fun cls d _ H => E cls d H) D l cls dx σ H1) :
    PS X (.Try body (h₀ :: hds) [] [] pos) (tS F E (sTry fb hs)) := by
  refine (ps_try_mix (tb := fun W D σ H => ∃ m : Hp × List Addr × Store, Wo F m.2.1 m.2.2 m.1 ∧ tS ⟨F.G, F.M0, m.1, m.2.1, m.2.2⟩ (fun cls d H => ∀ σ, W cls d σ H) fb D σ H) hst hf hN tk (fun W pn xe tkW own => ⟨fun pins s σ H D I ⟨m, wo, q⟩ => (hb _ pn xe m.1 m.2.1 m.2.2 wo (tkW.imp fun c d σ H h => h σ) own).run pins s σ H D I q⟩) hh).weak fun D σ H h => ?_
  obtain ⟨ι, ρ, π, A, h⟩ := h
  refine ⟨⟨H, ι, π⟩, A.wo, ι, ρ, π, ⟨A.val, ⟨A.wo.wd, .refl _ _ _ _⟩, A.len⟩, ?_⟩
  unfold sTry at h
  cases e : fb ρ π with
  | fail => rw [e] at h; exact h
  | ok fl =>
    rw [e] at h
    have h : Fw F ι π H D fl := h
    cases fl with
    | nx ρ' π' => exact fun ι' σ' H' A' g => h ι' σ' H' ⟨A'.val, ⟨A'.wo.wd, A.wo.gr.trans g⟩, A'.len⟩ g
    | rt d π' => exact fun v ι' H' W' g r => h v ι' H' ⟨W'.wd, A.wo.gr.trans g⟩ g r
    | bk ρ' π' => exact fun ι' σ' H' A' g => h ι' σ' H' ⟨A'.val, ⟨A'.wo.wd, A.wo.gr.trans g⟩, A'.len⟩ g
    | ct ρ' π' => exact fun ι' σ' H' A' g => h ι' σ' H' ⟨A'.val, ⟨A'.wo.wd, A.wo.gr.trans g⟩, A'.len⟩ g
  | xc c d π1 =>
    rw [e] at h
    have h : Go F E (hs c d π1) (Fw F ι π H D) := h
    exact fun dx ι' H' g W x σ' => hw D ι π H c d π1 _ dx ι' H' σ' ⟨rfl, ⟨W, A.wo.gr.trans g⟩, g, x.mono fun _ hn => ⟨A.wo.gr.ev.fresh hn, hn⟩⟩ h

/-! ### repr, of an empty dict too -/
abbrev rReprE : List V → Hp → VK → Prop := fun xs H Q => ∃ a : Addr, xs = [.ref a] ∧ H a = some (.dK []) ∧ Q (.str "{}") H
theorem call_reprE {X : Cx} (hu : X.A.units + 200 < cLine) (hgd : X.A.guards = some []) : CallR X (.builtin "repr") rReprE := by
  intro pins s σ H xs us Q I r h
  obtain ⟨a, rfl, ha, q⟩ := h
  obtain ⟨u, rfl, rx⟩ := vals1 r
  obtain rfl : u = Value.ref a := rx
  have hx : ObjOk X.prog X.w H s.heap a (.dK []) := I.hok a _ ha
  obtain ⟨_, hsm, vs, kv, o, es, ep, ho, hd, he, _, hp, _⟩ := hx
  have kn : vs = [] := by
    cases kv
    rfl
  subst kn
  have hes : es.toList = [] := by
    generalize es.toList = l at hp
    cases hp
    rfl
  have R : Reads s.heap (.ref a) (.dict []) (a :: [] ++ []) := .dict ho hd.1 he (by rw [hes]; exact .nil) (by rw [hes]; exact .nil)
  refine PySem.repr_of_reads' R rfl (fun _ => ?_) hgd ?_ (fun _ _ e => e) (fun h' u tk hk => ⟨.str "{}", H, I.kept (t' := tk) hk, ⟨u, ?_⟩, q⟩) ?_
  · simp only [List.append_nil, List.mem_singleton]
    exact fun z => by rw [z] at hsm; simp at hsm
  · show X.A.units + (1 + 1) < cLine
    omega
  · rfl
  · show (_ : Nat) ≤ _
    decide
abbrev rRepr2 (K : PySem.W.Frag) (A : Around) : List V → Hp → VK → Prop := fun xs H Q => rRepr K A xs H Q ∨ rReprE xs H Q
theorem call_repr2 {X : Cx} (hu : X.A.units + 200 < cLine) (hgd : X.A.guards = some []) : CallR X (.builtin "repr") (rRepr2 X.K X.A) := by
  intro pins s σ H xs us Q I r h
  rcases h with h | h
  · exact call_repr hgd pins s σ H xs us Q I r h
  · exact call_reprE hu hgd pins s σ H xs us Q I r h
noncomputable def fRepr2 (l : List D) : Res D := match l with
  | [.dic] => .ok (.str "{}")
  | l => fRepr l
theorem fd_reprU {G : Gx} {A : Around} (hu : A.units + 200 < cLine) : FnD G (rRepr G.K A) fRepr := by
  intro ι M H ds d vs Q hm r e hq
  unfold fRepr at e
  split at e
  · rename_i d'
    split at e
    · rename_i c
      obtain ⟨v, rfl, rv⟩ := one_v r
      obtain rfl := Res.ok.inj e
      exact ⟨v, _, rfl, dr_dp (G := G.at ι) _ _ c.1 rv, c.2.1, c.2.2.1, by have := c.2.2.2.1; omega, c.2.2.2.2, hq _ _ (.refl _ _) rfl⟩
    · cases e
  · cases e
theorem fd_repr2 {G : Gx} {A : Around} (hu : A.units + 200 < cLine) : FnD G (rRepr2 G.K A) fRepr2 := by
  intro ι M H ds d vs Q hm r e hq
  unfold fRepr2 at e
  split at e
  · obtain ⟨v, rfl, a, rfl, _, h⟩ := one_v r
    obtain rfl := Res.ok.inj e
    exact .inr ⟨a, rfl, h, hq _ _ (.refl _ _) rfl⟩
  · exact .inl (fd_reprU hu ι M H ds d vs Q hm r e hq)
theorem nx_repr2 : NoXc fRepr2 := fun ds c d π => by
  unfold fRepr2
  split
  · exact fun z => nomatch z
  · exact nx_repr _ _ _ _

/-! ### suites -/
/-- what is made of the field's data of the exception that is held at slot i is returned -/
def tRetL (F : Fx) (i c : Nat) (r : D → Res D) (a : Addr) (cls : Value) (dx : Option Addr) : TS := fun D σ H => σ[i]? = some (some (.ref a)) ∧ ∃ (ι : List Addr) (π : Store) (H0 : Hp) (ι0 : List Addr) (π0 : Store) (d y : Ph.D), XAt F ι0 π0 H0 c d π cls dx ι H ∧ r d = .ok y ∧
  ∀ w ι' H', Wo F ι' π H' → Gr Nm ι π H ι' π H' → Dr (F.G.at ι') (Mu F.M0 ι' π) H' y w → D.rt w H'
theorem clause_retL {F : Fx} {ι : List Addr} {π : Store} {H : Hp} {c : Nat} {d y : D} {π1 : Store} {cls : Value} {dx : Option Addr} {ι1 : List Addr} {H1 : Hp} {D : Ends} {σ : L2.St} {i : Nat} {r : Ph.D → Res Ph.D} {a : Addr} (A : XAt F ι π H c d π1 cls dx ι1 H1) (hr : r d = .ok y) (h : Fw F ι π H D (.rt y π1)) (hi : i < σ.length) :
    tRetL F i c r a cls dx (endsN i D) (σ.set i (some (.ref a))) H1 := ⟨List.getElem?_set_self hi, ι1, π1, H, ι, π, d, y, A, hr, fun w ι' H' W g r => h w ι' H' W (A.gr.trans g) r⟩
noncomputable def rLst (nm : Str) (b : Bool) : D → Res D := fun d => (fRepr2 [d]).bind fun s => .ok (.lst [.str nm, s, .bl b])
/-- return [s, repr(e.f), isinstance(e, C)] -/
theorem suite_lst {X : Cx} {F : Fx} {a : Addr} {oe : Obj} {cls : Value} {dx : Option Addr} {pn : List (Addr × Obj)} {n y nm : Str} {i c k : Nat} {f : Str} {C : Addr} {b : Bool} {p p0 p1 p2 p3 p4 p5 p6 p7 p8 pos : Pos} {jj} (T : XfC X.K (F.G.cls c)) (hno : PySem.W.findIn X.K (.ref (F.G.cls c)) f = some none) (hfl : xfl F.G c = f)
    (XC : ExcC X.K (F.G.cls c)) (hki : PySem.W.kitOne X.K (.ref (F.G.cls c)) (.ref C) = some b) (hm : X.mg "isinstance" = none) (hmr : X.mg "repr" = none) (hmT : X.mg y = some (.ref C)) (hr : Room k X.A) (hgd : X.A.guards = some []) (hgr : Gl X "repr") (hg : Gl X "isinstance") (hgT : Gl X y) (hdy : (y == ("__debug__" : Str)) = false)
    (hz : Zc cls dx oe) (hf : ∃ vs, oe.data = .fields vs) (hN : X.N[i]? = some n) (hv : Vis X.env.scope n) (hK : F.G.K = X.K := by rfl) (hd : (n == ("__debug__" : Str)) = false := by decide) (hcd : (n == ("__classdict__" : Str)) = false := by decide)
    (hb : attributeBase (.Name n p2) f X.env (eval (.Name n p2) X.env) = eval (.Name n p2) X.env := by rfl)
    (hs0 : starEach [.Constant (.str nm) jj p0, .Call (.Name "repr" p1) [.Attribute (.Name n p2) f p3] [] p4, .Call (.Name "isinstance" p5) [.Name n p6, .Name y p7] [] p8] X.env = (false, eval (.Constant (.str nm) jj p0) X.env) :: starEach [.Call (.Name "repr" p1) [.Attribute (.Name n p2) f p3] [] p4, .Call (.Name "isinstance" p5) [.Name n p6, .Name y p7] [] p8] X.env := by rfl)
    (hs1 : starEach [.Call (.Name "repr" p1) [.Attribute (.Name n p2) f p3] [] p4, .Call (.Name "isinstance" p5) [.Name n p6, .Name y p7] [] p8] X.env = (false, eval (.Call (.Name "repr" p1) [.Attribute (.Name n p2) f p3] [] p4) X.env) :: starEach [.Call (.Name "isinstance" p5) [.Name n p6, .Name y p7] [] p8] X.env := by rfl)
    (hs2 : starEach [.Call (.Name "isinstance" p5) [.Name n p6, .Name y p7] [] p8] X.env = (false, eval (.Call (.Name "isinstance" p5) [.Name n p6, .Name y p7] [] p8) X.env) :: starEach [] X.env := by rfl)
    (hs3 : starEach [.Attribute (.Name n p2) f p3] X.env = (false, eval (.Attribute (.Name n p2) f p3) X.env) :: starEach [] X.env := by rfl)
    (hs : starEach [.Name n p6, .Name y p7] X.env = (false, eval (.Name n p6) X.env) :: starEach [.Name y p7] X.env := by rfl) (hpl : (backTo p8 (starEach [.Name y p7] X.env)).any (·.1) = false := by rfl) (hne : f ≠ Str.empty := by decide) :
    PSs (X.suite a ((a, oe) :: pn)) [.Return (some (.List [.Constant (.str nm) jj p0, .Call (.Name "repr" p1) [.Attribute (.Name n p2) f p3] [] p4, .Call (.Name "isinstance" p5) [.Name n p6, .Name y p7] [] p8] p)) pos] (tRetL F i c (rLst nm b) a cls dx) := by
  have hr' : (X.suite a ((a, oe) :: pn)).A.units + 200 < cLine := by
    have := hr.un
    show X.A.units + 200 < cLine
    omega
  have q1 := pe_xf (X := X) (pn := pn) (pos := p3) T hno hz hf (pe_var (X := X.suite a ((a, oe) :: pn)) (pos := p2) hN hv hd hcd) hb
  have q2 := pe_callB (X := X.suite a ((a, oe) :: pn)) (p := p1) (pos := p4) (call_repr2 hr' hgd) hgr hmr (by decide +kernel) (pa_cons q1 pa_nil hs3) (by decide) (by decide) hs3 (by rfl)
  have q3 := pe_callB (X := X.suite a ((a, oe) :: pn)) (p := p5) (pos := p8) (call_isD XC hz hf) hg hm (by decide +kernel) (pa_cons (pe_var (X := X.suite a ((a, oe) :: pn)) (pos := p6) hN hv hd hcd) (pa_cons (pe_glob (X := X.suite a ((a, oe) :: pn)) (v := .ref C) (pos := p7) hgT hmT rfl hdy) pa_nil) hs) (by decide) (by decide) hs hpl
  refine pss_one ((ps_ret (pe_lst (pa_cons (pe_str (X := X.suite a ((a, oe) :: pn))) (pa_cons q2 (pa_cons q3 pa_nil hs2) hs1) hs0))).weak fun D σ H h => ?_)
  obtain ⟨h1, ι, π, H0, ι0, π0, d, y, A, hr0, q⟩ := h
  obtain ⟨dd, v, e1, _, e4, r⟩ := fld_of A.fld hfl hne
  unfold rLst at hr0
  cases er : fRepr2 [d] with
  | fail => rw [er] at hr0; cases hr0
  | xc _ _ _ => exact absurd er (nx_repr2 _ _ _ _)
  | ok s =>
    rw [er] at hr0
    obtain rfl := Res.ok.inj hr0
    refine ⟨.ref a, h1, rfl, A.cls, dd, _, v, e1, e4, by rw [hfl]; simp, ?_⟩
    rw [← hK]
    refine fd_repr2 (G := F.G) hr' ι (Mu F.M0 ι π) H [d] s [v] _ A.wo.wd.mu (.one r) er (fun v' H' x r => ?_)
    refine ⟨.ref a, h1, C, dd, _, b, rfl, A.cls, e1, x.keep _ _ e4 id, by rw [hK]; exact hki, ?_⟩
    refine ⟨show (3 : Nat) ≤ sizeLine by decide, fun p hp => ?_⟩
    have W1 : Wo F ι π H' := A.wo.go (.of_ev x) (A.wo.wd.same x)
    have x2 : Ev Nm H' (upd H' p (.lst [.str nm, v', .bl b])) := .new hp
    refine q _ ι _ (W1.go (.of_ev x2) (W1.wd.same x2)) ((Gr.of_ev x).trans (.of_ev x2)) ?_
    exact .lstN (.cons rfl (.cons r (.cons rfl rfl))) hp W1.wd.mu
end Ph
end
section
set_option Elab.async false
set_option linter.all false
set_option maxRecDepth 100000
set_option maxHeartbeats 2000000
/-! Ph, part Sd: guarded defs whose code object is known; {} as data; try around a lambda: what it computes. -/
namespace Ph
open PySem PySem.Spec PyProof.Rows L2 LamX NdefX
abbrev BodyCG (P : Program) (w : World) (K : PySem.W.Frag) (mg : Str → Option Value) (base : Heap) (N : List Str) (qual : Str) (scope : Scope) (G : Gx) (k : Nat) (body : List Stmt) (fs : SS) (c : Addr) : Prop :=
  ∀ (f : Addr) (A : Around) (outer : List PySem.Env) (s : Shared) (H : Hp) (E : XK) (M : Addr → Prop) (ι : List Addr) (π : Store), Room k (A.deeper (envOfC qual scope s.heap.objs.size f (.ref c))) → A.guards = some [] →
      PSs (cxOf (L2.CX P w) P w K mg base N qual scope f (.ref c) A outer s H E) body (tS ⟨G, M, H, ι, π⟩ E fs)
theorem df_ofCG {P : Program} {w : World} {K : PySem.W.Frag} {mg : Str → Option Value} {base : Heap} {x qual : Str} {st : Stmt} {N ps : List Str} {k : Nat} {G : Gx} {fs : SS} {g : List D → Store → Res (D × Store)} {c : Addr} (Fn : ∃ f fd, FunC K x qual st f fd c ∧ mg x = some (.ref f)) (S : FnScope N ps (defScope st)) (hb : BindsH x qual st ps)
    (body : BodyCG P w K mg base N qual (defScope st) G k (defBody st) fs c) (hlen : ∀ ds π, g ds π ≠ .fail → ds.length = ps.length) (sem : ∀ ds π, g ds π ≠ .fail → sRun fs N.length ds π = g ds π) : DfG P w K mg base (k + 1) x (spS G g) := by
  obtain ⟨f, fd, F, hm⟩ := Fn
  refine ⟨f, fd, ps, ?_, hm, F.kp, F.toFun.binds hb⟩
  obtain ⟨oc, od, kV, doc, pm, an, ct, osl, rfl, lk, hcd⟩ := F.ex
  refine fn_ofG lk hcd S (fun vs H Q E h => ?_) fun A outer s H vs Q E hr hgd h => ?_
  · obtain ⟨M, ι, π, ds, r, n⟩ := spS_out h
    rw [r.length]
    exact hlen ds π n
  · obtain ⟨M, ι, π, ds, W, r, h⟩ := h
    have n : g ds π ≠ .fail := fun z => by rw [z] at h; exact h
    exact ⟨_, body f A outer s H E M ι π hr hgd, core_of W r n h (sem ds π n)⟩
/-- {} as data -/
def eDic : SE := fun _ π => .ok (.dic, π)
@[simp] theorem eDic_ap {ρ : En} {π : Store} : eDic ρ π = .ok (.dic, π) := rfl
theorem x_dic {X : Cx} {F : Fx} {E : XK} {pos : Pos} : PE X (.Dict [] [] pos) (tX F E eDic) := pe_dnewK.weak fun σ H Q h => by
  obtain ⟨ι, ρ, π, A, h⟩ := h
  intro a ha
  have h : Kv F ι σ ρ π H Q (.dic, π) := h
  have x : Ev Nm H (upd H a (.dK [])) := .new ha
  exact h (.ref a) _ _ (A.same x) (.of_ev x) ⟨a, rfl, fun z => A.wo.wd.mu a z ha, upd_same⟩
/-- the exceptions of the lambda, made to answers -/
def rtH (hx : Nat → D → Res D) : Nat → D → Store → Res Fl := fun c d π => (hx c d).bind fun y => .ok (.rt y π)
/-- try: call() except ..: return ..; return d -/
def fsTL (hx : Nat → D → Res D) (d : D) (f : Addr) (m : Store → Res (D × Store)) : SS := sSeq (sTry (sExpr (eLam0 f 0 m)) (rtH hx)) (sRet (eC d))
def gTL (hx : Nat → D → Res D) (d : D) (m : Store → Res (D × Store)) (π : Store) : Res (D × Store) := match m π with
  | .fail => .fail
  | .ok p => .ok (d, p.2)
  | .xc c e π1 => (hx c e).bind fun y => .ok (y, π1)
theorem sem_TL (hx : Nat → D → Res D) (d : D) (n : Nat) (f : Addr) (m : Store → Res (D × Store)) (π : Store) (nf : gTL hx d m π ≠ .fail) : sRun (fsTL hx d f m) (n + 1) [.fn f] π = gTL hx d m π := by
  have e0 : sExpr (eLam0 f 0 m) (ini (n + 1) [.fn f]) π = (m π).bind fun p => .ok (.nx (ini (n + 1) [.fn f]) p.2) := by
    show ((if f = f then m π else .fail).bind _) = _
    rw [if_pos rfl]
  unfold gTL at nf ⊢
  unfold sRun fsTL sSeq sTry
  rw [e0]
  cases em : m π with
  | fail => rw [em] at nf; exact absurd rfl nf
  | ok p => rfl
  | xc c e π1 =>
    rw [em] at nf
    simp only [Res.bind_xc, rtH]
    cases eh : hx c e with
    | fail => rfl
    | ok y => rfl
    | xc c2 d2 π2 => rfl
theorem nxLst {nm : Str} {b : Bool} {d : D} {c : Nat} {e : D} {π : Store} : rLst nm b d ≠ .xc c e π := by
  unfold rLst
  cases er : fRepr2 [d] with
  | fail => exact fun z => nomatch z
  | ok s => exact fun z => nomatch z
  | xc _ _ _ => exact absurd er (nx_repr2 _ _ _ _)
end Ph
namespace Ph
open PySem PySem.Spec PyProof.Rows L2 LamX NdefX
theorem _root_.L2.Room.unU {k : Nat} {A : Around} (hr : Room k A) : A.units + 200 < cLine := by
  have := hr.un
  omega
section
variable {X : Cx} {F : Fx} {E : XK} {a b : Expr} {c c2 k : Nat} {pos : Pos} {fa fb : SE} {g : List D → Store → Res (D × Store)}
theorem xt_eqX (I : MtC X.prog X.w F.G X.mg X.base k c "__eq__" (spS F.G g)) (hr : Room k X.A) (hx : Passes (L2.CX X.prog X.w) X E) (hn : NfC F.G c (.ref (F.G.cls c2))) (ha : PE X a (tX F E fa)) (hb : PE X b (tX F E fb)) (hm : behindInMarks .Eq b = false) (hK : F.G.K = X.K := by rfl) : PT X (.Compare a [.Eq] [b] pos) (tXT F E (tB (eEqX c c2 g fa fb))) :=
  (pt_cmpR (op_eqX I hr hx hn hK) ha hb hm).weak fun _ _ _ h => test_weak (fun _ h => eqX_weak h) h
theorem xt_eqN {j p2} (I : MtC X.prog X.w F.G X.mg X.base k c "__eq__" (spS F.G g)) (hr : Room k X.A) (hx : Passes (L2.CX X.prog X.w) X E) (ha : PE X a (tX F E fa)) (hK : F.G.K = X.K := by rfl) : PT X (.Compare a [.Eq] [.Constant .none j p2] pos) (tXT F E (tB (eEqN c g fa))) :=
  (pt_cmpR (op_eqN I hr hx hK) ha (x_non (F := F) (E := E)) (by rfl)).weak fun _ _ _ h => test_weak (fun _ h => eqN_weak h) h
end
end Ph
end
section
set_option Elab.async false
set_option linter.all false
set_option maxRecDepth 100000
set_option maxHeartbeats 2000000
/-! Ph, part T: the end: the call of the law, where no repr is under way; facts of the written part as one Bool each. -/
namespace Ph
open PySem PySem.Spec PyProof.Rows L2

/-! ### what is tracked at the law's call: the empty tables Ts, and at most the script at a -/
/-- an object that is neither a sequence nor the empty table -/
def odd_ (o : Obj) : Prop := (∀ vs n, o.data ≠ .seq vs n) ∧ o.data ≠ .fields #[]
structure Trk (P : Program) (w : World) (K : PySem.W.Frag) (H : Hp) (h : Heap) (a : Addr) (Ts : List Addr) : Prop where
  tab : ∀ b ∈ Ts, H b = some (.tbl #[]) ∧ h.get? b = some { cls := .none, data := .fields #[] } ∧ K.lookup b = none
  scr : H a = none ∨ (K.lookup a = none ∧ ∃ o xs, H a = some (.frz o (.lst xs)))
  out : ∀ b, b ≠ a → b ∉ Ts → H b = none
  ok : HOk P w H h
section
variable {P : Program} {w : World} {K : PySem.W.Frag} {mg mb : Str → Option Value} {H : Hp} {h : Heap} {a : Addr} {Ts : List Addr} {vs : List Value}
theorem Trk.free (T : Trk P w K H h a Ts) (ha : h.get? a = some { cls := .type "list", data := .seq vs.toArray }) {b : Addr} {o : Obj} (e : h.get? b = some o) (n : odd_ o) : H b = none := by
  by_cases hb : b = a
  · subst hb
    rw [ha] at e
    cases e
    exact absurd rfl (n.1 _ _)
  · by_cases hT : b ∈ Ts
    · rw [(T.tab b hT).2.1] at e
      cases e
      exact absurd rfl n.2
    · exact T.out b hb hT
theorem Trk.base (T : Trk P w K H h a Ts) (ha : h.get? a = some { cls := .type "list", data := .seq vs.toArray }) {b : Addr} {o : Obj} (e : h.get? b = some o) (n : odd_ o) : (hidT h H).get? b = some o := hidT_get e (T.free ha e n)
theorem Trk.ns (T : Trk P w K H h a Ts) (ha : h.get? a = some { cls := .type "list", data := .seq vs.toArray }) {b : Addr} {m : Str → Option Value} (n : h.Ns b m) : (hidT h H).Ns b m := by
  obtain ⟨o, es, ep, e, d, r⟩ := n
  refine ⟨o, es, ep, T.base ha e ⟨fun vs n z => ?_, fun z => ?_⟩, d, r⟩ <;> (rw [d] at z; cases z)
theorem Trk.kin (T : Trk P w K H h a Ts) (X : K.In h) : K.In (hidT h H) := fun b o e => by
  refine hidT_get (X b o e) ?_
  by_cases hT : b ∈ Ts
  · rw [(T.tab b hT).2.2] at e; cases e
  · by_cases hb : b = a
    · subst hb
      rcases T.scr with z | ⟨z, _⟩
      · exact z
      · rw [z] at e; cases e
    · exact T.out b hb hT
theorem Trk.code (T : Trk P w K H h a Ts) (ha : h.get? a = some { cls := .type "list", data := .seq vs.toArray }) {c p : Addr} (C : PySem.W.CodeHd h c p) : PySem.W.CodeHd (hidT h H) c p := by
  obtain ⟨o, us, f1, f2, f3, f4, f5, f6, f7, e, r1, r2, r3, r4⟩ := C
  refine ⟨o, us, f1, f2, f3, f4, f5, f6, f7, T.base ha e ⟨fun vs n z => ?_, fun z => ?_⟩, r1, r2, r3, r4⟩
  · rw [r2] at z; cases z
  · rw [r2] at z
    cases z
    simp at r3
theorem Trk.bm (T : Trk P w K H h a Ts) (ha : h.get? a = some { cls := .type "list", data := .seq vs.toArray }) (hns : h.Ns mainGlobals mg) {p : Addr} (hp : h.get? p = some { cls := .none, data := .fields #[] })
    (hbm : ∃ (bm : Addr) (ob : Obj), mg "__builtins__" = some (.ref bm) ∧ bm ≠ builtinsNs ∧ h.get? bm = some ob ∧ ob.cls = .type "module" ∧ ob.dict = some builtinsNs ∧ ob.data = .plain) : (hidT h H).BuiltinsAt mg p ∧ mainGlobals ≠ p := by
  obtain ⟨bm, ob, b1, b2, b3, b4, b5, b6⟩ := hbm
  obtain ⟨o, es, ep, e, hd, _⟩ := hns
  refine ⟨⟨bm, ob, b1, b2, fun q => ?_, fun q => ?_, T.base ha b3 ⟨fun vs n z => ?_, fun z => ?_⟩, b4, b5, b6⟩, fun z => ?_⟩
  · rw [q, e] at b3
    cases b3
    rw [hd] at b6; cases b6
  · rw [q, hp] at b3
    cases b3
    cases b6
  · rw [b6] at z; cases z
  · rw [b6] at z; cases z
  · rw [z, hp] at e
    cases e
    cases hd
end

/-- the law's call: its promise told, where no repr is under way -/
theorem lawG {P : Program} {w : World} {K : PySem.W.Frag} {mg mb : Str → Option Value} {k : Nat} {fa a : Addr} {cs : List (Addr × Addr)} {fd : FuncData} {x : Str} {sp : Sp} {s₁ : Shared} {vs : List Value} {ns : List Int}
    (KX : K.In s₁.heap) (hns : s₁.heap.Ns mainGlobals mg) (hb : s₁.heap.Ns builtinsNs mb) (hbb : ∀ x : Str, x ≠ "__name__" → mb x = bootBuiltins x) (hlim : s₁.heap.NoLimit) (hg : s₁.gens = #[])
    (hT : ∀ p ∈ cs, s₁.heap.get? p.2 = some { cls := .none, data := .fields #[] }) (nT : ∀ p ∈ cs, K.lookup p.2 = none) (C : ∀ p ∈ cs, PySem.W.CodeHd s₁.heap p.1 p.2)
    (hbm : ∃ (bm : Addr) (ob : Obj), mg "__builtins__" = some (.ref bm) ∧ bm ≠ builtinsNs ∧ s₁.heap.get? bm = some ob ∧ ob.cls = .type "module" ∧ ob.dict = some builtinsNs ∧ ob.data = .plain)
    (ha : s₁.heap.get? a = some { cls := .type "list", data := .seq vs.toArray }) (hi : IntsAre vs ns) (hl : ns.length ≤ sizeLine) (hr : Room k callerA)
    (F : ∀ base : Heap, K.In base → base.Ns mainGlobals mg → (∀ p ∈ cs, LamX.TabB base mg p.1 p.2) → FnOkG P w K mg base (L2.CX P w) k fa fd [x] sp) (hbind : ∀ (s : Shared) (u : Value), BindsTo s fd ⟨[u], []⟩ [(x, u)])
    (hsp : ∀ H : Hp, (∀ p ∈ cs, H p.2 = some (.tbl #[])) → LstK K H a (ns.map V.int) → sp [.ref a] H (fun v _ => v = .bl true) fun _ _ _ => False) :
    codeAny (model P w) callerA (.call (.ref fa) ⟨[.ref a], []⟩) (fun r s' => r = .ok (.ret (.bool true)) ∧ OldK s₁.heap s'.heap ∧ s'.os = s₁.os ∧ AllBare s'.gens) s₁ := by
  have rv := vals_ints hi
  have mem : ∀ p ∈ cs, p.2 ∈ cs.map (·.2) := fun p hp => List.mem_map.mpr ⟨p, hp, rfl⟩
  have aT : a ∉ cs.map (·.2) := fun z => by
    obtain ⟨p, hp, e⟩ := List.mem_map.mp z
    have q := hT p hp
    rw [e, ha] at q
    cases q
  have main : ∀ H : Hp, Trk P w K H s₁.heap a (cs.map (·.2)) → LstK K H a (ns.map V.int) →
      codeAny (model P w) callerA (.call (.ref fa) ⟨[.ref a], []⟩) (fun r s' => r = .ok (.ret (.bool true)) ∧ OldK s₁.heap s'.heap ∧ s'.os = s₁.os ∧ AllBare s'.gens) s₁ := by
    intro H T hS
    have TB : ∀ p ∈ cs, LamX.TabB (hidT s₁.heap H) mg p.1 p.2 := fun p hp => ⟨T.code ha (C p hp), (T.bm ha hns (hT p hp) hbm).1, (T.bm ha hns (hT p hp) hbm).2⟩
    have M : L2.Mod K mg (hidT s₁.heap H) := ⟨T.kin KX, T.ns ha hns, ⟨mb, T.ns ha hb, hbb⟩, let ⟨mc, h1, h2⟩ := hlim; ⟨mc, T.ns ha h1, h2⟩⟩
    have e0 : Env0 P w K mg (hidT s₁.heap H) callerA [] s₁ H := ⟨rfl, M, fun b o e => of_hidT e, Nat.le_of_eq (hidT_size _ _), trivial, fun b hb => absurd (show b ∈ ([] : List Addr) from hb) (by simp), T.ok, .of_eq hg⟩
    refine codeAny_mono ((F _ (T.kin KX) (T.ns ha hns) TB).run callerA [] s₁ H ⟨[.ref a], []⟩ [.ref a] [.ref a] _ _ hr rfl e0 (hbind s₁ (.ref a)) (.cons rfl .nil) (hsp H (fun p hp => (T.tab _ (mem p hp)).1) hS)) fun r s' q => ?_
    match r, q with
    | .error e, q =>
      obtain ⟨_, _, _, _, _, _, _, _, _, _, _, _, z⟩ := q
      exact z.elim
    | .ok (.ret u), q =>
      obtain ⟨v, H', os, bare, un, ok', r', q⟩ := q
      obtain rfl : v = .bl true := q
      obtain rfl : u = Value.bool true := r'
      have keep : ∀ b o, b ∉ cs.map (·.2) → s₁.heap.get? b = some o → s'.heap.get? b = some o := fun b o nb e => by
        cases z : H b with
        | none => exact un.keep b o e z (fun y => absurd (show b ∈ ([] : List Addr) from y) (by simp)) (by simp)
        | some u =>
          by_cases hba : b = a
          · subst hba
            rcases T.scr with y | ⟨_, ob, xs, y⟩
            · rw [y] at z; cases z
            · have e1 := (T.ok _ _ y).1
              have e2 := (ok' _ _ (un.frzs _ ob _ y)).1
              rw [e] at e1
              cases e1
              exact e2
          · rw [T.out b hba nb] at z; cases z
      refine ⟨rfl, ⟨fun b o e => ?_, fun b o e => ?_⟩, os, bare⟩
      · by_cases hb : b ∈ cs.map (·.2)
        · obtain ⟨p, hp, rfl⟩ := List.mem_map.mp hb
          obtain ⟨more, z⟩ := un.tbls p.2 #[] (T.tab _ hb).1
          have e' := e
          rw [hT p hp] at e'
          cases e'
          exact .inr (.inl ⟨((C p hp).tab (hT p hp)).isCodeTable, rfl, #[], _, rfl, ok' p.2 _ z⟩)
        · exact .inl (keep b o hb e)
      · by_cases hb : b ∈ cs.map (·.2)
        · obtain ⟨p, hp, rfl⟩ := List.mem_map.mp hb
          obtain ⟨more, z⟩ := un.tbls p.2 #[] (T.tab _ hb).1
          exact ⟨_, ok' p.2 _ z⟩
        · exact ⟨o, keep b o hb e⟩
    | .ok .next, q => exact False.elim q
    | .ok .brk, q => exact False.elim q
    | .ok .cont, q => exact False.elim q
  have tabs : ∀ b ∈ cs.map (·.2), s₁.heap.get? b = some { cls := .none, data := .fields #[] } ∧ K.lookup b = none := fun b hb => by
    obtain ⟨p, hp, rfl⟩ := List.mem_map.mp hb
    exact ⟨hT p hp, nT p hp⟩
  cases hk : K.lookup a with
  | some o =>
    have e := KX a o hk
    rw [ha] at e
    cases e
    refine main (fun b => if b ∈ cs.map (·.2) then some (.tbl #[]) else none) ⟨fun b hb => ⟨if_pos hb, tabs b hb⟩, .inl (if_neg aT), fun b _ hb => if_neg hb, fun b u z => ?_⟩ (.inr ⟨_, vs.toArray, _, hk, rfl, rfl, rfl, by rw [List.size_toArray, hi.length]; exact hl, by simpa using rv⟩)
    by_cases hb : b ∈ cs.map (·.2)
    · have z' := (if_pos hb).symm.trans z
      cases z'
      exact (tabs b hb).1
    · have z' := (if_neg hb).symm.trans z
      cases z'
  | none =>
    refine main (fun b => if b = a then some (.frz { cls := .type "list", data := .seq vs.toArray } (.lst (ns.map V.int))) else if b ∈ cs.map (·.2) then some (.tbl #[]) else none)
      ⟨fun b hb => ⟨(if_neg fun z => aT (by rw [← z]; exact hb)).trans (if_pos hb), tabs b hb⟩, .inr ⟨hk, _, _, if_pos rfl⟩, fun b h1 h2 => (if_neg h1).trans (if_neg h2), fun b u z => ?_⟩ (.inl ⟨_, if_pos rfl⟩)
    by_cases hb : b = a
    · have z' := (if_pos hb).symm.trans z
      cases z'
      rw [hb]
      exact ⟨ha, by rw [List.length_map]; exact hl, vs, _, rv, ha⟩
    · have z1 := (if_neg hb).symm.trans z
      by_cases hb2 : b ∈ cs.map (·.2)
      · have z' := (if_pos hb2).symm.trans z1
        cases z'
        exact (tabs b hb2).1
      · have z' := (if_neg hb2).symm.trans z1
        cases z'
end Ph
end
section
set_option Elab.async false
set_option linter.all false
set_option maxRecDepth 100000
set_option maxHeartbeats 2000000
/-! Ph, part U: what the head tells, each fact as a Bool of the written part. -/
namespace Ph
open PySem PySem.Spec PyProof.Rows L2
theorem ba2 {a b : Bool} (h : (a && b) = true) : a = true ∧ b = true := Bool.and_eq_true_iff.mp h
/-! ### written data -/
def fltB : D → Value → Bool
  | .non, .none => true
  | .bl b, .bool c => b == c
  | .int i, .int j _ => decide (i = j)
  | .str x, .str y _ => decide (x = y)
  | _, _ => false
theorem fltB_ok {d : D} {u : Value} (h : fltB d u = true) : ∃ v, RelV v u ∧ ∀ (G : Gx) (M : Addr → Prop) (H : Hp), Dr G M H d v := by
  unfold fltB at h
  split at h
  · exact ⟨.non, rfl, fun _ _ _ => rfl⟩
  · rename_i b c
    obtain rfl : b = c := eq_of_beq h
    exact ⟨.bl b, rfl, fun _ _ _ => rfl⟩
  · rename_i i j t
    obtain rfl := of_decide_eq_true h
    exact ⟨.int i, ⟨t, rfl⟩, fun _ _ _ => rfl⟩
  · rename_i i j t
    obtain rfl := of_decide_eq_true h
    exact ⟨.str i, ⟨t, rfl⟩, fun _ _ _ => rfl⟩
  · cases h
/-- the tuple's items, if there stands a plain tuple -/
def tupAt (K : PySem.W.Frag) (a : Addr) : Option (List Value) := match K.lookup a with
  | some ⟨.type c, none, .seq its _, _⟩ => if c = "tuple" ∧ its.size ≤ sizeLine then some its.toList else none
  | _ => none
theorem tupAt_ok {K : PySem.W.Frag} {a : Addr} {l : List Value} (h : tupAt K a = some l) : ∃ (o : Obj) (its : Array Value) (n : Nat), K.lookup a = some o ∧ o.cls = .type "tuple" ∧ o.dict = none ∧ o.data = .seq its n ∧ its.size ≤ sizeLine ∧ its.toList = l := by
  unfold tupAt at h
  split at h
  · rename_i c its n sl e
    split at h
    · rename_i hc
      obtain ⟨rfl, hz⟩ := hc
      exact ⟨_, its, n, e, rfl, rfl, rfl, hz, Option.some.inj h⟩
    · cases h
  · cases h
mutual
def datB (K : PySem.W.Frag) : D → Value → Bool
  | .tup l, u => match u with
    | .ref a => (match tupAt K a with
      | some us => datsB K l us
      | none => false)
    | _ => false
  | d, u => fltB d u
def datsB (K : PySem.W.Frag) : List D → List Value → Bool
  | [], us => us.isEmpty
  | d :: l, us => match us with
    | u :: us => datB K d u && datsB K l us
    | [] => false
end
mutual
theorem datB_ok {K : PySem.W.Frag} : ∀ (d : D) (u : Value), datB K d u = true → ∃ v, RelV v u ∧ ∀ (G : Gx) (M : Addr → Prop) (H : Hp), G.K = K → Dr G M H d v
  | .tup l, u, h => by
    unfold datB at h
    split at h
    · rename_i a
      split at h
      · rename_i us e
        obtain ⟨o, its, n, h1, h2, h3, h4, h5, rfl⟩ := tupAt_ok e
        obtain ⟨vs, r, q⟩ := datsB_ok l _ h
        refine ⟨.ref a, rfl, fun G M H hK => ⟨a, vs, rfl, .inr ⟨o, its, n, by rw [hK]; exact h1, h2, h3, h4, h5, r⟩, q G M H hK⟩⟩
      · cases h
    · cases h
  | .non, u, h => by obtain ⟨v, r, q⟩ := fltB_ok (d := .non) (u := u) (by simpa [datB] using h); exact ⟨v, r, fun G M H _ => q G M H⟩
  | .bl b, u, h => by obtain ⟨v, r, q⟩ := fltB_ok (d := .bl b) (u := u) (by simpa [datB] using h); exact ⟨v, r, fun G M H _ => q G M H⟩
  | .int b, u, h => by obtain ⟨v, r, q⟩ := fltB_ok (d := .int b) (u := u) (by simpa [datB] using h); exact ⟨v, r, fun G M H _ => q G M H⟩
  | .str b, u, h => by obtain ⟨v, r, q⟩ := fltB_ok (d := .str b) (u := u) (by simpa [datB] using h); exact ⟨v, r, fun G M H _ => q G M H⟩
  | .lst l, u, h => by simp [datB, fltB] at h
  | .obj c l, u, h => by simp [datB, fltB] at h
  | .dic, u, h => by simp [datB, fltB] at h
  | .ptup l, u, h => by simp [datB, fltB] at h
  | .ptr n, u, h => by simp [datB, fltB] at h
  | .fn a, u, h => by simp [datB, fltB] at h
  | .scr l, u, h => by simp [datB, fltB] at h
theorem datsB_ok {K : PySem.W.Frag} : ∀ (l : List D) (us : List Value), datsB K l us = true → ∃ vs, Vals vs us ∧ ∀ (G : Gx) (M : Addr → Prop) (H : Hp), G.K = K → DrL G M H l vs
  | [], us, h => by
    unfold datsB at h
    obtain rfl := List.isEmpty_iff.mp h
    exact ⟨[], .nil, fun _ _ _ _ => rfl⟩
  | d :: l, us, h => by
    unfold datsB at h
    split at h
    · rename_i u us'
      obtain ⟨h1, h2⟩ := ba2 h
      obtain ⟨v, r1, q1⟩ := datB_ok d u h1
      obtain ⟨vs, r2, q2⟩ := datsB_ok l us' h2
      exact ⟨v :: vs, .cons r1 r2, fun G M H hK => .cons (q1 G M H hK) (q2 G M H hK)⟩
    · cases h
end
/-- the module's name x holds the data d -/
def cstB (K : PySem.W.Frag) (x : Str) (d : D) : Bool := match PySem.W.nsIn K mainGlobals x with
  | some (some u) => datB K d u
  | _ => false
section
variable {K : PySem.W.Frag} {h : Heap} {mg : Str → Option Value}
theorem cstB_ok (X : K.In h) (G : h.Ns mainGlobals mg) {x : Str} {d : D} (c : cstB K x d = true) : Cst K mg x d := by
  unfold cstB at c
  split at c
  · rename_i u e
    obtain ⟨v, r, q⟩ := datB_ok d u c
    exact ⟨u, v, PySem.W.mg_of X G e, r, q⟩
  · cases c
/-! ### tables with text keys -/
def entB (K : PySem.W.Frag) : List DictEntry → List (Str × D) → Bool
  | [], [] => true
  | e :: es, (k, d) :: r => (match e.key with
    | .str x _ => decide (x = k)
    | _ => false) && (fltB d e.val && entB K es r)
  | _, _ => false
theorem entB_ok : ∀ {es : List DictEntry} {kvs : List (Str × D)}, entB K es kvs = true → (es.any fun e => e.refKey) = false ∧ ∀ z : Str, (∃ e d, es.find? (fun e => e.key.isStr z) = some e ∧ kvs.lookup z = some d ∧ fltB d e.val = true) ∨ (es.find? (fun e => e.key.isStr z) = none ∧ kvs.lookup z = none)
  | [], [], _ => ⟨rfl, fun _ => .inr ⟨rfl, rfl⟩⟩
  | [], _ :: _, h => by cases h
  | _ :: _, [], h => by cases h
  | e :: es, (k, d) :: r, h => by
    obtain ⟨h1, h2⟩ := ba2 (show ((match e.key with
      | .str x _ => decide (x = k)
      | _ => false) && (fltB d e.val && entB K es r)) = true from h)
    obtain ⟨h3, h4⟩ := ba2 h2
    obtain ⟨q1, q2⟩ := entB_ok h4
    split at h1
    · rename_i x t ek
      obtain rfl := of_decide_eq_true h1
      refine ⟨by
        rw [List.any_cons, q1]
        unfold DictEntry.refKey
        rw [ek] <;> rfl, fun z => ?_⟩
      have ez : e.key.isStr z = (z == x) := by
        rw [ek]
        show (x == z) = (z == x)
        rw [Bool.eq_iff_iff]
        simp only [beq_iff_eq]
        exact eq_comm
      rw [List.find?_cons, ez]
      show _ ∨ (_ ∧ (match z == x with | true => some d | false => r.lookup z) = none)
      have el : ((x, d) :: r).lookup z = (match z == x with | true => some d | false => r.lookup z) := rfl
      cases hz : z == x with
      | true => exact .inl ⟨e, d, rfl, by rw [el, hz], h3⟩
      | false =>
        rcases q2 z with ⟨e', d', a, b, c⟩ | ⟨a, b⟩
        · exact .inl ⟨e', d', a, by rw [el, hz]; exact b, c⟩
        · exact .inr ⟨a, b⟩
    · cases h1
def tabB (K : PySem.W.Frag) (x : Str) (kvs : List (Str × D)) : Bool := match K.lookup (He.ga K x) with
  | some ⟨_, _, .dict es _, _⟩ => entB K es.toList kvs
  | _ => false
theorem tabB_ok {w : World} {x : Str} {kvs : List (Str × D)} {es : Array DictEntry} {n : Nat} (hm : mg x = some (.ref (He.ga K x))) (T : KDict K w (He.ga K x) es n) (c : tabB K x kvs = true) : Tab K w mg x (fun z => kvs.lookup z) := by
  unfold tabB at c
  rw [T.at_] at c
  have c : entB K es.toList kvs = true := c
  obtain ⟨q1, q2⟩ := entB_ok c
  refine ⟨_, es, n, hm, T.low, T.at_, T.lit, fun z => ?_⟩
  have e : PySem.W.nsIn K (He.ga K x) z = (match es.toList.find? (fun e => e.key.isStr z) with
      | some e => some (some e.val)
      | none => if es.toList.any (fun e => e.refKey) then none else some none) := by
    unfold PySem.W.nsIn
    rw [T.at_]
    rfl
  rw [e]
  rcases q2 z with ⟨e', d', a, b, c⟩ | ⟨a, b⟩
  · obtain ⟨v, r, q⟩ := fltB_ok c
    rw [a]
    exact .inl ⟨e'.val, v, d', b, rfl, r, q⟩
  · rw [a]
    refine .inr ⟨b, ?_⟩
    show (if es.toList.any (fun e => e.refKey) = true then none else some none) = some none
    rw [q1]
    rfl
/-! ### classes -/
theorem fldB_ok {G : Gx} {x f : Str} {c i : Nat} (hc : G.cls c = He.ga G.K x) (h1 : (He.Fa.cls x).ok G.K = true) (h2 : (He.Fa.noat x f).ok G.K = true) (h3 : (G.flds c)[i]? = some f) (h4 : (G.flds c).Nodup) : FldC G (G.cls c) c f i := by
  refine ⟨rfl, ?_, ?_, h3, h4⟩
  · rw [hc]; exact He.cls_ok h1
  · rw [hc]; exact He.eqO_ok h2
/-- instances of the class are asked rightly by isinstance -/
def insB (K : PySem.W.Frag) (C : Addr) : Bool := (PySem.W.plainGet K C Str.empty && (PySem.W.hasDictIn K C && (PySem.W.plainOver K C && He.eqO (PySem.W.findIn K (.ref C) "__setattr__") (some (some (.builtin "object.__setattr__")))))) &&
  (He.eqO (PySem.W.findIn K (.ref C) "__class__") (some (some (.builtin "object.__class__"))) && (He.eqO (PySem.W.specialIn K (.builtin "object.__class__") "__get__") (some (some (.builtin "getset_descriptor.__get__"))) && (decide (PySem.W.takesIn K (.builtin "object.__class__") = some true) && decide (PySem.W.mroIn K C (.type "object") = some true))))
theorem insB_ok {C : Addr} (c : insB K C = true) {H : Hp} {a dx : Addr} {fs : List (Str × V)} (e : H a = some (.ins C dx fs)) : TyX K H (.ref a) (.ref C) := by
  obtain ⟨c1, c2⟩ := ba2 c
  obtain ⟨a1, a2⟩ := ba2 c1
  obtain ⟨a2, a3⟩ := ba2 a2
  obtain ⟨a3, a4⟩ := ba2 a3
  obtain ⟨b1, b2⟩ := ba2 c2
  obtain ⟨b2, b3⟩ := ba2 b2
  obtain ⟨b3, b4⟩ := ba2 b3
  exact .base (.ins e ⟨a1, a2, a3, He.eqO_ok a4⟩ (He.eqO_ok b1) (He.eqO_ok b2) (of_decide_eq_true b3) (of_decide_eq_true b4))
def isB (K : PySem.W.Frag) (C : Addr) (ks : List Addr) : Bool := (["NoneType", "bool", "int", "str", "tuple", "list", "dict"].all fun n => decide (PySem.W.kitOne K (.type n) (.ref C) = some false)) && (decide (PySem.W.kitOne K (.ref C) (.ref C) = some true) &&
  ((ks.all fun k => decide (PySem.W.kitOne K (.ref k) (.ref C) = some false)) && ((C :: ks).all fun k => insB K k)))
theorem isB_ok {G : Gx} {c : Nat} {ks : List Nat} (h : isB G.K (G.cls c) (ks.map G.cls) = true) : IsC G (G.cls c) c ks := by
  obtain ⟨h1, h2⟩ := ba2 h
  obtain ⟨h2, h3⟩ := ba2 h2
  obtain ⟨h3, h4⟩ := ba2 h3
  refine ⟨rfl, fun n hn => of_decide_eq_true (List.all_eq_true.mp h1 n hn), of_decide_eq_true h2, fun k hk => of_decide_eq_true (List.all_eq_true.mp h3 _ (List.mem_map.mpr ⟨k, hk, rfl⟩)), fun k hk H a dx fs e => insB_ok (List.all_eq_true.mp h4 _ ?_) e⟩
  rcases List.mem_cons.mp hk with rfl | hk
  · exact List.mem_cons_self
  · exact List.mem_cons_of_mem _ (List.mem_map.mpr ⟨k, hk, rfl⟩)
/-- an own exception class under ValueError -/
def oexB (K : PySem.W.Frag) (C : Addr) : Bool := (match K.lookup C with
  | some ⟨.type t, _, .cls cd, sl⟩ => decide (t = "type") && ((match cd.mro with
    | .ref C' :: bm => decide (C' = C) && PySem.HandSPX.refsVE bm
    | _ => false) && (cd.hasDict && (!cd.hasDel && (match sl.toList with
    | [_, _, _, _, some (.builtin n), _] => decide (n = "ValueError.__new__")
    | _ => false))))
  | _ => false) && (He.eqO (PySem.W.findIn K (.ref C) "__setattr__") (some (some (.builtin "object.__setattr__"))) && (decide (PySem.W.subIn K (.ref C) (.type "BaseException") = some true) && (decide (PySem.W.typeIn K (.ref C) = some (.type "type")) && PySem.W.keepIn K (.ref C))))
theorem oexB_ok {C : Addr} (c : oexB K C = true) : OexC K C := by
  obtain ⟨c1, c2⟩ := ba2 c
  obtain ⟨c2, c3⟩ := ba2 c2
  obtain ⟨c3, c4⟩ := ba2 c3
  obtain ⟨c4, c5⟩ := ba2 c4
  refine ⟨?_, He.eqO_ok c2, of_decide_eq_true c3, of_decide_eq_true c4, c5⟩
  split at c1
  · rename_i t dd cd sl e
    obtain ⟨d1, d2⟩ := ba2 c1
    obtain ⟨d2, dd3⟩ := ba2 d2
    obtain ⟨d3, dd4⟩ := ba2 dd3
    obtain ⟨d4, d5⟩ := ba2 dd4
    clear dd3 dd4
    obtain rfl := of_decide_eq_true d1
    obtain ⟨nm, bs, mro, ns, qn, hd, sn, sub, ab, col, del⟩ := cd
    dsimp only at d2 d3 d4
    split at d2
    · rename_i C' bm em
      obtain ⟨f1, f2⟩ := ba2 d2
      obtain rfl := of_decide_eq_true f1
      subst d3
      have ed : del = false := by
        cases del with
        | false => rfl
        | true => cases d4
      subst ed
      split at d5
      · rename_i k0 k1 k2 k3 n k5 es
        obtain rfl := of_decide_eq_true d5
        have hsl : sl = #[k0, k1, k2, k3, some (.builtin "ValueError.__new__"), k5] := by
          obtain ⟨l⟩ := sl
          simp only at es
          rw [es]
        subst hsl
        exact ⟨nm, qn, ns, bs, bm, sn, sub, ab, col, dd, k0, k1, k2, k3, k5, e, f2⟩
      · cases d5
    · cases d2
  · cases c1
/-- the exception's facts for a handler's isinstance -/
def xccB (K : PySem.W.Frag) (D : Addr) : Bool := He.eqO (PySem.W.findIn K (.ref D) "__getattribute__") (some (some (.builtin "BaseException.__getattribute__"))) && (He.eqO (PySem.W.findIn K (.ref D) "__getattr__") (some none) && (decide (PySem.W.subIn K (.ref D) (.type "BaseException") = some true) && (PySem.W.hasDictIn K D &&
  (He.eqO (PySem.W.findIn K (.ref D) "__class__") (some (some (.builtin "object.__class__"))) && (He.eqO (PySem.W.specialIn K (.builtin "object.__class__") "__get__") (some (some (.builtin "getset_descriptor.__get__"))) && (decide (PySem.W.takesIn K (.builtin "object.__class__") = some true) && decide (PySem.W.mroIn K D (.type "object") = some true)))))))
theorem xccB_ok {D : Addr} (c : xccB K D = true) : ExcC K D := by
  obtain ⟨a1, c⟩ := ba2 c
  obtain ⟨a2, c⟩ := ba2 c
  obtain ⟨a3, c⟩ := ba2 c
  obtain ⟨a4, c⟩ := ba2 c
  obtain ⟨a5, c⟩ := ba2 c
  obtain ⟨a6, c⟩ := ba2 c
  obtain ⟨a7, a8⟩ := ba2 c
  exact ⟨He.eqO_ok a1, He.eqO_ok a2, of_decide_eq_true a3, a4, He.eqO_ok a5, He.eqO_ok a6, of_decide_eq_true a7, of_decide_eq_true a8⟩
def exmB (K : PySem.W.Frag) (x y : Str) (b : Bool) : Bool := decide (PySem.W.exmOne K (.ref (He.ga K x)) (.ref (He.ga K y)) = some b)
def kitOB (K : PySem.W.Frag) (x y : Str) (b : Bool) : Bool := decide (PySem.W.kitOne K (.ref (He.ga K x)) (.ref (He.ga K y)) = some b)
def gloB (K : PySem.W.Frag) (x : Str) (v : Value) : Bool := He.eqO (PySem.W.nsIn K mainGlobals x) (some (some v))
theorem gloB_ok (X : K.In h) (G : h.Ns mainGlobals mg) {x : Str} {v : Value} (c : gloB K x v = true) : mg x = some v := PySem.W.mg_of X G (He.eqO_ok c)
end
/-! ### defs -/
theorem funD_fun {K : PySem.W.Frag} {x qual : Str} {st : Stmt} {f : Addr} {fd : FuncData} (F : FunD K x qual (defArgs st) (defBody st) (defScope st) [] [] f fd) : Fun K x qual st f fd := by
  obtain ⟨⟨oc, od, dV, kV, doc, pm, an, cdv, ct, osl, e1, e2, e3, hd, _⟩, kp⟩ := F
  have ed : dV = .none := by
    rcases hd with h | h
    · exact h.2
    · exact absurd rfl h.1
  subst ed
  exact ⟨⟨oc, od, kV, doc, pm, an, cdv, ct, osl, e1, e2, e3⟩, kp⟩
section
variable {K : PySem.W.Frag} {mg : Str → Option Value} {P : Program} {w : World} {base : Heap} {G : Gx}
theorem fnB_ok {x qual : Str} {st : Stmt} {f : Addr} (F : ∃ fd, FunD K x qual (defArgs st) (defBody st) (defScope st) [] [] f fd) (hm : mg x = some (.ref f)) : ∃ f fd, Fun K x qual st f fd ∧ mg x = some (.ref f) := by
  obtain ⟨fd, F⟩ := F
  exact ⟨f, fd, funD_fun F, hm⟩
theorem fcB_ok {p : Str × Option Str} {x qual : Str} {st : Stmt} (F : ∃ fd, FunD K x qual (defArgs st) (defBody st) (defScope st) [] [] (He.fAd K p) fd) (hm : mg x = some (.ref (He.fAd K p))) : ∃ f fd, FunC K x qual st f fd (He.codeOf K p) ∧ mg x = some (.ref f) := by
  obtain ⟨fd, F⟩ := F
  obtain ⟨⟨oc, od, kV, doc, pm, an, cdv, ct, osl, e, lk, hc⟩, kp⟩ := funD_fun F
  obtain ⟨c, rfl⟩ := He.codeIn_ref hc
  have ec : He.codeOf K p = c := He.codeOf_eq lk (by rw [e])
  exact ⟨_, fd, ⟨⟨oc, od, kV, doc, pm, an, ct, osl, by rw [ec]; exact e, lk, by rw [ec]; exact hc⟩, kp⟩, hm⟩
theorem fdB_ok {x qual : Str} {params : Arguments} {bd : List Stmt} {sc : Scope} {dvs : List V} {f : Addr} (F : ∃ fd, FunD K x qual params bd sc dvs [] f fd) (hm : mg x = some (.ref f)) : ∃ f fd, FunD K x qual params bd sc dvs [] f fd ∧ mg x = some (.ref f) := by
  obtain ⟨fd, F⟩ := F
  exact ⟨f, fd, F, hm⟩
theorem mkB_ok {X : Str} {qual : Str} {st : Stmt} (F : ∃ fd, FunD K "__init__" qual (defArgs st) (defBody st) (defScope st) [] [] (He.fAd K (X, some "__init__")) fd) (hm : mg X = some (.ref (He.ga K X))) (c : (He.Fa.mkr X).ok K = true) :
    ∃ f fd, Fun K "__init__" qual st f fd ∧ mg X = some (.ref (He.ga K X)) ∧ Mk K (He.ga K X) f := by
  obtain ⟨fd, F⟩ := F
  obtain ⟨c1, c⟩ := ba2 c
  obtain ⟨c2, c⟩ := ba2 c
  obtain ⟨c3, c4⟩ := ba2 c
  exact ⟨_, fd, funD_fun F, hm, ⟨c1, He.eqO_ok c2, c3, c4⟩⟩
theorem mtB_ok {X m : Str} {qual : Str} {st : Stmt} (F : ∃ fd, FunD K m qual (defArgs st) (defBody st) (defScope st) [] [] (He.fAd K (X, some m)) fd) (c : (He.Fa.meth X m).ok K = true) :
    ∃ f fd, Fun K m qual st f fd ∧ Meth K (He.ga K X) m f := by
  obtain ⟨fd, F⟩ := F
  obtain ⟨c1, c⟩ := ba2 c
  obtain ⟨c3, c4⟩ := ba2 c
  exact ⟨_, fd, funD_fun F, ⟨He.eqO_ok c1, c3, c4⟩⟩
/-- an own exception with def __init__(self, f): self.f = f -/
theorem excB_ok {X g qual : Str} {st : Stmt} {c : Nat} {p1 p2 p3 p4 : Pos} {N ps : List Str} (hG : G.K = K) (hC : G.cls c = He.ga K X) (hx : xfl G c = g) (F : ∃ fd, FunD K "__init__" qual (defArgs st) (defBody st) (defScope st) [] [] (He.fAd K (X, some "__init__")) fd) (hm : mg X = some (.ref (He.ga K X)))
    (o : oexB K (He.ga K X) = true) (i : (He.Fa.meth X "__init__").ok K = true) (n : (He.Fa.noat X g).ok K = true) (S : FnScope N ps (defScope st))
    (hl : ps.length = 2) (h0 : N[0]? = some ("self" : Str)) (h1 : N[1]? = some g) (v0 : Vis (defScope st) "self") (v1 : Vis (defScope st) g) (hd : (g == ("__debug__" : Str)) = false) (hc : (g == ("__classdict__" : Str)) = false)
    (hb : defBody st = [.Assign [.Attribute (.Name "self" p1) g p2] (.Name g p3) p4]) (hbi : BindsH "__init__" qual st ps)
    (hs : ∀ env : PySem.Env, swapsWith (.Name g p3) (some (.Attribute (.Name "self" p1) g p2)) p4.line env = pure false) : ExC P w G mg base 1 X c := by
  subst hG
  obtain ⟨fd, F⟩ := F
  have F' := funD_fun F
  obtain ⟨c1, i⟩ := ba2 i
  obtain ⟨c3, c4⟩ := ba2 i
  refine ⟨_, fd, ps, by rw [hC]; exact hm, by rw [hC]; exact oexB_ok o, by rw [hC]; exact He.eqO_ok c1, beq_iff_eq.mp c3, by rw [hC, hx]; exact He.eqO_ok n, ?_, F'.binds hbi⟩
  rw [hx]
  exact exc_init F' S hl h0 h1 v0 v1 hd hc hb hs
end
end Ph
end
section
set_option Elab.async false
set_option linter.all false
set_option maxRecDepth 100000
set_option maxHeartbeats 2000000
/-! Ph, part V: a law's row from what its def computes. -/
namespace Ph
open PySem PySem.Spec PyProof.Rows L2
/-- the tables' cells, from the n-th on -/
def tabs : Nat → List Str → Store
  | _, [] => []
  | n, q :: qs => .tab n q :: tabs (n + 1) qs
theorem tabs_at : ∀ {qs : List Str} {n i : Nat} {c : Cell}, (tabs n qs)[i]? = some c → ∃ q, qs[i]? = some q ∧ c = .tab (n + i) q
  | [], _, _, _, h => by simp [tabs] at h
  | q :: qs, n, 0, c, h => by
    simp [tabs] at h
    exact ⟨q, by simp, by rw [← h]; rfl⟩
  | q :: qs, n, i + 1, c, h => by
    simp [tabs] at h
    obtain ⟨q', e, ec⟩ := tabs_at h
    exact ⟨q', by simpa using e, by rw [ec]; congr 1; omega⟩
theorem tabs_len : ∀ (qs : List Str) (n : Nat), (tabs n qs).length = qs.length
  | [], _ => rfl
  | q :: qs, n => by simp [tabs, tabs_len qs (n + 1)]
/-- the law's promise at its call -/
theorem law_sp {G : Gx} {g : List D → Store → Res (D × Store)} {qs : List Str} {as : List Addr} {H : Hp} {a : Addr} {ns : List Int} (hl : as.length = qs.length) (nd : as.Nodup) (ht : ∀ i b, as[i]? = some b → b = G.tabA i) (hH : ∀ b ∈ as, H b = some (.tbl #[])) (hS : LstK G.K H a (ns.map V.int))
    (hg : ∃ π, g [.scr (ns.map D.int)] (tabs 0 qs) = .ok (.bl true, π)) : spS G g [.ref a] H (fun v _ => v = .bl true) fun _ _ _ => False := by
  obtain ⟨π, hg⟩ := hg
  have dr : ∀ {G : Gx} {M : Addr → Prop} (ns : List Int), DrL G M H (ns.map D.int) (ns.map V.int) := fun {G M} ns => by
    induction ns with
    | nil => exact rfl
    | cons n ns ih => exact .cons rfl ih
  refine ⟨Nm, as, tabs 0 qs, [.scr (ns.map D.int)], ⟨fun n c h => ?_, by rw [tabs_len]; exact hl, nd, fun b hb => by rw [hH b hb]; exact fun z => (nomatch z), fun _ (z : False) => z.elim, fun _ (z : False) => z.elim⟩, .one ⟨a, _, rfl, hS, dr ns⟩, ?_⟩
  · obtain ⟨q, e, rfl⟩ := tabs_at h
    have hi : n < as.length := by rw [hl]; exact (List.getElem?_eq_some_iff.mp e).1
    refine ⟨as[n], List.getElem?_eq_getElem hi, ?_⟩
    exact ⟨by rw [Nat.zero_add]; exact ht n _ (List.getElem?_eq_getElem hi), #[], hH _ (List.getElem_mem hi), trivial, fun pos c h => by
      have h : (none : Option Value) = some c := h
      cases h⟩
  · rw [hg]
    exact fun v ι' H' _ _ r => r
/-- the row, from the law's promise (no repr is under way at its call) -/
theorem walk_G {l : PySem.W.OpenLaw} {n k : Nat} {q : Program} {loose : List Str} {XP : (Str → Option Value) → Heap → Prop} {YP : World → Heap → Prop} {d : DefRec} {x : Str}
    (hn : l.most = some n) (hn2 : n ≤ sizeLine) (hdf : d.params.defaults = []) (hr : Room k callerA)
    (F : ∀ (w : World) (mg : Str → Option Value) (fa : Addr) (h : Heap), YP w h → h.Ns mainGlobals mg → mg d.name = some (.ref fa) → ∃ (K : PySem.W.Frag) (fd : FuncData) (cs : List (Addr × Addr)) (sp : Sp), K.In h ∧
      (∀ p ∈ cs, h.get? p.2 = some { cls := .none, data := .fields #[] }) ∧ (∀ p ∈ cs, K.lookup p.2 = none) ∧ (∀ p ∈ cs, PySem.W.CodeHd h p.1 p.2) ∧ (∀ (s : Shared) (u : Value), BindsTo s fd ⟨[u], []⟩ [(x, u)]) ∧
      (∀ (H : Hp) (a : Addr) (ns : List Int), ns.length ≤ n → (∀ z ∈ ns, Builtin.Int.intBits z ≤ 1048576) → (∀ p ∈ cs, H p.2 = some (.tbl #[])) → LstK K H a (ns.map V.int) → sp [.ref a] H (fun v _ => v = .bl true) fun _ _ _ => False) ∧
      ∀ base : Heap, K.In base → base.Ns mainGlobals mg → (∀ p ∈ cs, LamX.TabB base mg p.1 p.2) → FnOkG l.prog w K mg base (L2.CX l.prog w) k fa fd [x] sp) :
    PySem.W.WalkO q loose XP YP l.row.toRowW d [] (fun f vs => PySem.call f vs) := by
  refine Att.attach_callB hn hdf fun w s₀ s₁ mg mb fa o pm cd doc a vs ns G Y ho hd hcd hmg hobj hints hlen hbits hg => ?_
  obtain ⟨K, fd, cs, sp, KX, hT, nT, C, hb, hsp, hF⟩ := F w mg fa _ Y G.T.g hmg
  exact lawG KX G.T.g G.T.b G.T.builtins G.T.nolimit hg hT nT C G.T.bmain hobj hints (Nat.le_trans hlen hn2) hr hF hb fun H hH hS => hsp H a ns hlen hbits hH hS
/-- the law's def, its promise over any base -/
theorem fnG_of {P : Program} {w : World} {K : PySem.W.Frag} {mg : Str → Option Value} {base : Heap} {x qual : Str} {st : Stmt} {N ps : List Str} {k : Nat} {G : Gx} {fs : SS} {g : List D → Store → Res (D × Store)} {f : Addr} {fd : FuncData} (F : Fun K x qual st f fd) (S : FnScope N ps (defScope st)) (body : BodyG P w K mg base N qual (defScope st) G k (defBody st) fs)
    (hlen : ∀ ds π, g ds π ≠ .fail → ds.length = ps.length) (sem : ∀ ds π, g ds π ≠ .fail → sRun fs N.length ds π = g ds π) : FnOkG P w K mg base (L2.CX P w) (k + 1) f fd ps (spS G g) := by
  obtain ⟨oc, od, kV, doc, pm, an, cdv, ct, osl, rfl, lk, hcd⟩ := F.ex
  refine fn_ofG lk hcd S (fun vs H Q E h => ?_) (fun A outer s H vs Q E hr hgd h => ?_)
  · obtain ⟨M, ι, π, ds, r, n⟩ := spS_out h
    rw [r.length]
    exact hlen ds π n
  · obtain ⟨M, ι, π, ds, W, r, h⟩ := h
    have n : g ds π ≠ .fail := fun z => by rw [z] at h; exact h
    exact ⟨_, body f cdv A outer s H E M ι π hr hgd, core_of W r n h (sem ds π n)⟩
theorem law_binds {K : PySem.W.Frag} {x qual p : Str} {st : Stmt} {f : Addr} {fd : FuncData} (F : Fun K x qual st f fd) (hb : BindsH x qual st [p]) (s : Shared) (u : Value) : BindsTo s fd ⟨[u], []⟩ [(p, u)] := by
  obtain ⟨oc, od, kV, doc, pm, an, cdv, ct, osl, rfl, lk, hcd⟩ := F.ex
  exact .of_eq (hb kV doc pm an cdv ct [u] rfl)
/-- the i-th of more facts -/
theorem exAt {exl : List (PySem.W.Frag → Bool)} {K : PySem.W.Frag} (h : (exl.all fun f => f K) = true) (i : Nat) {f : PySem.W.Frag → Bool} (e : exl[i]? = some f := by rfl) : f K = true := List.all_eq_true.mp h f (List.mem_of_getElem? e)
end Ph
end
section
set_option Elab.async false
set_option linter.all false
set_option maxRecDepth 100000
set_option maxHeartbeats 2000000
/-! Ph, part W: a Hook of several pieces, each looked at by a run of its own; the part of the heap that the module's own names reach. -/
namespace Ph
open PySem PySem.Spec PyProof.Rows L2
/-- a piece: facts, defs, tables with text keys, tables of code objects, more -/
structure Pc where
  fa : List He.Fa := []
  fn : List He.DefD := []
  ts : List He.Tab := []
  tf : List He.Defn := []
  ex : List (PySem.W.Frag → Bool) := []
/-- what the module's names (but those that begin with an underscore twice) reach -/
def own0 (g : Addr → Option Obj) : List Addr := match g mainGlobals with
  | some ⟨_, _, .dict es _, _⟩ => es.toList.flatMap fun e => (match e.key with
    | .str x _ => (match x.cps.toList with
      | 95 :: 95 :: _ => []
      | _ => He.refV e.val)
    | _ => [])
  | _ => []
def next (g : Addr → Option Obj) (as : List Addr) : List Addr := as.flatMap fun a => match g a with
  | some o => He.refsD o
  | none => []
def reach (g : Addr → Option Obj) : List Addr → Nat → List Addr
  | as, 0 => as
  | as, n + 1 => as ++ reach g (next g as) n
def asP (g : Addr → Option Obj) : List Addr := mainGlobals :: reach g (own0 g) 3
abbrev kP (g : Addr → Option Obj) : PySem.W.Frag := He.frT g (asP g)
def obsP (p : Pc) (g : Addr → Option Obj) : He.AlX := (He.obsT p.fa p.fn p.ts (kP g), (p.ex.all fun f => f (kP g)) && He.tabsB g p.tf (kP g))
def valP (p : Pc) (w : World) : He.AlX := (He.valT p.fn p.ts w, true)
/-- what a piece tells -/
abbrev SaysP (p : Pc) (w : World) (h : Heap) (K : PySem.W.Frag) : Prop := He.SaysX p.fa p.fn p.ts p.tf (fun K => p.ex.all fun f => f K) w h K
theorem saysP_of {p : Pc} {w : World} {h : Heap} (e : obsP p h.get? = valP p w) : SaysP p w h (kP h.get?) := by
  have e1 : He.obsT p.fa p.fn p.ts (kP h.get?) = He.valT p.fn p.ts w := congrArg (fun z : He.AlX => z.1) e
  have e2 : ((p.ex.all fun f => f (kP h.get?)) && He.tabsB h.get? p.tf (kP h.get?)) = true := congrArg (fun z : He.AlX => z.2) e
  obtain ⟨h1, h2⟩ := ba2 e2
  have key : ∀ q ∈ p.tf, PySem.W.codeHdIn (kP h.get?) (He.cT (kP h.get?) q).1 (He.cT (kP h.get?) q).2 = true ∧ ∃ o, h.get? (He.cT (kP h.get?) q).2 = some o ∧ He.emptyTab o = true := fun q hq => by
    obtain ⟨h3, h4⟩ := ba2 (List.all_eq_true.mp h2 q hq)
    refine ⟨h3, ?_⟩
    split at h4
    · rename_i o z
      exact ⟨o, z, h4⟩
    · cases h4
  refine ⟨e1, h1, fun q hq => (key q hq).1, fun q hq => ?_, fun q hq => ?_⟩
  · obtain ⟨_, o, z1, z2⟩ := key q hq
    exact He.frT_none z1 z2
  · obtain ⟨_, o, z1, z2⟩ := key q hq
    rw [z1, He.emptyTab_eq z2]
def hookP (ps : List Pc) : PySem.W.Hook where
  α := List He.AlX
  obs := fun s => ps.map fun p => obsP p s.heap.get?
  val := fun w => ps.map fun p => valP p w
  says := fun w h => ∃ K : PySem.W.Frag, K.In h ∧ ∀ p ∈ ps, SaysP p w h K
  of := fun w s e => ⟨kP s.heap.get?, He.frT_in, fun p hp => saysP_of (List.map_inj_left.mp e p hp)⟩
  keeps := fun _ _ _ ⟨K, hK, c⟩ k => ⟨K, PySem.W.Frag.In.keeps hK k, fun p hp => ⟨(c p hp).t, (c p hp).more, (c p hp).hd, (c p hp).out, fun q hq => k _ _ ((c p hp).empty q hq)⟩⟩
noncomputable def obP (ps : List Pc) (s : PySem.W.SharedT) : List He.AlX := ps.map fun p => obsP p (HandSHeadRun.getT s)
theorem obP_eq (ps : List Pc) (s : PySem.W.SharedT) : obP ps s = (hookP ps).obs s.abs := by
  have e : HandSHeadRun.getT s = s.abs.heap.get? := funext (HandSHeadRun.getT_eq s)
  unfold obP
  rw [e]
  rfl
/-- the run at one piece -/
abbrev RunP (r : PySem.W.OpenRow) (q : Program) (M : Nat) (loose : List Str) (p : Pc) (w : World) : Prop :=
  (HandSHeadRun.wholeF (fun p => HandSHeadRun.stepQ (HandSHeadRun.denQ HandSHeadRun.tabQ) p w) HandSHeadRun.fenceQ M r.prog).map (fun x => (obsP p (HandSHeadRun.getT x.2))) = some (valP p w)
/-- the run, what is looked at otherwise -/
abbrev RunL (r : PySem.W.OpenRow) (q : Program) (M : Nat) (loose : List Str) (w : World) : Prop :=
  (HandSHeadRun.wholeF (fun p => HandSHeadRun.stepQ (HandSHeadRun.denQ HandSHeadRun.tabQ) p w) HandSHeadRun.fenceQ M r.prog).map (fun x => (HandSHeadRun.looksF r.prog x.1.heap x.2.abs, HandSHeadRun.seenQ q loose (importedModules r.prog.main.body) (fun s => PySem.W.xlAt q [] s && PySem.W.recOk r.toRowW.records s) x.2.abs)) = some (true, PySem.W.openGood q loose)
theorem run_of {r : PySem.W.OpenRow} {q : Program} {M : Nat} {loose : List Str} {ps : List Pc} {w : World} (h : RunL r q M loose w) (hp : ∀ p ∈ ps, RunP r q M loose p w) : HandSHeadRun.RunEqI r q (hookP ps) (obP ps) M loose w := by
  unfold HandSHeadRun.RunEqI
  obtain ⟨x, e, e2⟩ := Option.map_eq_some_iff.mp h
  rw [e]
  have e2 : (HandSHeadRun.looksF r.prog x.1.heap x.2.abs, HandSHeadRun.seenQ q loose (importedModules r.prog.main.body) (fun s => PySem.W.xlAt q [] s && PySem.W.recOk r.toRowW.records s) x.2.abs) = (true, PySem.W.openGood q loose) := e2
  obtain ⟨a, b⟩ := Prod.mk.inj e2
  refine congrArg some (Prod.ext a (Prod.ext b ?_))
  refine List.map_inj_left.mpr fun p h => ?_
  have z := hp p h
  unfold RunP at z
  rw [e] at z
  exact Option.some.inj z
end Ph
end
section
set_option Elab.async false
set_option linter.all false
set_option maxRecDepth 100000
/-! Ph, part X: the words applied (for simp). -/
namespace Ph
open PySem PySem.Spec PyProof.Rows L2
section
variable {ρ r : En} {π : Store} {d e : D} {i j k n c : Nat} {a b o f as : SE} {ft fu : ST} {f1 f2 : SS} {xs : SA} {l m ds : List D} {x y : Int} {tg : STg} {it : SA}
@[simp] theorem gt_0 : gt (some d :: r) 0 = .ok d := rfl
@[simp] theorem gt_s {u : Option D} : gt (u :: r) (i + 1) = gt r i := by cases u <;> rfl
@[simp] theorem eV_ap : eV i ρ π = (gt ρ i).bind fun d => .ok (d, π) := rfl
@[simp] theorem eC_ap : eC d ρ π = .ok (d, π) := rfl
@[simp] theorem eOp_ap {op : D → D → Option D} : eOp op a b ρ π = (a ρ π).bind fun x => (b ρ x.2).bind fun y => (Res.of (op x.1 y.1)).bind fun z => .ok (z, y.2) := rfl
@[simp] theorem eUn_ap {op : D → Option D} : eUn op a ρ π = (a ρ π).bind fun x => (Res.of (op x.1)).bind fun z => .ok (z, x.2) := rfl
@[simp] theorem eUnS_ap {op : D → Store → Option D} : eUnS op a ρ π = (a ρ π).bind fun x => (Res.of (op x.1 x.2)).bind fun z => .ok (z, x.2) := rfl
@[simp] theorem aNil_ap : aNil ρ π = .ok ([], π) := rfl
@[simp] theorem aCons_ap : aCons a xs ρ π = (a ρ π).bind fun x => (xs ρ x.2).bind fun y => .ok (x.1 :: y.1, y.2) := rfl
@[simp] theorem eFn_ap {g : List D → Res D} : eFn g xs ρ π = (xs ρ π).bind fun x => (g x.1).at x.2 := rfl
@[simp] theorem eCall_ap {g : List D → Store → Res (D × Store)} : eCall g xs ρ π = (xs ρ π).bind fun x => g x.1 x.2 := rfl
@[simp] theorem tB_ap : tB a ρ π = (a ρ π).bind fun x => (bl? x.1).bind fun b => .ok (b, x.2) := rfl
@[simp] theorem tAnd_ap : tAnd ft fu ρ π = (ft ρ π).bind fun x => if x.1 = true then fu ρ x.2 else .ok (false, x.2) := rfl
@[simp] theorem tOr_ap : tOr ft fu ρ π = (ft ρ π).bind fun x => if x.1 = true then .ok (true, x.2) else fu ρ x.2 := rfl
@[simp] theorem tNot_ap : tNot ft ρ π = (ft ρ π).bind fun x => .ok (!x.1, x.2) := rfl
@[simp] theorem tYesD_ap : tYesD ρ π = .ok (true, π) := rfl
@[simp] theorem eIf_ap : eIf ft a b ρ π = (ft ρ π).bind fun x => if x.1 = true then a ρ x.2 else b ρ x.2 := rfl
@[simp] theorem eAnd_ap : eAnd a b ρ π = (a ρ π).bind fun x => (bl? x.1).bind fun c => if c = true then b ρ x.2 else .ok (.bl false, x.2) := rfl
@[simp] theorem eOr_ap : eOr a b ρ π = (a ρ π).bind fun x => (bl? x.1).bind fun c => if c = true then .ok (.bl true, x.2) else b ρ x.2 := rfl
@[simp] theorem eNot_ap : eNot a ρ π = (a ρ π).bind fun x => (bl? x.1).bind fun c => .ok (.bl (!c), x.2) := rfl
@[simp] theorem eChain_ap {p q : D → D → Option D} : eChain p q a b o ρ π = (a ρ π).bind fun x => (b ρ x.2).bind fun y => (Res.of (p x.1 y.1)).bind fun z => (bl? z).bind fun k =>
  if k = true then (o ρ y.2).bind fun u => (Res.of (q y.1 u.1)).bind fun w => .ok (w, u.2) else .ok (.bl false, y.2) := rfl
@[simp] theorem sNil_ap : sNil ρ π = .ok (.nx ρ π) := rfl
@[simp] theorem sSeq_ap : sSeq f1 f2 ρ π = (f1 ρ π).bind fun fl => match fl with
  | .nx ρ1 π1 => f2 ρ1 π1
  | x => .ok x := rfl
@[simp] theorem sRet_ap : sRet a ρ π = (a ρ π).bind fun p => .ok (.rt p.1 p.2) := rfl
@[simp] theorem sRetN_ap : sRetN ρ π = .ok (.rt .non π) := rfl
@[simp] theorem sIf_ap : sIf ft f1 f2 ρ π = (ft ρ π).bind fun p => if p.1 = true then f1 ρ p.2 else f2 ρ p.2 := rfl
@[simp] theorem sSet_ap : sSet i a ρ π = (a ρ π).bind fun p => .ok (.nx (ρ.set i (some p.1)) p.2) := rfl
@[simp] theorem sExpr_ap : sExpr a ρ π = (a ρ π).bind fun p => .ok (.nx ρ p.2) := rfl
@[simp] theorem sRaise_ap : sRaise c a ρ π = (a ρ π).bind fun p => .xc c p.1 p.2 := rfl
@[simp] theorem gN_ap : gN i d ρ π = .ok (ρ.set i (some d), π) := rfl
@[simp] theorem gT2_t : gT2 i j (.tup [d, e]) ρ π = .ok ((ρ.set i (some d)).set j (some e), π) := rfl
@[simp] theorem gT2_p : gT2 i j (.ptup [d, e]) ρ π = .ok ((ρ.set i (some d)).set j (some e), π) := rfl
@[simp] theorem iL_ap : iL a ρ π = (a ρ π).bind fun p => (lst? p.1).bind fun l => .ok (l, p.2) := rfl
@[simp] theorem iT_ap : iT a ρ π = (a ρ π).bind fun p => (tup? p.1).bind fun l => .ok (l, p.2) := rfl
@[simp] theorem iR_ap {g : List D → Res (List D)} : iR g xs ρ π = (xs ρ π).bind fun p => (g p.1).bind fun l => .ok (l, p.2) := rfl
@[simp] theorem sFor_ap : sFor it tg f1 ρ π = (it ρ π).bind fun p => sLoop tg f1 p.1 ρ p.2 := rfl
@[simp] theorem sLoop_nil : sLoop tg f1 [] ρ π = .ok (.nx ρ π) := rfl
@[simp] theorem sAsg_ap : sAsg tg a ρ π = (a ρ π).bind fun p => (tg p.1 ρ p.2).bind fun q => .ok (.nx q.1 q.2) := rfl
@[simp] theorem sPar_ap : sPar i j xs ρ π = (xs ρ π).bind fun p => match p.1 with
  | [x, y] => .ok (.nx ((ρ.set i (some x)).set j (some y)) p.2)
  | _ => .fail := rfl
@[simp] theorem eTM_ap {g : D → D → Option D} : eTM g a b ρ π = (a ρ π).bind fun p => (tup? p.1).bind fun _ => (b ρ p.2).bind fun q => (Res.of (g p.1 q.1)).bind fun z => .ok (z, q.2) := rfl
@[simp] theorem oNone_ap : oNone ρ π = .ok (none, π) := rfl
@[simp] theorem oSome_ap : oSome a ρ π = (a ρ π).bind fun p => (int? p.1).bind fun i => .ok (some i, p.2) := rfl
@[simp] theorem int?_int : int? (.int x) = .ok x := rfl
theorem eSl_ap {lo hi : SO} : eSl a lo hi ρ π = (a ρ π).bind fun p => (lo ρ p.2).bind fun q => (hi ρ q.2).bind fun r =>
  match p.1 with
  | .tup l => .ok (.tup (cutD l q.1 r.1), r.2)
  | .lst l => .ok (.lst (cutD l q.1 r.1), r.2)
  | .scr l => .ok (.lst (cutD l q.1 r.1), r.2)
  | _ => .fail := rfl
/-! ### ints -/
@[simp] theorem dAdd_i : dAdd (.int x) (.int y) = some (.int (x + y)) := rfl
@[simp] theorem oI0_i {g : Int → Int → D} : oI0 g (.int x) (.int y) = some (g x y) := rfl
@[simp] theorem oI_i {C : Int → Int → Bool} {g : Int → Int → D} (h : C x y = true) : oI C g (.int x) (.int y) = some (g x y) := if_pos h
@[simp] theorem dNeg_i : dNeg (.int x) = some (.int (-x)) := rfl
@[simp] theorem dIsN_n : dIsN .non .non = some (.bl true) := rfl
@[simp] theorem isN_i : isN (.int x) = false := rfl
@[simp] theorem isN_t : isN (.tup l) = false := rfl
@[simp] theorem isN_n : isN .non = true := rfl
@[simp] theorem isN_s {z : Str} : isN (.str z) = false := rfl
@[simp] theorem isN_b {z : Bool} : isN (.bl z) = false := rfl
@[simp] theorem fLen_t : fLen [.tup l] = .ok (.int l.length) := rfl
@[simp] theorem fLen_l : fLen [.lst l] = .ok (.int l.length) := rfl
@[simp] theorem fLen_c : fLen [.scr l] = .ok (.int l.length) := rfl
theorem wideM_l (h : x.natAbs < 2 ^ 64) : wideM x y = true := by simp [wideM, h]
theorem wideM_r (h : y.natAbs < 2 ^ 64) : wideM x y = true := by simp [wideM, h]
theorem wideM_n {n m : Nat} (h1 : x.natAbs < 2 ^ n) (h2 : y.natAbs < 2 ^ m) (h : n + m ≤ 100000000) : wideM x y = true := by
  unfold wideM
  by_cases hx : x.natAbs < 2 ^ 64
  · simp [hx]
  by_cases hy : y.natAbs < 2 ^ 64
  · simp [hy]
  have p1 : (0 : Nat) < 2 ^ 64 := by decide
  have a1 : x.natAbs.log2 < n := (Nat.log2_lt (by omega)).mpr h1
  have a2 : y.natAbs.log2 < m := (Nat.log2_lt (by omega)).mpr h2
  have : x.natAbs.log2 + y.natAbs.log2 < 100000000 := by omega
  simp [this]
theorem wideD_n {n : Nat} (h0 : 0 < y) (h : y.natAbs < 2 ^ n) (hn : n ≤ 9000) : wideD x y = true := by
  unfold wideD
  have a1 : y.natAbs.log2 < n := (Nat.log2_lt (by omega)).mpr h
  have : y.natAbs.log2 < 9000 := by omega
  simp [h0, this]
theorem posD_n (h0 : 0 < y) : posD x y = true := by simp [posD, h0]
theorem dMul_i (h : wideM x y = true) : dMul (.int x) (.int y) = some (.int (x * y)) := if_pos h
theorem dFdiv_i (h : wideD x y = true) : dFdiv (.int x) (.int y) = some (.int (x / y)) := if_pos h
theorem dMod_i (h : 0 < y) : dMod (.int x) (.int y) = some (.int (x % y)) := if_pos (posD_n h)
/-! ### places -/
theorem atI_nat' {α : Type} {l : List α} {i : Int} (h0 : 0 ≤ i) (h : i < l.length) : atI l i = l[i.toNat]? := by
  unfold atI ixN
  simp [h0, h]
@[simp] theorem atI_0 {α : Type} {u : α} {l : List α} : atI (u :: l) 0 = some u := by simp [atI, ixN]
@[simp] theorem atI_1 {α : Type} {u v : α} {l : List α} : atI (u :: v :: l) 1 = some v := by
  rw [atI_nat' (by decide) (by simp; omega)]
  rfl
@[simp] theorem atI_2 {α : Type} {u v w : α} {l : List α} : atI (u :: v :: w :: l) 2 = some w := by
  rw [atI_nat' (by decide) (by simp; omega)]
  rfl
@[simp] theorem dIx_t {i : Int} : dIx (.tup l) (.int i) = atI l i := rfl
@[simp] theorem dIx_l {i : Int} : dIx (.lst l) (.int i) = atI l i := rfl
@[simp] theorem dIx_c {i : Int} : dIx (.scr l) (.int i) = atI l i := rfl
@[simp] theorem fTup_s (h : ds.length ≤ 100000) : fTup ds = .ok (.tup ds) := if_pos h
@[simp] theorem fLst_s (h : ds.length ≤ 100000) : fLst ds = .ok (.lst ds) := if_pos h
theorem kb_n_int : kitB "NoneType" "int" = some false := by decide +kernel
@[simp] theorem dIs_n_int  : dIs "int" .non = some (.bl false) := by
  show (kitB "NoneType" "int").map _ = _
  rw [kb_n_int]; rfl
theorem kb_n_bool : kitB "NoneType" "bool" = some false := by decide +kernel
@[simp] theorem dIs_n_bool  : dIs "bool" .non = some (.bl false) := by
  show (kitB "NoneType" "bool").map _ = _
  rw [kb_n_bool]; rfl
theorem kb_n_str : kitB "NoneType" "str" = some false := by decide +kernel
@[simp] theorem dIs_n_str  : dIs "str" .non = some (.bl false) := by
  show (kitB "NoneType" "str").map _ = _
  rw [kb_n_str]; rfl
theorem kb_n_tuple : kitB "NoneType" "tuple" = some false := by decide +kernel
@[simp] theorem dIs_n_tuple  : dIs "tuple" .non = some (.bl false) := by
  show (kitB "NoneType" "tuple").map _ = _
  rw [kb_n_tuple]; rfl
theorem kb_n_list : kitB "NoneType" "list" = some false := by decide +kernel
@[simp] theorem dIs_n_list  : dIs "list" .non = some (.bl false) := by
  show (kitB "NoneType" "list").map _ = _
  rw [kb_n_list]; rfl
theorem kb_n_dict : kitB "NoneType" "dict" = some false := by decide +kernel
@[simp] theorem dIs_n_dict  : dIs "dict" .non = some (.bl false) := by
  show (kitB "NoneType" "dict").map _ = _
  rw [kb_n_dict]; rfl
theorem kb_b_int : kitB "bool" "int" = some true := by decide +kernel
@[simp] theorem dIs_b_int {u : Bool} : dIs "int" (.bl u) = some (.bl true) := by
  show (kitB "bool" "int").map _ = _
  rw [kb_b_int]; rfl
theorem kb_b_bool : kitB "bool" "bool" = some true := by decide +kernel
@[simp] theorem dIs_b_bool {u : Bool} : dIs "bool" (.bl u) = some (.bl true) := by
  show (kitB "bool" "bool").map _ = _
  rw [kb_b_bool]; rfl
theorem kb_b_str : kitB "bool" "str" = some false := by decide +kernel
@[simp] theorem dIs_b_str {u : Bool} : dIs "str" (.bl u) = some (.bl false) := by
  show (kitB "bool" "str").map _ = _
  rw [kb_b_str]; rfl
theorem kb_b_tuple : kitB "bool" "tuple" = some false := by decide +kernel
@[simp] theorem dIs_b_tuple {u : Bool} : dIs "tuple" (.bl u) = some (.bl false) := by
  show (kitB "bool" "tuple").map _ = _
  rw [kb_b_tuple]; rfl
theorem kb_b_list : kitB "bool" "list" = some false := by decide +kernel
@[simp] theorem dIs_b_list {u : Bool} : dIs "list" (.bl u) = some (.bl false) := by
  show (kitB "bool" "list").map _ = _
  rw [kb_b_list]; rfl
theorem kb_b_dict : kitB "bool" "dict" = some false := by decide +kernel
@[simp] theorem dIs_b_dict {u : Bool} : dIs "dict" (.bl u) = some (.bl false) := by
  show (kitB "bool" "dict").map _ = _
  rw [kb_b_dict]; rfl
theorem kb_i_int : kitB "int" "int" = some true := by decide +kernel
@[simp] theorem dIs_i_int {u : Int} : dIs "int" (.int u) = some (.bl true) := by
  show (kitB "int" "int").map _ = _
  rw [kb_i_int]; rfl
theorem kb_i_bool : kitB "int" "bool" = some false := by decide +kernel
@[simp] theorem dIs_i_bool {u : Int} : dIs "bool" (.int u) = some (.bl false) := by
  show (kitB "int" "bool").map _ = _
  rw [kb_i_bool]; rfl
theorem kb_i_str : kitB "int" "str" = some false := by decide +kernel
@[simp] theorem dIs_i_str {u : Int} : dIs "str" (.int u) = some (.bl false) := by
  show (kitB "int" "str").map _ = _
  rw [kb_i_str]; rfl
theorem kb_i_tuple : kitB "int" "tuple" = some false := by decide +kernel
@[simp] theorem dIs_i_tuple {u : Int} : dIs "tuple" (.int u) = some (.bl false) := by
  show (kitB "int" "tuple").map _ = _
  rw [kb_i_tuple]; rfl
theorem kb_i_list : kitB "int" "list" = some false := by decide +kernel
@[simp] theorem dIs_i_list {u : Int} : dIs "list" (.int u) = some (.bl false) := by
  show (kitB "int" "list").map _ = _
  rw [kb_i_list]; rfl
theorem kb_i_dict : kitB "int" "dict" = some false := by decide +kernel
@[simp] theorem dIs_i_dict {u : Int} : dIs "dict" (.int u) = some (.bl false) := by
  show (kitB "int" "dict").map _ = _
  rw [kb_i_dict]; rfl
theorem kb_s_int : kitB "str" "int" = some false := by decide +kernel
@[simp] theorem dIs_s_int {u : Str} : dIs "int" (.str u) = some (.bl false) := by
  show (kitB "str" "int").map _ = _
  rw [kb_s_int]; rfl
theorem kb_s_bool : kitB "str" "bool" = some false := by decide +kernel
@[simp] theorem dIs_s_bool {u : Str} : dIs "bool" (.str u) = some (.bl false) := by
  show (kitB "str" "bool").map _ = _
  rw [kb_s_bool]; rfl
theorem kb_s_str : kitB "str" "str" = some true := by decide +kernel
@[simp] theorem dIs_s_str {u : Str} : dIs "str" (.str u) = some (.bl true) := by
  show (kitB "str" "str").map _ = _
  rw [kb_s_str]; rfl
theorem kb_s_tuple : kitB "str" "tuple" = some false := by decide +kernel
@[simp] theorem dIs_s_tuple {u : Str} : dIs "tuple" (.str u) = some (.bl false) := by
  show (kitB "str" "tuple").map _ = _
  rw [kb_s_tuple]; rfl
theorem kb_s_list : kitB "str" "list" = some false := by decide +kernel
@[simp] theorem dIs_s_list {u : Str} : dIs "list" (.str u) = some (.bl false) := by
  show (kitB "str" "list").map _ = _
  rw [kb_s_list]; rfl
theorem kb_s_dict : kitB "str" "dict" = some false := by decide +kernel
@[simp] theorem dIs_s_dict {u : Str} : dIs "dict" (.str u) = some (.bl false) := by
  show (kitB "str" "dict").map _ = _
  rw [kb_s_dict]; rfl
theorem kb_t_int : kitB "tuple" "int" = some false := by decide +kernel
@[simp] theorem dIs_t_int {u : List D} : dIs "int" (.tup u) = some (.bl false) := by
  show (kitB "tuple" "int").map _ = _
  rw [kb_t_int]; rfl
theorem kb_t_bool : kitB "tuple" "bool" = some false := by decide +kernel
@[simp] theorem dIs_t_bool {u : List D} : dIs "bool" (.tup u) = some (.bl false) := by
  show (kitB "tuple" "bool").map _ = _
  rw [kb_t_bool]; rfl
theorem kb_t_str : kitB "tuple" "str" = some false := by decide +kernel
@[simp] theorem dIs_t_str {u : List D} : dIs "str" (.tup u) = some (.bl false) := by
  show (kitB "tuple" "str").map _ = _
  rw [kb_t_str]; rfl
theorem kb_t_tuple : kitB "tuple" "tuple" = some true := by decide +kernel
@[simp] theorem dIs_t_tuple {u : List D} : dIs "tuple" (.tup u) = some (.bl true) := by
  show (kitB "tuple" "tuple").map _ = _
  rw [kb_t_tuple]; rfl
theorem kb_t_list : kitB "tuple" "list" = some false := by decide +kernel
@[simp] theorem dIs_t_list {u : List D} : dIs "list" (.tup u) = some (.bl false) := by
  show (kitB "tuple" "list").map _ = _
  rw [kb_t_list]; rfl
theorem kb_t_dict : kitB "tuple" "dict" = some false := by decide +kernel
@[simp] theorem dIs_t_dict {u : List D} : dIs "dict" (.tup u) = some (.bl false) := by
  show (kitB "tuple" "dict").map _ = _
  rw [kb_t_dict]; rfl
theorem kb_l_int : kitB "list" "int" = some false := by decide +kernel
@[simp] theorem dIs_l_int {u : List D} : dIs "int" (.lst u) = some (.bl false) := by
  show (kitB "list" "int").map _ = _
  rw [kb_l_int]; rfl
theorem kb_l_bool : kitB "list" "bool" = some false := by decide +kernel
@[simp] theorem dIs_l_bool {u : List D} : dIs "bool" (.lst u) = some (.bl false) := by
  show (kitB "list" "bool").map _ = _
  rw [kb_l_bool]; rfl
theorem kb_l_str : kitB "list" "str" = some false := by decide +kernel
@[simp] theorem dIs_l_str {u : List D} : dIs "str" (.lst u) = some (.bl false) := by
  show (kitB "list" "str").map _ = _
  rw [kb_l_str]; rfl
theorem kb_l_tuple : kitB "list" "tuple" = some false := by decide +kernel
@[simp] theorem dIs_l_tuple {u : List D} : dIs "tuple" (.lst u) = some (.bl false) := by
  show (kitB "list" "tuple").map _ = _
  rw [kb_l_tuple]; rfl
theorem kb_l_list : kitB "list" "list" = some true := by decide +kernel
@[simp] theorem dIs_l_list {u : List D} : dIs "list" (.lst u) = some (.bl true) := by
  show (kitB "list" "list").map _ = _
  rw [kb_l_list]; rfl
theorem kb_l_dict : kitB "list" "dict" = some false := by decide +kernel
@[simp] theorem dIs_l_dict {u : List D} : dIs "dict" (.lst u) = some (.bl false) := by
  show (kitB "list" "dict").map _ = _
  rw [kb_l_dict]; rfl
theorem kb_d_int : kitB "dict" "int" = some false := by decide +kernel
@[simp] theorem dIs_d_int  : dIs "int" .dic = some (.bl false) := by
  show (kitB "dict" "int").map _ = _
  rw [kb_d_int]; rfl
theorem kb_d_bool : kitB "dict" "bool" = some false := by decide +kernel
@[simp] theorem dIs_d_bool  : dIs "bool" .dic = some (.bl false) := by
  show (kitB "dict" "bool").map _ = _
  rw [kb_d_bool]; rfl
theorem kb_d_str : kitB "dict" "str" = some false := by decide +kernel
@[simp] theorem dIs_d_str  : dIs "str" .dic = some (.bl false) := by
  show (kitB "dict" "str").map _ = _
  rw [kb_d_str]; rfl
theorem kb_d_tuple : kitB "dict" "tuple" = some false := by decide +kernel
@[simp] theorem dIs_d_tuple  : dIs "tuple" .dic = some (.bl false) := by
  show (kitB "dict" "tuple").map _ = _
  rw [kb_d_tuple]; rfl
theorem kb_d_list : kitB "dict" "list" = some false := by decide +kernel
@[simp] theorem dIs_d_list  : dIs "list" .dic = some (.bl false) := by
  show (kitB "dict" "list").map _ = _
  rw [kb_d_list]; rfl
theorem kb_d_dict : kitB "dict" "dict" = some true := by decide +kernel
@[simp] theorem dIs_d_dict  : dIs "dict" .dic = some (.bl true) := by
  show (kitB "dict" "dict").map _ = _
  rw [kb_d_dict]; rfl
end
end Ph
end
section
set_option Elab.async false
set_option linter.all false
set_option maxRecDepth 100000
set_option maxHeartbeats 2000000
/-! Ph, part Rc: the facts of an exception's class without a field. -/
namespace Ph
open PySem PySem.Spec PyProof.Rows L2
def bmVE : List Value := [.type "ValueError", .type "Exception", .type "BaseException", .type "object"]
def exnB (K : PySem.W.Frag) (x : Str) : Bool := PySem.W.excIn K (He.ga K x) bmVE "ValueError.__new__" && (PySem.W.keepIn K (.ref (He.ga K x)) && (decide (PySem.W.subIn K (.ref (He.ga K x)) (.type "BaseException") = some true) && decide (PySem.W.typeIn K (.ref (He.ga K x)) = some (.type "type"))))
theorem exnB_ok {G : Gx} {mg : Str → Option Value} {x : Str} {c : Nat} (hc : G.cls c = He.ga G.K x) (hf : G.flds c = []) (hm : mg x = some (.ref (G.cls c))) (h : exnB G.K x = true) : ExN G mg x c := by
  unfold exnB at h
  obtain ⟨h1, h⟩ := Bool.and_eq_true_iff.mp h
  obtain ⟨h2, h⟩ := Bool.and_eq_true_iff.mp h
  obtain ⟨h3, h4⟩ := Bool.and_eq_true_iff.mp h
  rw [← hc] at h1 h2 h3 h4
  exact ⟨bmVE, _, _, _, PySem.F.excBase_ValueError, h1, hm, h2, of_decide_eq_true h3, of_decide_eq_true h4, hf⟩
def neB (K : PySem.W.Frag) (x : Str) : Bool := decide (PySem.W.mroIn K (He.ga K x) (.type "object") = some true) && He.eqO (PySem.W.findIn K (.ref (He.ga K x)) "__ne__") (some (some (.builtin "object.__ne__")))
theorem neB_ok {G : Gx} {x : Str} {c : Nat} (hc : G.cls c = He.ga G.K x) (h : neB G.K x = true) : NeC G c := by
  obtain ⟨h1, h2⟩ := Bool.and_eq_true_iff.mp h
  rw [← hc] at h1 h2
  exact ⟨of_decide_eq_true h1, He.eqO_ok h2⟩
end Ph
end
section
set_option Elab.async false
set_option linter.all false
set_option maxRecDepth 100000
set_option maxHeartbeats 4000000
/-! the defs of the law's text, by data. Printed by gen2.py. -/
namespace Ph
open PySem PySem.Spec PyProof.Rows L2
def top (i : Nat) : Stmt := PySem.Challenge.pw_priorhall_k78_meetings_made.main.body.getD i (.Pass ⟨0, 0, 0, 0⟩)
def fl79 : Nat → List Str
  | 0 => ["cases", "tellings"]
  | 1 => ["hall", "case", "deeds", "can_be", "past"]
  | 2 => ["given"]
  | 3 => ["given"]
  | 4 => ["given"]
  | 5 => ["index"]
  | 6 => ["index"]
  | 7 => ["reason"]
  | _ => []
theorem flLen (c : Nat) : (fl79 c).length < 1000 := by unfold fl79; split <;> decide
abbrev gx (K : PySem.W.Frag) (C : Nat → Addr) : Gx := ⟨K, C, fl79, [], fun n => C (100 + n)⟩
def d_ZERO : D := .tup [.int 0, .int 1]
def d_ONE : D := .tup [.int 1, .int 1]
def d_FEWEST_CASES : D := .int 2
def d_MOST_CASES : D := .int 6
def d_MOST_PERSONS : D := .int 3
def d_FALSE : D := .str "false"
def kv_SIZES : List (Str × D) := [("say", .int 3), ("tell", .int 2)]
def t_SIZES (z : Str) : Option D := kv_SIZES.lookup z
def d_KNOWN : D := .str "known"
abbrev st_is_whole : Stmt := (top 11)
abbrev st_is_number : Stmt := (top 12)
abbrev st_is_between : Stmt := (top 13)
abbrev st_is_string : Stmt := (top 14)
abbrev st_is_tuple_of : Stmt := (top 15)
abbrev st_is_row : Stmt := (top 16)
abbrev st_lowest : Stmt := (top 20)
abbrev st_is_fraction : Stmt := (top 21)
abbrev st_plus : Stmt := (top 22)
abbrev st_divided : Stmt := (top 23)
abbrev st_sum_of : Stmt := (top 24)
abbrev st_is_cases : Stmt := (top 29)
abbrev st_is_lot_of : Stmt := (top 30)
abbrev st_are_chances : Stmt := (top 31)
abbrev st_is_part : Stmt := (top 32)
abbrev st_is_telling : Stmt := (top 33)
abbrev st_first_wrong : Stmt := (top 17)
abbrev st_wrong_telling : Stmt := (top 34)
abbrev st_check_tellings : Stmt := (top 35)
abbrev st_Hall___init__ : Stmt := (inClass (top 36) 0)
abbrev st_parts_of : Stmt := (top 37)
abbrev st_check_hall : Stmt := (top 38)
abbrev st_cases_of : Stmt := (top 39)
abbrev st_persons_of : Stmt := (top 40)
abbrev st_is_case : Stmt := (top 41)
abbrev st_check_case : Stmt := (top 42)
abbrev st_is_person : Stmt := (top 43)
abbrev st_check_person : Stmt := (top 44)
abbrev st_is_lot : Stmt := (top 45)
abbrev st_check_lot : Stmt := (top 46)
abbrev st_common_of : Stmt := (top 47)
abbrev st_part_at : Stmt := (top 48)
abbrev st_seen_by : Stmt := (top 49)
abbrev st_told_of : Stmt := (top 50)
abbrev st_chance_in : Stmt := (top 51)
abbrev st_sees_by : Stmt := (top 53)
abbrev st_says_by : Stmt := (top 54)
abbrev st_behind_saying : Stmt := (top 55)
abbrev st_piece_in : Stmt := (top 56)
abbrev st_has_form : Stmt := (top 61)
abbrev st_check_deed : Stmt := (top 62)
abbrev st_reason_against : Stmt := (top 63)
abbrev st_behind_deed : Stmt := (top 64)
abbrev st_Meeting___init__ : Stmt := (inClass (top 65) 0)
abbrev st_Meeting_do : Stmt := (inClass (top 65) 1)
abbrev st_Meeting_undo : Stmt := (inClass (top 65) 2)
abbrev st_Meeting_sees : Stmt := (inClass (top 65) 3)
abbrev st_Meeting_says : Stmt := (inClass (top 65) 4)
abbrev st_Meeting_left_open : Stmt := (inClass (top 65) 5)
abbrev st_led_by : Stmt := (top 66)
abbrev st_Hall___eq__ : Stmt := (inClass (top 36) 1)
abbrev st_Meeting___eq__ : Stmt := (inClass (top 65) 6)
abbrev st__law_pool : Stmt := (top 68)
abbrev st__law_draw : Stmt := (top 69)
abbrev st__law_pick : Stmt := (top 70)
abbrev st__law_cut : Stmt := (top 71)
abbrev st__law_plus : Stmt := (top 72)
abbrev st__law_over : Stmt := (top 73)
abbrev st__law_sum : Stmt := (top 74)
abbrev st__law_parted : Stmt := (top 75)
abbrev st__law_hall : Stmt := (top 76)
abbrev st__law_made : Stmt := (top 77)
abbrev st__law_part : Stmt := (top 78)
abbrev st__law_told_chance : Stmt := (top 79)
abbrev st__law_begun : Stmt := (top 81)
abbrev st__law_lot : Stmt := (top 82)
abbrev st__law_sees : Stmt := (top 83)
abbrev st__law_says : Stmt := (top 84)
abbrev st__law_deed : Stmt := (top 85)
abbrev st__law_told : Stmt := (top 86)
abbrev st__law_due : Stmt := (top 87)
abbrev st__law_refused : Stmt := (top 88)
abbrev st__law_right : Stmt := (top 89)
abbrev st_law : Stmt := (top 90)
abbrev st__law_barred : Stmt := (top 80)
/-- what the head tells -/
structure Txt (P : Program) (w : World) (K : PySem.W.Frag) (mg : Str → Option Value) (base : Heap) (C : Nat → Addr) : Prop where
  X_Barred : ExC P w (gx K C) mg base 1 "Barred" 7
  X_InvalidDeed : ExC P w (gx K C) mg base 1 "InvalidDeed" 6
  X_InvalidLot : ExC P w (gx K C) mg base 1 "InvalidLot" 3
  X_InvalidNumber : ExC P w (gx K C) mg base 1 "InvalidNumber" 2
  X_InvalidTellings : ExC P w (gx K C) mg base 1 "InvalidTellings" 5
  X_NotAHall : ExC P w (gx K C) mg base 1 "NotAHall" 4
  b_abs : mg "abs" = none
  b_all : mg "all" = none
  b_bool : mg "bool" = none
  b_dict : mg "dict" = none
  b_divmod : mg "divmod" = none
  b_enumerate : mg "enumerate" = none
  b_int : mg "int" = none
  b_isinstance : mg "isinstance" = none
  b_len : mg "len" = none
  b_list : mg "list" = none
  b_max : mg "max" = none
  b_min : mg "min" = none
  b_range : mg "range" = none
  b_repr : mg "repr" = none
  b_sorted : mg "sorted" = none
  b_str : mg "str" = none
  b_sum : mg "sum" = none
  b_tuple : mg "tuple" = none
  b_zip : mg "zip" = none
  c_FALSE : Cst K mg "FALSE" d_FALSE
  c_FEWEST_CASES : Cst K mg "FEWEST_CASES" d_FEWEST_CASES
  c_KNOWN : Cst K mg "KNOWN" d_KNOWN
  c_MOST_CASES : Cst K mg "MOST_CASES" d_MOST_CASES
  c_MOST_PERSONS : Cst K mg "MOST_PERSONS" d_MOST_PERSONS
  c_ONE : Cst K mg "ONE" d_ONE
  c_ZERO : Cst K mg "ZERO" d_ZERO
  cl_0 : Cls K (C 0)
  cl_1 : Cls K (C 1)
  f_0_0 : FldC (gx K C) (C 0) 0 "cases" 0
  f_0_1 : FldC (gx K C) (C 0) 0 "tellings" 1
  f_1_0 : FldC (gx K C) (C 1) 1 "hall" 0
  f_1_1 : FldC (gx K C) (C 1) 1 "case" 1
  f_1_2 : FldC (gx K C) (C 1) 1 "deeds" 2
  f_1_3 : FldC (gx K C) (C 1) 1 "can_be" 3
  f_1_4 : FldC (gx K C) (C 1) 1 "past" 4
  g_gcd : mg "gcd" = some (.builtin "math.gcd")
  is_Hall : IsC (gx K C) (C 0) 0 [1]
  is_Meeting : IsC (gx K C) (C 1) 1 [0]
  m_Barred : mg "Barred" = some (.ref (C 7))
  m_Hall : mg "Hall" = some (.ref (C 0))
  m_HallError : mg "HallError" = some (.ref (C 8))
  m_InvalidNumber : mg "InvalidNumber" = some (.ref (C 2))
  m_Meeting : mg "Meeting" = some (.ref (C 1))
  m_NotAHall : mg "NotAHall" = some (.ref (C 4))
  ne_1 : NeC (gx K C) 1
  nf_1_0 : NfC (gx K C) 1 (.ref (C 0))
  t_SIZES : Tab K w mg "SIZES" t_SIZES
  tb__law_right : LamX.TabB base mg (C 151) (C 101)
  tb_wrong_telling : LamX.TabB base mg (C 150) (C 100)
  ex_2_2 : PySem.W.exmOne K (.ref (C 2)) (.ref (C 2)) = some true
  ex_2_4 : PySem.W.exmOne K (.ref (C 2)) (.ref (C 4)) = some false
  ex_4_4 : PySem.W.exmOne K (.ref (C 4)) (.ref (C 4)) = some true
  ex_7_7 : PySem.W.exmOne K (.ref (C 7)) (.ref (C 7)) = some true
  fc__law_right : ∃ f fd, FunC K "_law_right" "_law_right" st__law_right f fd (C 151) ∧ mg "_law_right" = some (.ref f)
  fc_wrong_telling : ∃ f fd, FunC K "wrong_telling" "wrong_telling" st_wrong_telling f fd (C 150) ∧ mg "wrong_telling" = some (.ref f)
  fd_is_number : ∃ f fd, FunD K "is_number" "is_number" (defArgs st_is_number) (defBody st_is_number) (defScope st_is_number) [.int 0, .non] [] f fd ∧ mg "is_number" = some (.ref f)
  fn__law_barred : ∃ f fd, Fun K "_law_barred" "_law_barred" st__law_barred f fd ∧ mg "_law_barred" = some (.ref f)
  fn__law_begun : ∃ f fd, Fun K "_law_begun" "_law_begun" st__law_begun f fd ∧ mg "_law_begun" = some (.ref f)
  fn__law_cut : ∃ f fd, Fun K "_law_cut" "_law_cut" st__law_cut f fd ∧ mg "_law_cut" = some (.ref f)
  fn__law_deed : ∃ f fd, Fun K "_law_deed" "_law_deed" st__law_deed f fd ∧ mg "_law_deed" = some (.ref f)
  fn__law_draw : ∃ f fd, Fun K "_law_draw" "_law_draw" st__law_draw f fd ∧ mg "_law_draw" = some (.ref f)
  fn__law_due : ∃ f fd, Fun K "_law_due" "_law_due" st__law_due f fd ∧ mg "_law_due" = some (.ref f)
  fn__law_hall : ∃ f fd, Fun K "_law_hall" "_law_hall" st__law_hall f fd ∧ mg "_law_hall" = some (.ref f)
  fn__law_lot : ∃ f fd, Fun K "_law_lot" "_law_lot" st__law_lot f fd ∧ mg "_law_lot" = some (.ref f)
  fn__law_made : ∃ f fd, Fun K "_law_made" "_law_made" st__law_made f fd ∧ mg "_law_made" = some (.ref f)
  fn__law_over : ∃ f fd, Fun K "_law_over" "_law_over" st__law_over f fd ∧ mg "_law_over" = some (.ref f)
  fn__law_part : ∃ f fd, Fun K "_law_part" "_law_part" st__law_part f fd ∧ mg "_law_part" = some (.ref f)
  fn__law_parted : ∃ f fd, Fun K "_law_parted" "_law_parted" st__law_parted f fd ∧ mg "_law_parted" = some (.ref f)
  fn__law_pick : ∃ f fd, Fun K "_law_pick" "_law_pick" st__law_pick f fd ∧ mg "_law_pick" = some (.ref f)
  fn__law_plus : ∃ f fd, Fun K "_law_plus" "_law_plus" st__law_plus f fd ∧ mg "_law_plus" = some (.ref f)
  fn__law_pool : ∃ f fd, Fun K "_law_pool" "_law_pool" st__law_pool f fd ∧ mg "_law_pool" = some (.ref f)
  fn__law_refused : ∃ f fd, Fun K "_law_refused" "_law_refused" st__law_refused f fd ∧ mg "_law_refused" = some (.ref f)
  fn__law_says : ∃ f fd, Fun K "_law_says" "_law_says" st__law_says f fd ∧ mg "_law_says" = some (.ref f)
  fn__law_sees : ∃ f fd, Fun K "_law_sees" "_law_sees" st__law_sees f fd ∧ mg "_law_sees" = some (.ref f)
  fn__law_sum : ∃ f fd, Fun K "_law_sum" "_law_sum" st__law_sum f fd ∧ mg "_law_sum" = some (.ref f)
  fn__law_told : ∃ f fd, Fun K "_law_told" "_law_told" st__law_told f fd ∧ mg "_law_told" = some (.ref f)
  fn__law_told_chance : ∃ f fd, Fun K "_law_told_chance" "_law_told_chance" st__law_told_chance f fd ∧ mg "_law_told_chance" = some (.ref f)
  fn_are_chances : ∃ f fd, Fun K "are_chances" "are_chances" st_are_chances f fd ∧ mg "are_chances" = some (.ref f)
  fn_behind_deed : ∃ f fd, Fun K "behind_deed" "behind_deed" st_behind_deed f fd ∧ mg "behind_deed" = some (.ref f)
  fn_behind_saying : ∃ f fd, Fun K "behind_saying" "behind_saying" st_behind_saying f fd ∧ mg "behind_saying" = some (.ref f)
  fn_cases_of : ∃ f fd, Fun K "cases_of" "cases_of" st_cases_of f fd ∧ mg "cases_of" = some (.ref f)
  fn_chance_in : ∃ f fd, Fun K "chance_in" "chance_in" st_chance_in f fd ∧ mg "chance_in" = some (.ref f)
  fn_check_case : ∃ f fd, Fun K "check_case" "check_case" st_check_case f fd ∧ mg "check_case" = some (.ref f)
  fn_check_deed : ∃ f fd, Fun K "check_deed" "check_deed" st_check_deed f fd ∧ mg "check_deed" = some (.ref f)
  fn_check_hall : ∃ f fd, Fun K "check_hall" "check_hall" st_check_hall f fd ∧ mg "check_hall" = some (.ref f)
  fn_check_lot : ∃ f fd, Fun K "check_lot" "check_lot" st_check_lot f fd ∧ mg "check_lot" = some (.ref f)
  fn_check_person : ∃ f fd, Fun K "check_person" "check_person" st_check_person f fd ∧ mg "check_person" = some (.ref f)
  fn_check_tellings : ∃ f fd, Fun K "check_tellings" "check_tellings" st_check_tellings f fd ∧ mg "check_tellings" = some (.ref f)
  fn_common_of : ∃ f fd, Fun K "common_of" "common_of" st_common_of f fd ∧ mg "common_of" = some (.ref f)
  fn_divided : ∃ f fd, Fun K "divided" "divided" st_divided f fd ∧ mg "divided" = some (.ref f)
  fn_first_wrong : ∃ f fd, Fun K "first_wrong" "first_wrong" st_first_wrong f fd ∧ mg "first_wrong" = some (.ref f)
  fn_has_form : ∃ f fd, Fun K "has_form" "has_form" st_has_form f fd ∧ mg "has_form" = some (.ref f)
  fn_is_between : ∃ f fd, Fun K "is_between" "is_between" st_is_between f fd ∧ mg "is_between" = some (.ref f)
  fn_is_case : ∃ f fd, Fun K "is_case" "is_case" st_is_case f fd ∧ mg "is_case" = some (.ref f)
  fn_is_cases : ∃ f fd, Fun K "is_cases" "is_cases" st_is_cases f fd ∧ mg "is_cases" = some (.ref f)
  fn_is_fraction : ∃ f fd, Fun K "is_fraction" "is_fraction" st_is_fraction f fd ∧ mg "is_fraction" = some (.ref f)
  fn_is_lot : ∃ f fd, Fun K "is_lot" "is_lot" st_is_lot f fd ∧ mg "is_lot" = some (.ref f)
  fn_is_lot_of : ∃ f fd, Fun K "is_lot_of" "is_lot_of" st_is_lot_of f fd ∧ mg "is_lot_of" = some (.ref f)
  fn_is_part : ∃ f fd, Fun K "is_part" "is_part" st_is_part f fd ∧ mg "is_part" = some (.ref f)
  fn_is_person : ∃ f fd, Fun K "is_person" "is_person" st_is_person f fd ∧ mg "is_person" = some (.ref f)
  fn_is_row : ∃ f fd, Fun K "is_row" "is_row" st_is_row f fd ∧ mg "is_row" = some (.ref f)
  fn_is_string : ∃ f fd, Fun K "is_string" "is_string" st_is_string f fd ∧ mg "is_string" = some (.ref f)
  fn_is_telling : ∃ f fd, Fun K "is_telling" "is_telling" st_is_telling f fd ∧ mg "is_telling" = some (.ref f)
  fn_is_tuple_of : ∃ f fd, Fun K "is_tuple_of" "is_tuple_of" st_is_tuple_of f fd ∧ mg "is_tuple_of" = some (.ref f)
  fn_is_whole : ∃ f fd, Fun K "is_whole" "is_whole" st_is_whole f fd ∧ mg "is_whole" = some (.ref f)
  fn_law : ∃ f fd, Fun K "law" "law" st_law f fd ∧ mg "law" = some (.ref f)
  fn_led_by : ∃ f fd, Fun K "led_by" "led_by" st_led_by f fd ∧ mg "led_by" = some (.ref f)
  fn_lowest : ∃ f fd, Fun K "lowest" "lowest" st_lowest f fd ∧ mg "lowest" = some (.ref f)
  fn_part_at : ∃ f fd, Fun K "part_at" "part_at" st_part_at f fd ∧ mg "part_at" = some (.ref f)
  fn_parts_of : ∃ f fd, Fun K "parts_of" "parts_of" st_parts_of f fd ∧ mg "parts_of" = some (.ref f)
  fn_persons_of : ∃ f fd, Fun K "persons_of" "persons_of" st_persons_of f fd ∧ mg "persons_of" = some (.ref f)
  fn_piece_in : ∃ f fd, Fun K "piece_in" "piece_in" st_piece_in f fd ∧ mg "piece_in" = some (.ref f)
  fn_plus : ∃ f fd, Fun K "plus" "plus" st_plus f fd ∧ mg "plus" = some (.ref f)
  fn_reason_against : ∃ f fd, Fun K "reason_against" "reason_against" st_reason_against f fd ∧ mg "reason_against" = some (.ref f)
  fn_says_by : ∃ f fd, Fun K "says_by" "says_by" st_says_by f fd ∧ mg "says_by" = some (.ref f)
  fn_seen_by : ∃ f fd, Fun K "seen_by" "seen_by" st_seen_by f fd ∧ mg "seen_by" = some (.ref f)
  fn_sees_by : ∃ f fd, Fun K "sees_by" "sees_by" st_sees_by f fd ∧ mg "sees_by" = some (.ref f)
  fn_sum_of : ∃ f fd, Fun K "sum_of" "sum_of" st_sum_of f fd ∧ mg "sum_of" = some (.ref f)
  fn_told_of : ∃ f fd, Fun K "told_of" "told_of" st_told_of f fd ∧ mg "told_of" = some (.ref f)
  ki_2_8 : PySem.W.kitOne K (.ref (C 2)) (.ref (C 8)) = some true
  ki_4_8 : PySem.W.kitOne K (.ref (C 4)) (.ref (C 8)) = some true
  mk_Hall : ∃ f fd, Fun K "__init__" "Hall.__init__" st_Hall___init__ f fd ∧ mg "Hall" = some (.ref (C 0)) ∧ Mk K (C 0) f
  mk_Meeting : ∃ f fd, Fun K "__init__" "Meeting.__init__" st_Meeting___init__ f fd ∧ mg "Meeting" = some (.ref (C 1)) ∧ Mk K (C 1) f
  mt_Hall___eq__ : ∃ f fd, Fun K "__eq__" "Hall.__eq__" st_Hall___eq__ f fd ∧ Meth K (C 0) "__eq__" f
  mt_Meeting___eq__ : ∃ f fd, Fun K "__eq__" "Meeting.__eq__" st_Meeting___eq__ f fd ∧ Meth K (C 1) "__eq__" f
  mt_Meeting_do : ∃ f fd, Fun K "do" "Meeting.do" st_Meeting_do f fd ∧ Meth K (C 1) "do" f
  mt_Meeting_left_open : ∃ f fd, Fun K "left_open" "Meeting.left_open" st_Meeting_left_open f fd ∧ Meth K (C 1) "left_open" f
  mt_Meeting_says : ∃ f fd, Fun K "says" "Meeting.says" st_Meeting_says f fd ∧ Meth K (C 1) "says" f
  mt_Meeting_sees : ∃ f fd, Fun K "sees" "Meeting.sees" st_Meeting_sees f fd ∧ Meth K (C 1) "sees" f
  mt_Meeting_undo : ∃ f fd, Fun K "undo" "Meeting.undo" st_Meeting_undo f fd ∧ Meth K (C 1) "undo" f
  no_2 : PySem.W.findIn K (.ref (C 2)) "given" = some none
  no_4 : PySem.W.findIn K (.ref (C 4)) "given" = some none
  no_7 : PySem.W.findIn K (.ref (C 7)) "reason" = some none
  xc_2 : ExcC K (C 2)
  xc_4 : ExcC K (C 4)
  xf_2 : XfC K (C 2)
  xf_4 : XfC K (C 4)
  xf_7 : XfC K (C 7)
section
variable {P : Program} {w : World} {K : PySem.W.Frag} {mg : Str → Option Value} {base : Heap} {C : Nat → Addr}
abbrev N_is_whole : List Str := ["value"]
theorem sc_is_whole : FnScope N_is_whole ["value"] (defScope st_is_whole) := ⟨rfl, rfl, rfl, by decide +kernel, rfl, by decide +kernel, by decide +kernel⟩
noncomputable def fs_is_whole : SS := (sRet (eAnd (eUn (dIs "int") (eV 0)) (eNot (eUn (dIs "bool") (eV 0)))))
noncomputable def g_is_whole : List D → Store → Res (D × Store) := gRun fs_is_whole 1 1
theorem B_is_whole (T : Txt P w K mg base C) : Body P w K mg base N_is_whole "is_whole" (defScope st_is_whole) (gx K C) 0 (defBody st_is_whole) fs_is_whole := fun f cdv A outer s H E M ι π hr => (ss_one (s_ret (x_and (x_is T.b_isinstance T.b_int (by decide +kernel) (x_var 0)) (x_one (x_not (x_is T.b_isinstance T.b_bool (by decide +kernel) (x_var 0)))))))
theorem D_is_whole (T : Txt P w K mg base C) : Df P w K mg base 1 "is_whole" [] (spS (gx K C) g_is_whole) :=
  df_of (G := gx K C) T.fn_is_whole sc_is_whole (fun _ _ _ _ _ _ us hl => match us, hl with | [_], _ => rfl) (B_is_whole T) gRun_len (fun ds π h => gRun_sem h)
abbrev N_is_number : List Str := ["value", "low", "high"]
theorem sc_is_number : FnScope N_is_number ["value", "low", "high"] (defScope st_is_number) := ⟨rfl, rfl, rfl, by decide +kernel, rfl, by decide +kernel, by decide +kernel⟩
noncomputable def fs_is_number : SS := (sRet (eAnd (eCall g_is_whole (aCons (eV 0) aNil)) (eAnd (eOp dLe (eV 1) (eV 0)) (eOr (eOp dIsN (eV 2) (eC .non)) (eOp dLe (eV 0) (eV 2))))))
noncomputable def g_is_number : List D → Store → Res (D × Store) := gRun fs_is_number 3 3
theorem B_is_number (T : Txt P w K mg base C) : Body P w K mg base N_is_number "is_number" (defScope st_is_number) (gx K C) 1 (defBody st_is_number) fs_is_number := fun f cdv A outer s H E M ι π hr => (ss_one (s_ret (x_and (x_call_ (D_is_whole T) (hr.mono (by decide)) passD (xa_cons (x_var 0) xa_nil)) (x_and (x_cmp op_le od_le (x_var 1) (x_var 0) (nomark _)) (x_one (x_or (x_cmp op_isN od_isN (x_var 2) x_non (nomark _)) (x_one (x_cmp op_le od_le (x_var 0) (x_var 2) (nomark _)))))))))
def dd_is_number : List D := [.non]
theorem dfl_is_number : ∀ G M H, DrL G M H dd_is_number [(V.non)] := fun _ _ _ => ⟨_, _, rfl, rfl, rfl⟩
theorem D_is_number (T : Txt P w K mg base C) : Df P w K mg base 2 "is_number" [V.non] (spS (gx K C) g_is_number) := by
  obtain ⟨f, fd, F, hm⟩ := T.fd_is_number
  obtain ⟨ds, hv, hb⟩ := F.binds1 (ps := ["value", "low", "high"]) 2 1 (by simp) rfl fun T kV doc pm an cdv ct us its hu hi => match us, its, hu, hi with | [_, _], [_, _], _, _ => ⟨_, rfl, rfl⟩
  exact ⟨f, fd, ["value", "low", "high"], ds, fn_of_bodyD F sc_is_number (B_is_number T) gRun_len (fun ds π h => gRun_sem h), hm, F.kp, hb, hv⟩
abbrev N_is_between : List Str := ["value", "least", "most"]
theorem sc_is_between : FnScope N_is_between ["value", "least", "most"] (defScope st_is_between) := ⟨rfl, rfl, rfl, by decide +kernel, rfl, by decide +kernel, by decide +kernel⟩
noncomputable def fs_is_between : SS := (sRet (eAnd (eCall g_is_whole (aCons (eV 0) aNil)) (eChain dLe dLe (eV 1) (eV 0) (eV 2))))
noncomputable def g_is_between : List D → Store → Res (D × Store) := gRun fs_is_between 3 3
theorem B_is_between (T : Txt P w K mg base C) : Body P w K mg base N_is_between "is_between" (defScope st_is_between) (gx K C) 1 (defBody st_is_between) fs_is_between := fun f cdv A outer s H E M ι π hr => (ss_one (s_ret (x_and (x_call_ (D_is_whole T) (hr.mono (by decide)) passD (xa_cons (x_var 0) xa_nil)) (x_one (x_chain op_le op_le od_le od_le (x_var 1) (x_var 0) (x_var 2))))))
theorem D_is_between (T : Txt P w K mg base C) : Df P w K mg base 2 "is_between" [] (spS (gx K C) g_is_between) :=
  df_of (G := gx K C) T.fn_is_between sc_is_between (fun _ _ _ _ _ _ us hl => match us, hl with | [_, _, _], _ => rfl) (B_is_between T) gRun_len (fun ds π h => gRun_sem h)
abbrev N_is_string : List Str := ["value"]
theorem sc_is_string : FnScope N_is_string ["value"] (defScope st_is_string) := ⟨rfl, rfl, rfl, by decide +kernel, rfl, by decide +kernel, by decide +kernel⟩
noncomputable def fs_is_string : SS := (sRet (eUn (dIs "str") (eV 0)))
noncomputable def g_is_string : List D → Store → Res (D × Store) := gRun fs_is_string 1 1
theorem B_is_string (T : Txt P w K mg base C) : Body P w K mg base N_is_string "is_string" (defScope st_is_string) (gx K C) 0 (defBody st_is_string) fs_is_string := fun f cdv A outer s H E M ι π hr => (ss_one (s_ret (x_is T.b_isinstance T.b_str (by decide +kernel) (x_var 0))))
theorem D_is_string (T : Txt P w K mg base C) : Df P w K mg base 1 "is_string" [] (spS (gx K C) g_is_string) :=
  df_of (G := gx K C) T.fn_is_string sc_is_string (fun _ _ _ _ _ _ us hl => match us, hl with | [_], _ => rfl) (B_is_string T) gRun_len (fun ds π h => gRun_sem h)
abbrev N_is_tuple_of : List Str := ["value", "many"]
theorem sc_is_tuple_of : FnScope N_is_tuple_of ["value", "many"] (defScope st_is_tuple_of) := ⟨rfl, rfl, rfl, by decide +kernel, rfl, by decide +kernel, by decide +kernel⟩
noncomputable def fs_is_tuple_of : SS := (sRet (eAnd (eUn (dIs "tuple") (eV 0)) (eOp dEq (eFn fLen (aCons (eV 0) aNil)) (eV 1))))
noncomputable def g_is_tuple_of : List D → Store → Res (D × Store) := gRun fs_is_tuple_of 2 2
theorem B_is_tuple_of (T : Txt P w K mg base C) : Body P w K mg base N_is_tuple_of "is_tuple_of" (defScope st_is_tuple_of) (gx K C) 0 (defBody st_is_tuple_of) fs_is_tuple_of := fun f cdv A outer s H E M ι π hr => (ss_one (s_ret (x_and (x_is T.b_isinstance T.b_tuple (by decide +kernel) (x_var 0)) (x_one (x_cmp (op_eqB hr.units) od_eq (x_callB call_len fd_len nx_len T.b_len (by decide +kernel) (xa_cons (x_var 0) xa_nil)) (x_var 1) (nomark _))))))
theorem D_is_tuple_of (T : Txt P w K mg base C) : Df P w K mg base 1 "is_tuple_of" [] (spS (gx K C) g_is_tuple_of) :=
  df_of (G := gx K C) T.fn_is_tuple_of sc_is_tuple_of (fun _ _ _ _ _ _ us hl => match us, hl with | [_, _], _ => rfl) (B_is_tuple_of T) gRun_len (fun ds π h => gRun_sem h)
abbrev N_is_row : List Str := ["value", "least", "most"]
theorem sc_is_row : FnScope N_is_row ["value", "least", "most"] (defScope st_is_row) := ⟨rfl, rfl, rfl, by decide +kernel, rfl, by decide +kernel, by decide +kernel⟩
noncomputable def fs_is_row : SS := (sRet (eAnd (eUn (dIs "tuple") (eV 0)) (eChain dLe dLe (eV 1) (eFn fLen (aCons (eV 0) aNil)) (eV 2))))
noncomputable def g_is_row : List D → Store → Res (D × Store) := gRun fs_is_row 3 3
theorem B_is_row (T : Txt P w K mg base C) : Body P w K mg base N_is_row "is_row" (defScope st_is_row) (gx K C) 0 (defBody st_is_row) fs_is_row := fun f cdv A outer s H E M ι π hr => (ss_one (s_ret (x_and (x_is T.b_isinstance T.b_tuple (by decide +kernel) (x_var 0)) (x_one (x_chain op_le op_le od_le od_le (x_var 1) (x_callB call_len fd_len nx_len T.b_len (by decide +kernel) (xa_cons (x_var 0) xa_nil)) (x_var 2))))))
theorem D_is_row (T : Txt P w K mg base C) : Df P w K mg base 1 "is_row" [] (spS (gx K C) g_is_row) :=
  df_of (G := gx K C) T.fn_is_row sc_is_row (fun _ _ _ _ _ _ us hl => match us, hl with | [_, _, _], _ => rfl) (B_is_row T) gRun_len (fun ds π h => gRun_sem h)
abbrev N_lowest : List Str := ["over", "under", "common"]
theorem sc_lowest : FnScope N_lowest ["over", "under"] (defScope st_lowest) := ⟨rfl, rfl, rfl, by decide +kernel, rfl, by decide +kernel, by decide +kernel⟩
noncomputable def fs_lowest : SS := (sSeq (sSet 2 (eIf (tB (eOp dGt (eV 1) (eC (.int 0)))) (eFn fGcd (aCons (eV 0) (aCons (eV 1) aNil))) (eUn dNeg (eFn fGcd (aCons (eV 0) (aCons (eV 1) aNil))))))
    (sRet (eFn fTup (aCons (eOp dFdiv (eV 0) (eV 2)) (aCons (eOp dFdiv (eV 1) (eV 2)) aNil)))))
noncomputable def g_lowest : List D → Store → Res (D × Store) := gRun fs_lowest 2 3
theorem B_lowest (T : Txt P w K mg base C) : Body P w K mg base N_lowest "lowest" (defScope st_lowest) (gx K C) 0 (defBody st_lowest) fs_lowest := fun f cdv A outer s H E M ι π hr => (ss_cons (s_set (i := 2) sc_lowest.nd (x_if (xt_cmp op_gt od_gt (x_var 1) x_int (nomark _)) (x_gcd T.g_gcd (xa_cons (x_var 0) (xa_cons (x_var 1) xa_nil))) (x_un un_neg ud_neg (x_gcd T.g_gcd (xa_cons (x_var 0) (xa_cons (x_var 1) xa_nil))))))
      (ss_one (s_ret (x_tup (xa_cons (x_op op_fdivW od_fdiv (x_var 0) (x_var 2)) (xa_cons (x_op op_fdivW od_fdiv (x_var 1) (x_var 2)) xa_nil))))))
theorem D_lowest (T : Txt P w K mg base C) : Df P w K mg base 1 "lowest" [] (spS (gx K C) g_lowest) :=
  df_of (G := gx K C) T.fn_lowest sc_lowest (fun _ _ _ _ _ _ us hl => match us, hl with | [_, _], _ => rfl) (B_lowest T) gRun_len (fun ds π h => gRun_sem h)
abbrev N_is_fraction : List Str := ["value"]
theorem sc_is_fraction : FnScope N_is_fraction ["value"] (defScope st_is_fraction) := ⟨rfl, rfl, rfl, by decide +kernel, rfl, by decide +kernel, by decide +kernel⟩
noncomputable def fs_is_fraction : SS := (sSeq (sIf (tOr (tNot (tB (eCall g_is_tuple_of (aCons (eV 0) (aCons (eC (.int 2)) aNil))))) (tOr (tNot (tB (eCall g_is_whole (aCons (eOp dIx (eV 0) (eC (.int 0))) aNil)))) (tNot (tB (eCall (fun ds => g_is_number (ds ++ dd_is_number)) (aCons (eOp dIx (eV 0) (eC (.int 1))) (aCons (eC (.int 1)) aNil))))))) (sRet (eC (.bl false))) sNil)
    (sRet (eOp dEq (eFn fGcd (aCons (eOp dIx (eV 0) (eC (.int 0))) (aCons (eOp dIx (eV 0) (eC (.int 1))) aNil))) (eC (.int 1)))))
noncomputable def g_is_fraction : List D → Store → Res (D × Store) := gRun fs_is_fraction 1 1
theorem B_is_fraction (T : Txt P w K mg base C) : Body P w K mg base N_is_fraction "is_fraction" (defScope st_is_fraction) (gx K C) 2 (defBody st_is_fraction) fs_is_fraction := fun f cdv A outer s H E M ι π hr => (ss_cons (s_if (xt_w (xw_or (xt_not (xt_val (x_call_ (D_is_tuple_of T) (hr.mono (by decide)) passD (xa_cons (x_var 0) (xa_cons x_int xa_nil))))) (xw_or (xt_not (xt_val (x_call_ (D_is_whole T) (hr.mono (by decide)) passD (xa_cons (x_ix ix_seq od_ix (x_var 0) x_int) xa_nil)))) (xw_or1 (xt_not (xt_val (x_call (D_is_number T) (hr.mono (by decide)) passD dfl_is_number (xa_cons (x_ix ix_seq od_ix (x_var 0) x_int) (xa_cons x_int xa_nil))))))))) (ss_one (s_ret x_bl)) ss_nil)
      (ss_one (s_ret (x_cmp (op_eqB hr.units) od_eq (x_gcd T.g_gcd (xa_cons (x_ix ix_seq od_ix (x_var 0) x_int) (xa_cons (x_ix ix_seq od_ix (x_var 0) x_int) xa_nil))) x_int (nomark _)))))
theorem D_is_fraction (T : Txt P w K mg base C) : Df P w K mg base 3 "is_fraction" [] (spS (gx K C) g_is_fraction) :=
  df_of (G := gx K C) T.fn_is_fraction sc_is_fraction (fun _ _ _ _ _ _ us hl => match us, hl with | [_], _ => rfl) (B_is_fraction T) gRun_len (fun ds π h => gRun_sem h)
abbrev N_plus : List Str := ["one", "other"]
theorem sc_plus : FnScope N_plus ["one", "other"] (defScope st_plus) := ⟨rfl, rfl, rfl, by decide +kernel, rfl, by decide +kernel, by decide +kernel⟩
noncomputable def fs_plus : SS := (sRet (eCall g_lowest (aCons (eOp dAdd (eOp dMul (eOp dIx (eV 0) (eC (.int 0))) (eOp dIx (eV 1) (eC (.int 1)))) (eOp dMul (eOp dIx (eV 1) (eC (.int 0))) (eOp dIx (eV 0) (eC (.int 1))))) (aCons (eOp dMul (eOp dIx (eV 0) (eC (.int 1))) (eOp dIx (eV 1) (eC (.int 1)))) aNil))))
noncomputable def g_plus : List D → Store → Res (D × Store) := gRun fs_plus 2 2
theorem B_plus (T : Txt P w K mg base C) : Body P w K mg base N_plus "plus" (defScope st_plus) (gx K C) 1 (defBody st_plus) fs_plus := fun f cdv A outer s H E M ι π hr => (ss_one (s_ret (x_call_ (D_lowest T) (hr.mono (by decide)) passD (xa_cons (x_op op_addD od_add (x_op op_mulD od_mul (x_ix ix_seq od_ix (x_var 0) x_int) (x_ix ix_seq od_ix (x_var 1) x_int)) (x_op op_mulD od_mul (x_ix ix_seq od_ix (x_var 1) x_int) (x_ix ix_seq od_ix (x_var 0) x_int))) (xa_cons (x_op op_mulD od_mul (x_ix ix_seq od_ix (x_var 0) x_int) (x_ix ix_seq od_ix (x_var 1) x_int)) xa_nil)))))
theorem D_plus (T : Txt P w K mg base C) : Df P w K mg base 2 "plus" [] (spS (gx K C) g_plus) :=
  df_of (G := gx K C) T.fn_plus sc_plus (fun _ _ _ _ _ _ us hl => match us, hl with | [_, _], _ => rfl) (B_plus T) gRun_len (fun ds π h => gRun_sem h)
abbrev N_divided : List Str := ["one", "other"]
theorem sc_divided : FnScope N_divided ["one", "other"] (defScope st_divided) := ⟨rfl, rfl, rfl, by decide +kernel, rfl, by decide +kernel, by decide +kernel⟩
noncomputable def fs_divided : SS := (sRet (eCall g_lowest (aCons (eOp dMul (eOp dIx (eV 0) (eC (.int 0))) (eOp dIx (eV 1) (eC (.int 1)))) (aCons (eOp dMul (eOp dIx (eV 0) (eC (.int 1))) (eOp dIx (eV 1) (eC (.int 0)))) aNil))))
noncomputable def g_divided : List D → Store → Res (D × Store) := gRun fs_divided 2 2
theorem B_divided (T : Txt P w K mg base C) : Body P w K mg base N_divided "divided" (defScope st_divided) (gx K C) 1 (defBody st_divided) fs_divided := fun f cdv A outer s H E M ι π hr => (ss_one (s_ret (x_call_ (D_lowest T) (hr.mono (by decide)) passD (xa_cons (x_op op_mulD od_mul (x_ix ix_seq od_ix (x_var 0) x_int) (x_ix ix_seq od_ix (x_var 1) x_int)) (xa_cons (x_op op_mulD od_mul (x_ix ix_seq od_ix (x_var 0) x_int) (x_ix ix_seq od_ix (x_var 1) x_int)) xa_nil)))))
theorem D_divided (T : Txt P w K mg base C) : Df P w K mg base 2 "divided" [] (spS (gx K C) g_divided) :=
  df_of (G := gx K C) T.fn_divided sc_divided (fun _ _ _ _ _ _ us hl => match us, hl with | [_, _], _ => rfl) (B_divided T) gRun_len (fun ds π h => gRun_sem h)
abbrev N_sum_of : List Str := ["fractions", "found", "each"]
theorem sc_sum_of : FnScope N_sum_of ["fractions"] (defScope st_sum_of) := ⟨rfl, rfl, rfl, by decide +kernel, rfl, by decide +kernel, by decide +kernel⟩
noncomputable def fs_sum_of : SS := (sSeq (sSet 1 (eC d_ZERO))
    (sSeq (sFor (iS (eV 0)) (gN 2) (sSet 1 (eCall g_plus (aCons (eV 1) (aCons (eV 2) aNil)))))
    (sRet (eV 1))))
noncomputable def g_sum_of : List D → Store → Res (D × Store) := gRun fs_sum_of 1 3
theorem B_sum_of (T : Txt P w K mg base C) : Body P w K mg base N_sum_of "sum_of" (defScope st_sum_of) (gx K C) 2 (defBody st_sum_of) fs_sum_of := fun f cdv A outer s H E M ι π hr => (ss_cons (s_set (i := 1) sc_sum_of.nd (x_cst T.c_ZERO))
      (ss_cons (s_for ownD rfl (xi_seq rfl (x_var 0)) (xg_name sc_sum_of.nd) (ss_one (s_set (i := 1) sc_sum_of.nd (x_call_ (D_plus T) (hr.mono (by decide)) passD (xa_cons (x_var 1) (xa_cons (x_var 2) xa_nil))))))
      (ss_one (s_ret (x_var 1)))))
theorem D_sum_of (T : Txt P w K mg base C) : Df P w K mg base 3 "sum_of" [] (spS (gx K C) g_sum_of) :=
  df_of (G := gx K C) T.fn_sum_of sc_sum_of (fun _ _ _ _ _ _ us hl => match us, hl with | [_], _ => rfl) (B_sum_of T) gRun_len (fun ds π h => gRun_sem h)
abbrev N_is_cases : List Str := ["value"]
theorem sc_is_cases : FnScope N_is_cases ["value"] (defScope st_is_cases) := ⟨rfl, rfl, rfl, by decide +kernel, rfl, by decide +kernel, by decide +kernel⟩
noncomputable def fs_is_cases : SS := (sRet (eCall g_is_between (aCons (eV 0) (aCons (eC d_FEWEST_CASES) (aCons (eC d_MOST_CASES) aNil)))))
noncomputable def g_is_cases : List D → Store → Res (D × Store) := gRun fs_is_cases 1 1
theorem B_is_cases (T : Txt P w K mg base C) : Body P w K mg base N_is_cases "is_cases" (defScope st_is_cases) (gx K C) 2 (defBody st_is_cases) fs_is_cases := fun f cdv A outer s H E M ι π hr => (ss_one (s_ret (x_call_ (D_is_between T) (hr.mono (by decide)) passD (xa_cons (x_var 0) (xa_cons (x_cst T.c_FEWEST_CASES) (xa_cons (x_cst T.c_MOST_CASES) xa_nil))))))
theorem D_is_cases (T : Txt P w K mg base C) : Df P w K mg base 3 "is_cases" [] (spS (gx K C) g_is_cases) :=
  df_of (G := gx K C) T.fn_is_cases sc_is_cases (fun _ _ _ _ _ _ us hl => match us, hl with | [_], _ => rfl) (B_is_cases T) gRun_len (fun ds π h => gRun_sem h)
abbrev N_is_lot_of : List Str := ["cases", "value", "one", "other", "case"]
theorem sc_is_lot_of : FnScope N_is_lot_of ["cases", "value"] (defScope st_is_lot_of) := ⟨rfl, rfl, rfl, by decide +kernel, rfl, by decide +kernel, by decide +kernel⟩
noncomputable def fs_is_lot_of : SS := (sSeq (sIf (tOr (tNot (tB (eUn (dIs "tuple") (eV 1)))) (tNot (tB (eFn fAll (aCons (eLc (iS (eV 1)) [4] (gN 4) tYesD (eCall g_is_between (aCons (eV 4) (aCons (eC (.int 0)) (aCons (eOp dSub (eV 0) (eC (.int 1))) aNil))))) aNil))))) (sRet (eC (.bl false))) sNil)
    (sRet (eFn fAll (aCons (eLc (iR zipD (aCons (eV 1) (aCons (eSl (eV 1) (oSome (eC (.int 1))) oNone) aNil))) [2, 3] (gT2 2 3) tYesD (eOp dLt (eV 2) (eV 3))) aNil))))
noncomputable def g_is_lot_of : List D → Store → Res (D × Store) := gRun fs_is_lot_of 2 5
theorem B_is_lot_of (T : Txt P w K mg base C) : Body P w K mg base N_is_lot_of "is_lot_of" (defScope st_is_lot_of) (gx K C) 2 (defBody st_is_lot_of) fs_is_lot_of := fun f cdv A outer s H E M ι π hr => (ss_cons (s_if (xt_w (xw_or (xt_not (xt_val (x_is T.b_isinstance T.b_tuple (by decide +kernel) (x_var 1)))) (xw_or1 (xt_not (xt_val (x_callB (cr_all rfl) fd_all nx_all T.b_all (by decide +kernel) (xa_cons (x_lc (own := [("case", 4)]) rfl sc_is_lot_of.nd (xi_seq rfl (x_var 1)) (blkOk_by (own := [("case", 4)]) (N := N_is_lot_of) (sc := defScope st_is_lot_of) (by decide +kernel)) (fun _ _ _ _ _ _ => (xg_name sc_is_lot_of.nd)) (fun _ _ _ _ _ _ => xs_nil) (fun _ _ _ _ _ _ => (x_call_ (D_is_between T) (hr.mono (by decide)) passL (xa_cons (x_var 4) (xa_cons x_int (xa_cons (x_op op_sub od_sub (x_var 0) x_int) xa_nil)))))) xa_nil))))))) (ss_one (s_ret x_bl)) ss_nil)
      (ss_one (s_ret (x_callB (cr_all rfl) fd_all nx_all T.b_all (by decide +kernel) (xa_cons (x_lc (own := [("one", 2), ("other", 3)]) rfl sc_is_lot_of.nd (xi_zip T.b_zip (xa_cons (x_var 1) (xa_cons (x_slice (x_var 1) (xo_some x_int) xo_none) xa_nil))) (blkOk_by (own := [("one", 2), ("other", 3)]) (N := N_is_lot_of) (sc := defScope st_is_lot_of) (by decide +kernel)) (fun _ _ _ _ _ _ => (xg_tup2 rfl rfl sc_is_lot_of.nd)) (fun _ _ _ _ _ _ => xs_nil) (fun _ _ _ _ _ _ => (x_cmp op_lt od_lt (x_var 2) (x_var 3) (nomark _)))) xa_nil)))))
theorem D_is_lot_of (T : Txt P w K mg base C) : Df P w K mg base 3 "is_lot_of" [] (spS (gx K C) g_is_lot_of) :=
  df_of (G := gx K C) T.fn_is_lot_of sc_is_lot_of (fun _ _ _ _ _ _ us hl => match us, hl with | [_, _], _ => rfl) (B_is_lot_of T) gRun_len (fun ds π h => gRun_sem h)
abbrev N_are_chances : List Str := ["value", "many", "each"]
theorem sc_are_chances : FnScope N_are_chances ["value", "many"] (defScope st_are_chances) := ⟨rfl, rfl, rfl, by decide +kernel, rfl, by decide +kernel, by decide +kernel⟩
noncomputable def fs_are_chances : SS := (sSeq (sIf (tOr (tNot (tB (eCall g_is_tuple_of (aCons (eV 0) (aCons (eV 1) aNil))))) (tNot (tB (eFn fAll (aCons (eLc (iS (eV 0)) [2] (gN 2) tYesD (eAnd (eCall g_is_fraction (aCons (eV 2) aNil)) (eOp dGt (eOp dIx (eV 2) (eC (.int 0))) (eC (.int 0))))) aNil))))) (sRet (eC (.bl false))) sNil)
    (sRet (eOp dEq (eCall g_sum_of (aCons (eV 0) aNil)) (eC d_ONE))))
noncomputable def g_are_chances : List D → Store → Res (D × Store) := gRun fs_are_chances 2 3
theorem B_are_chances (T : Txt P w K mg base C) : Body P w K mg base N_are_chances "are_chances" (defScope st_are_chances) (gx K C) 3 (defBody st_are_chances) fs_are_chances := fun f cdv A outer s H E M ι π hr => (ss_cons (s_if (xt_w (xw_or (xt_not (xt_val (x_call_ (D_is_tuple_of T) (hr.mono (by decide)) passD (xa_cons (x_var 0) (xa_cons (x_var 1) xa_nil))))) (xw_or1 (xt_not (xt_val (x_callB (cr_all rfl) fd_all nx_all T.b_all (by decide +kernel) (xa_cons (x_lc (own := [("each", 2)]) rfl sc_are_chances.nd (xi_seq rfl (x_var 0)) (blkOk_by (own := [("each", 2)]) (N := N_are_chances) (sc := defScope st_are_chances) (by decide +kernel)) (fun _ _ _ _ _ _ => (xg_name sc_are_chances.nd)) (fun _ _ _ _ _ _ => xs_nil) (fun _ _ _ _ _ _ => (x_and (x_call_ (D_is_fraction T) (hr.mono (by decide)) passL (xa_cons (x_var 2) xa_nil)) (x_one (x_cmp op_gt od_gt (x_ix ix_seq od_ix (x_var 2) x_int) x_int (nomark _)))))) xa_nil))))))) (ss_one (s_ret x_bl)) ss_nil)
      (ss_one (s_ret (x_cmp (op_eqB hr.units) od_eq (x_call_ (D_sum_of T) (hr.mono (by decide)) passD (xa_cons (x_var 0) xa_nil)) (x_cst T.c_ONE) (nomark _)))))
theorem D_are_chances (T : Txt P w K mg base C) : Df P w K mg base 4 "are_chances" [] (spS (gx K C) g_are_chances) :=
  df_of (G := gx K C) T.fn_are_chances sc_are_chances (fun _ _ _ _ _ _ us hl => match us, hl with | [_, _], _ => rfl) (B_are_chances T) gRun_len (fun ds π h => gRun_sem h)
abbrev N_is_part : List Str := ["cases", "value"]
theorem sc_is_part : FnScope N_is_part ["cases", "value"] (defScope st_is_part) := ⟨rfl, rfl, rfl, by decide +kernel, rfl, by decide +kernel, by decide +kernel⟩
noncomputable def fs_is_part : SS := (sSeq (sIf (tOr (tNot (tB (eCall g_is_tuple_of (aCons (eV 1) (aCons (eC (.int 2)) aNil))))) (tOr (tNot (tB (eCall g_is_lot_of (aCons (eV 0) (aCons (eOp dIx (eV 1) (eC (.int 0))) aNil))))) (tB (eOp dEq (eOp dIx (eV 1) (eC (.int 0))) (eFn fTup aNil))))) (sRet (eC (.bl false))) sNil)
    (sRet (eCall g_are_chances (aCons (eOp dIx (eV 1) (eC (.int 1))) (aCons (eFn fLen (aCons (eOp dIx (eV 1) (eC (.int 0))) aNil)) aNil)))))
noncomputable def g_is_part : List D → Store → Res (D × Store) := gRun fs_is_part 2 2
theorem B_is_part (T : Txt P w K mg base C) : Body P w K mg base N_is_part "is_part" (defScope st_is_part) (gx K C) 4 (defBody st_is_part) fs_is_part := fun f cdv A outer s H E M ι π hr => (ss_cons (s_if (xt_w (xw_or (xt_not (xt_val (x_call_ (D_is_tuple_of T) (hr.mono (by decide)) passD (xa_cons (x_var 1) (xa_cons x_int xa_nil))))) (xw_or (xt_not (xt_val (x_call_ (D_is_lot_of T) (hr.mono (by decide)) passD (xa_cons (x_var 0) (xa_cons (x_ix ix_seq od_ix (x_var 1) x_int) xa_nil))))) (xw_or1 (xt_cmp (op_eqB hr.units) od_eq (x_ix ix_seq od_ix (x_var 1) x_int) (x_tup xa_nil) (nomark _)))))) (ss_one (s_ret x_bl)) ss_nil)
      (ss_one (s_ret (x_call_ (D_are_chances T) (hr.mono (by decide)) passD (xa_cons (x_ix ix_seq od_ix (x_var 1) x_int) (xa_cons (x_callB call_len fd_len nx_len T.b_len (by decide +kernel) (xa_cons (x_ix ix_seq od_ix (x_var 1) x_int) xa_nil)) xa_nil))))))
theorem D_is_part (T : Txt P w K mg base C) : Df P w K mg base 5 "is_part" [] (spS (gx K C) g_is_part) :=
  df_of (G := gx K C) T.fn_is_part sc_is_part (fun _ _ _ _ _ _ us hl => match us, hl with | [_, _], _ => rfl) (B_is_part T) gRun_len (fun ds π h => gRun_sem h)
abbrev N_is_telling : List Str := ["cases", "value", "firsts", "every", "part", "case"]
theorem sc_is_telling : FnScope N_is_telling ["cases", "value"] (defScope st_is_telling) := ⟨rfl, rfl, rfl, by decide +kernel, rfl, by decide +kernel, by decide +kernel⟩
noncomputable def fs_is_telling : SS := (sSeq (sIf (tOr (tNot (tB (eUn (dIs "tuple") (eV 1)))) (tNot (tB (eFn fAll (aCons (eLc (iS (eV 1)) [4] (gN 4) tYesD (eCall g_is_part (aCons (eV 0) (aCons (eV 4) aNil)))) aNil))))) (sRet (eC (.bl false))) sNil)
    (sSeq (sPar 2 3 (aCons (eLc (iS (eV 1)) [4] (gN 4) tYesD (eOp dIx (eOp dIx (eV 4) (eC (.int 0))) (eC (.int 0)))) (aCons (eLc2 (iS (eV 1)) [4, 5] [5] (gN 4) tYesD (iS (eOp dIx (eV 4) (eC (.int 0)))) (gN 5) tYesD (eV 5)) aNil)))
    (sRet (eAnd (eOp dEq (eV 2) (eFn fSorted (aCons (eV 2) aNil))) (eOp dEq (eFn fSorted (aCons (eV 3) aNil)) (eFn fListRg (aCons (eV 0) aNil)))))))
noncomputable def g_is_telling : List D → Store → Res (D × Store) := gRun fs_is_telling 2 6
theorem B_is_telling (T : Txt P w K mg base C) : Body P w K mg base N_is_telling "is_telling" (defScope st_is_telling) (gx K C) 5 (defBody st_is_telling) fs_is_telling := fun f cdv A outer s H E M ι π hr => (ss_cons (s_if (xt_w (xw_or (xt_not (xt_val (x_is T.b_isinstance T.b_tuple (by decide +kernel) (x_var 1)))) (xw_or1 (xt_not (xt_val (x_callB (cr_all rfl) fd_all nx_all T.b_all (by decide +kernel) (xa_cons (x_lc (own := [("part", 4)]) rfl sc_is_telling.nd (xi_seq rfl (x_var 1)) (blkOk_by (own := [("part", 4)]) (N := N_is_telling) (sc := defScope st_is_telling) (by decide +kernel)) (fun _ _ _ _ _ _ => (xg_name sc_is_telling.nd)) (fun _ _ _ _ _ _ => xs_nil) (fun _ _ _ _ _ _ => (x_call_ (D_is_part T) (hr.mono (by decide)) passL (xa_cons (x_var 0) (xa_cons (x_var 4) xa_nil))))) xa_nil))))))) (ss_one (s_ret x_bl)) ss_nil)
      (ss_cons (s_par (i := 2) (j := 3) rfl sc_is_telling.nd (xa_cons (x_lc (own := [("part", 4)]) rfl sc_is_telling.nd (xi_seq rfl (x_var 1)) (blkOk_by (own := [("part", 4)]) (N := N_is_telling) (sc := defScope st_is_telling) (by decide +kernel)) (fun _ _ _ _ _ _ => (xg_name sc_is_telling.nd)) (fun _ _ _ _ _ _ => xs_nil) (fun _ _ _ _ _ _ => (x_ix ix_seq od_ix (x_ix ix_seq od_ix (x_var 4) x_int) x_int))) (xa_cons (x_lc2 (own := [("part", 4), ("case", 5)]) (vs1 := [5]) rfl sc_is_telling.nd (xi_seq rfl (x_var 1)) (blkOk_by (own := [("part", 4), ("case", 5)]) (N := N_is_telling) (sc := defScope st_is_telling) (by decide +kernel)) (fun _ _ _ _ _ _ => (xg_name sc_is_telling.nd)) (fun _ _ _ _ _ _ => xs_nil) (fun _ _ _ _ _ _ => (x_var 5)) (fun _ _ _ _ _ _ => (xi_seq rfl (x_ix ix_seq od_ix (x_var 4) x_int))) (fun _ _ _ _ _ _ => (xg_name sc_is_telling.nd)) (fun _ _ _ _ _ _ => xs_nil)) xa_nil)))
      (ss_one (s_ret (x_and (x_cmp (op_eqB hr.units) od_eq (x_var 2) (x_callB cr_sorted fd_sorted nx_sorted T.b_sorted (by decide +kernel) (xa_cons (x_var 2) xa_nil)) (nomark _)) (x_one (x_cmp (op_eqB hr.units) od_eq (x_callB cr_sorted fd_sorted nx_sorted T.b_sorted (by decide +kernel) (xa_cons (x_var 3) xa_nil)) (x_listRg T.b_list T.b_range (x_var 0)) (nomark _))))))))
theorem D_is_telling (T : Txt P w K mg base C) : Df P w K mg base 6 "is_telling" [] (spS (gx K C) g_is_telling) :=
  df_of (G := gx K C) T.fn_is_telling sc_is_telling (fun _ _ _ _ _ _ us hl => match us, hl with | [_, _], _ => rfl) (B_is_telling T) gRun_len (fun ds π h => gRun_sem h)
abbrev N_first_wrong : List Str := ["value", "is_right", "index", "each"]
theorem sc_first_wrong : FnScope N_first_wrong ["value", "is_right"] (defScope st_first_wrong) := ⟨rfl, rfl, rfl, by decide +kernel, rfl, by decide +kernel, by decide +kernel⟩
def fb_first_wrong (f : Addr) (m : List D → Store → Res (D × Store)) : SS := sIf (tNot (tB (eLamv f 1 2 m (aCons (eV 3) (aCons (eSl (eV 0) oNone (oSome (eV 2))) aNil))))) (sRet (eV 2)) sNil
def fs_first_wrong (f : Addr) (m : List D → Store → Res (D × Store)) : SS := (sSeq (sFor (iR fEnum (aCons (eV 0) aNil)) (gT2 2 3) (fb_first_wrong f m)) (sRet (eC .non)))
noncomputable def fb_telling : SE := (eCall g_is_telling (aCons (eV 2) (aCons (eV 0) aNil)))
noncomputable def gw_telling (wds : List D) (d : D) (π : Store) : Res (D × Store) := sRun (fs_first_wrong 0 (lamRun fb_telling 3 wds)) 4 [d, .fn 0] π
/-- one turn, wherever the lambda stands -/
def turn_fw (m : List D → Store → Res (D × Store)) (d i e : D) (π : Store) : Res (Bool × Store) := (tNot (tB (fun ρ π => ((aCons (eV 3) (aCons (eSl (eV 0) oNone (oSome (eV 2))) aNil)) ρ π).bind fun x => if x.1.length = 2 then noX (m x.1 x.2) else .fail))) [some d, none, some i, some e] π
theorem turn_fw_eq (f : Addr) (m : List D → Store → Res (D × Store)) (d i e : D) (π : Store) : fb_first_wrong f m [some d, some (.fn f), some i, some e] π = (turn_fw m d i e π).bind fun b => if b.1 = true then .ok (.rt i b.2) else .ok (.nx [some d, some (.fn f), some i, some e] b.2) := by
  unfold fb_first_wrong turn_fw sIf tNot tB eLamv
  simp only [gt, Res.bind_ok, if_true, aCons, eV, eSl, oNone, oSome, aNil, sRet, sNil]
theorem loop_fw (f : Addr) (m : List D → Store → Res (D × Store)) (d : D) : ∀ (l : List D) (n : Nat) (x y : Option D) (π : Store), (sLoop (gT2 2 3) (fb_first_wrong f m) (enumD n l) [some d, some (.fn f), x, y] π).bind (fun fl => match fl with | .nx _ π => Res.ok (D.non, π) | .rt d π => .ok (d, π) | _ => .fail) =
    (sLoop (gT2 2 3) (fb_first_wrong 0 m) (enumD n l) [some d, some (.fn 0), x, y] π).bind (fun fl => match fl with | .nx _ π => Res.ok (D.non, π) | .rt d π => .ok (d, π) | _ => .fail)
  | [], n, x, y, π => rfl
  | e :: l, n, x, y, π => by
    have s1 : ∀ f : Addr, sLoop (gT2 2 3) (fb_first_wrong f m) (enumD n (e :: l)) [some d, some (.fn f), x, y] π = (fb_first_wrong f m [some d, some (.fn f), some (.int n), some e] π).bind fun fl => match fl with
      | .nx ρ2 π2 => sLoop (gT2 2 3) (fb_first_wrong f m) (enumD (n + 1) l) ρ2 π2
      | .ct ρ2 π2 => sLoop (gT2 2 3) (fb_first_wrong f m) (enumD (n + 1) l) ρ2 π2
      | .bk ρ2 π2 => .ok (.nx ρ2 π2)
      | .rt r π2 => .ok (.rt r π2) := fun f => rfl
    rw [s1 f, s1 0, turn_fw_eq, turn_fw_eq]
    cases turn_fw m d (.int n) e π with
    | fail => rfl
    | xc c d π' => rfl
    | ok b =>
      simp only [Res.bind_ok]
      by_cases hb : b.1 = true
      · rw [if_pos hb, if_pos hb]; rfl
      · rw [if_neg hb, if_neg hb]
        simp only [Res.bind_ok]
        exact loop_fw f m d l (n + 1) (some (.int n)) (some e) b.2
theorem run_fw (f : Addr) (m : List D → Store → Res (D × Store)) (d : D) (π : Store) : sRun (fs_first_wrong f m) 4 [d, .fn f] π = match d with
    | .tup l => (sLoop (gT2 2 3) (fb_first_wrong f m) (enumD 0 l) [some d, some (.fn f), none, none] π).bind (fun fl => match fl with | .nx _ π => Res.ok (D.non, π) | .rt d π => .ok (d, π) | _ => .fail)
    | _ => .fail := by
  cases d with
  | tup l =>
    show ((sLoop (gT2 2 3) (fb_first_wrong f m) (enumD 0 l) [some (.tup l), some (.fn f), none, none] π).bind _).bind sEnd = (sLoop (gT2 2 3) (fb_first_wrong f m) (enumD 0 l) [some (.tup l), some (.fn f), none, none] π).bind _
    generalize sLoop (gT2 2 3) (fb_first_wrong f m) (enumD 0 l) [some (.tup l), some (.fn f), none, none] π = r
    cases r with
    | fail => rfl
    | xc c d π' => rfl
    | ok fl => cases fl <;> rfl
  | _ => rfl
theorem sem_fw (wds : List D) (d : D) (π : Store) (f : Addr) : sRun (fs_first_wrong f (lamRun fb_telling 3 wds)) 4 [d, .fn f] π = gw_telling wds d π := by
  unfold gw_telling
  rw [run_fw, run_fw]
  cases d with
  | tup l => exact loop_fw f _ (.tup l) l 0 none none π
  | _ => rfl
abbrev N_wrong_telling : List Str := ["cases", "value"]
theorem sc_wrong_telling : FnScope N_wrong_telling ["cases", "value"] (defScope st_wrong_telling) := ⟨rfl, rfl, rfl, by decide +kernel, rfl, by decide +kernel, by decide +kernel⟩
def q_telling : Str := (envOfC "wrong_telling" (defScope st_wrong_telling) 0 0 .none).qual ++ "<lambda>"
noncomputable def fs_wrong_telling : SS := sRet (eCallLam 0 q_telling [0] gw_telling (eV 1))
noncomputable def g_wrong_telling : List D → Store → Res (D × Store) := gRun fs_wrong_telling 2 2
theorem D_wrong_telling (T : Txt P w K mg base C) : Df P w K mg base 10 "wrong_telling" [] (spS (gx K C) g_wrong_telling) := by
  obtain ⟨g, fd, Fn, hm⟩ := T.fn_first_wrong
  refine df_ofC (G := gx K C) (fs := fs_wrong_telling) (c := C 150) T.fc_wrong_telling sc_wrong_telling (fun _ _ _ _ _ _ us hl => match us, hl with | [_, _], _ => rfl) (fun f A outer s H E M ι π hr => ?_) gRun_len fun ds π h => gRun_sem h
  exact (ss_one (s_ret (x_callLam (n := 0) (k := 8) (NL := ["telling", "ahead", "cases"]) (ps := ["telling", "ahead"]) (fr := ["cases"]) (js := [0]) (fsw := fun f wds => fs_first_wrong f (lamRun fb_telling 3 wds)) (gW := gw_telling) (fb := fb_telling) Fn hm sc_first_wrong rfl (fun _ _ _ _ _ _ us hl => match us, hl with | [_, _], _ => rfl)
    T.tb_wrong_telling rfl (x_var 1) hr (NdefX.nscope_by (by decide +kernel)) (by show ∀ y : Str × NameKind, y ∈ _ → y.2 = _ → List.lookup y.1 (defScope st_wrong_telling).names = _ ∨ List.lookup y.1 (defScope st_wrong_telling).names = _; decide +kernel) (by decide +kernel) rfl rfl (fun _ _ _ _ _ us hl => match us, hl with | [_, _], _ => rfl)
    (by
      intro kk L f A outer s H M Hx ι π hkk hL hr
      obtain ⟨nm, ql, pr, bd, sc, cl, c⟩ := L
      cases hL
      exact (x_call_ (D_is_telling T) (hr.mono (by omega)) passL (xa_cons (x_var 2) (xa_cons (x_var 0) xa_nil))))
    (by
      intro kk cdv A outer s H M ι π f wds hkk hr Lm
      exact (ss_cons (s_for ownD rfl (xi_enum T.b_enumerate (xa_cons (x_var 0) xa_nil)) (xg_tup2 rfl rfl sc_first_wrong.nd) (ss_one (s_if (xt_not (xt_val (x_lamv Lm (hr.mono (by omega)) (xa_cons (x_var 3) (xa_cons (x_slice (x_var 0) xo_none (xo_some (x_var 2))) xa_nil))))) (ss_one (s_ret (x_var 2))) ss_nil)))
        (ss_one (s_ret x_non))))
    (fun wds d π f _ => sem_fw wds d π f) ⟨6, rfl⟩)))
abbrev N_check_tellings : List Str := ["cases", "tellings", "wrong"]
theorem sc_check_tellings : FnScope N_check_tellings ["cases", "tellings"] (defScope st_check_tellings) := ⟨rfl, rfl, rfl, by decide +kernel, rfl, by decide +kernel, by decide +kernel⟩
noncomputable def fs_check_tellings : SS := (sSeq (sIf (tNot (tB (eCall g_is_row (aCons (eV 1) (aCons (eC (.int 1)) (aCons (eC d_MOST_PERSONS) aNil)))))) (sRaise 5 (eC .non)) sNil)
    (sSeq (sSet 2 (eCall g_wrong_telling (aCons (eV 0) (aCons (eV 1) aNil))))
    (sIf (tB (eOp dNotN (eV 2) (eC .non))) (sRaise 5 (eV 2)) sNil)))
noncomputable def g_check_tellings : List D → Store → Res (D × Store) := gRun fs_check_tellings 2 3
theorem B_check_tellings (T : Txt P w K mg base C) : Body P w K mg base N_check_tellings "check_tellings" (defScope st_check_tellings) (gx K C) 10 (defBody st_check_tellings) fs_check_tellings := fun f cdv A outer s H E M ι π hr => (ss_cons (s_if (xt_not (xt_val (x_call_ (D_is_row T) (hr.mono (by decide)) passD (xa_cons (x_var 1) (xa_cons x_int (xa_cons (x_cst T.c_MOST_PERSONS) xa_nil)))))) (ss_one (s_raise rfl takD T.X_InvalidTellings (hr.mono (by decide)) x_non)) ss_nil)
      (ss_cons (s_set (i := 2) sc_check_tellings.nd (x_call_ (D_wrong_telling T) (hr.mono (by decide)) passD (xa_cons (x_var 0) (xa_cons (x_var 1) xa_nil))))
      (ss_one (s_if (xt_cmp op_notN od_notN (x_var 2) x_non (nomark _)) (ss_one (s_raise rfl takD T.X_InvalidTellings (hr.mono (by decide)) (x_var 2))) ss_nil))))
theorem D_check_tellings (T : Txt P w K mg base C) : Df P w K mg base 11 "check_tellings" [] (spS (gx K C) g_check_tellings) :=
  df_of (G := gx K C) T.fn_check_tellings sc_check_tellings (fun _ _ _ _ _ _ us hl => match us, hl with | [_, _], _ => rfl) (B_check_tellings T) gRun_len (fun ds π h => gRun_sem h)
abbrev N_Hall___init__ : List Str := ["self", "cases", "tellings"]
theorem sc_Hall___init__ : FnScope N_Hall___init__ ["self", "cases", "tellings"] (defScope st_Hall___init__) := ⟨rfl, rfl, rfl, by decide +kernel, rfl, by decide +kernel, by decide +kernel⟩
noncomputable def fs_Hall___init__ : SS := (sSeq (sIf (tNot (tB (eCall g_is_cases (aCons (eV 1) aNil)))) (sRaise 2 (eV 1)) sNil)
    (sSeq (sExpr (eCall g_check_tellings (aCons (eV 1) (aCons (eV 2) aNil))))
    (sSeq (sFldSet 0 0 (eV 0) (eV 1))
    (sFldSet 0 1 (eV 0) (eV 2)))))
noncomputable def g_Hall___init__ : List D → Store → Res (D × Store) := gRun fs_Hall___init__ 3 3
theorem B_Hall___init__ (T : Txt P w K mg base C) : Body P w K mg base N_Hall___init__ "Hall.__init__" (defScope st_Hall___init__) (gx K C) 11 (defBody st_Hall___init__) fs_Hall___init__ := fun f cdv A outer s H E M ι π hr => (ss_cons (s_if (xt_not (xt_val (x_call_ (D_is_cases T) (hr.mono (by decide)) passD (xa_cons (x_var 1) xa_nil)))) (ss_one (s_raise rfl takD T.X_InvalidNumber (hr.mono (by decide)) (x_var 1))) ss_nil)
      (ss_cons (s_expr (x_call_ (D_check_tellings T) (hr.mono (by decide)) passD (xa_cons (x_var 1) (xa_cons (x_var 2) xa_nil))))
      (ss_cons (s_fldSet T.f_0_0 (flLen 0) (x_var 0) (x_var 1))
      (ss_one (s_fldSet T.f_0_1 (flLen 0) (x_var 0) (x_var 2))))))
theorem F_Hall___init__ (T : Txt P w K mg base C) {f : Addr} {fd : FuncData} (F : Fun K "__init__" "Hall.__init__" st_Hall___init__ f fd) : FnOk P w K mg base (L2.CX P w) 12 f fd ["self", "cases", "tellings"] (spS (gx K C) g_Hall___init__) ∧ Binds K fd ["self", "cases", "tellings"] [] :=
  ⟨fn_of_body F sc_Hall___init__ (B_Hall___init__ T) gRun_len (fun ds π h => gRun_sem h), F.binds fun _ _ _ _ _ _ us hl => match us, hl with | [_, _, _], _ => rfl⟩
theorem Mk_Hall (T : Txt P w K mg base C) : ClC P w (gx K C) mg base 12 "Hall" 0 (spS (gx K C) g_Hall___init__) := by
  obtain ⟨f, fd, F, hm, M⟩ := T.mk_Hall
  exact ⟨f, fd, ["self", "cases", "tellings"], hm, M, (F_Hall___init__ T F).1, (F_Hall___init__ T F).2⟩
abbrev N_parts_of : List Str := ["hall"]
theorem sc_parts_of : FnScope N_parts_of ["hall"] (defScope st_parts_of) := ⟨rfl, rfl, rfl, by decide +kernel, rfl, by decide +kernel, by decide +kernel⟩
noncomputable def fs_parts_of : SS := (sRet (eFn fTup (aCons (eUnS (dFld 0 0) (eV 0)) (aCons (eUnS (dFld 0 1) (eV 0)) aNil))))
noncomputable def g_parts_of : List D → Store → Res (D × Store) := gRun fs_parts_of 1 1
theorem B_parts_of (T : Txt P w K mg base C) : Body P w K mg base N_parts_of "parts_of" (defScope st_parts_of) (gx K C) 0 (defBody st_parts_of) fs_parts_of := fun f cdv A outer s H E M ι π hr => (ss_one (s_ret (x_tup (xa_cons (x_fld T.f_0_0 (x_var 0)) (xa_cons (x_fld T.f_0_1 (x_var 0)) xa_nil)))))
theorem D_parts_of (T : Txt P w K mg base C) : Df P w K mg base 1 "parts_of" [] (spS (gx K C) g_parts_of) :=
  df_of (G := gx K C) T.fn_parts_of sc_parts_of (fun _ _ _ _ _ _ us hl => match us, hl with | [_], _ => rfl) (B_parts_of T) gRun_len (fun ds π h => gRun_sem h)
abbrev N_check_hall : List Str := ["value"]
theorem sc_check_hall : FnScope N_check_hall ["value"] (defScope st_check_hall) := ⟨rfl, rfl, rfl, by decide +kernel, rfl, by decide +kernel, by decide +kernel⟩
noncomputable def fs_check_hall : SS := (sIf (tNot (tB (eUnS (dIsC 0 [1]) (eV 0)))) (sRaise 4 (eV 0)) sNil)
noncomputable def g_check_hall : List D → Store → Res (D × Store) := gRun fs_check_hall 1 1
theorem B_check_hall (T : Txt P w K mg base C) : Body P w K mg base N_check_hall "check_hall" (defScope st_check_hall) (gx K C) 2 (defBody st_check_hall) fs_check_hall := fun f cdv A outer s H E M ι π hr => (ss_one (s_if (xt_not (xt_val (x_isC T.is_Hall T.b_isinstance T.m_Hall (x_var 0)))) (ss_one (s_raise rfl takD T.X_NotAHall (hr.mono (by decide)) (x_var 0))) ss_nil))
theorem D_check_hall (T : Txt P w K mg base C) : Df P w K mg base 3 "check_hall" [] (spS (gx K C) g_check_hall) :=
  df_of (G := gx K C) T.fn_check_hall sc_check_hall (fun _ _ _ _ _ _ us hl => match us, hl with | [_], _ => rfl) (B_check_hall T) gRun_len (fun ds π h => gRun_sem h)
abbrev N_cases_of : List Str := ["hall", "case"]
theorem sc_cases_of : FnScope N_cases_of ["hall"] (defScope st_cases_of) := ⟨rfl, rfl, rfl, by decide +kernel, rfl, by decide +kernel, by decide +kernel⟩
noncomputable def fs_cases_of : SS := (sRet (eFn fTuple (aCons (eLc (iR rng1 (aCons (eUnS (dFld 0 0) (eV 0)) aNil)) [1] (gN 1) tYesD (eV 1)) aNil)))
noncomputable def g_cases_of : List D → Store → Res (D × Store) := gRun fs_cases_of 1 2
theorem B_cases_of (T : Txt P w K mg base C) : Body P w K mg base N_cases_of "cases_of" (defScope st_cases_of) (gx K C) 0 (defBody st_cases_of) fs_cases_of := fun f cdv A outer s H E M ι π hr => (ss_one (s_ret (x_callT call_tupleF fd_tuple nx_tuple T.b_tuple (by decide +kernel) (xa_cons (x_lc (own := [("case", 1)]) rfl sc_cases_of.nd (xi_range1 T.b_range (xa_cons (x_fld T.f_0_0 (x_var 0)) xa_nil)) (blkOk_by (own := [("case", 1)]) (N := N_cases_of) (sc := defScope st_cases_of) (by decide +kernel)) (fun _ _ _ _ _ _ => (xg_name sc_cases_of.nd)) (fun _ _ _ _ _ _ => xs_nil) (fun _ _ _ _ _ _ => (x_var 1))) xa_nil))))
theorem D_cases_of (T : Txt P w K mg base C) : Df P w K mg base 1 "cases_of" [] (spS (gx K C) g_cases_of) :=
  df_of (G := gx K C) T.fn_cases_of sc_cases_of (fun _ _ _ _ _ _ us hl => match us, hl with | [_], _ => rfl) (B_cases_of T) gRun_len (fun ds π h => gRun_sem h)
abbrev N_persons_of : List Str := ["hall", "person"]
theorem sc_persons_of : FnScope N_persons_of ["hall"] (defScope st_persons_of) := ⟨rfl, rfl, rfl, by decide +kernel, rfl, by decide +kernel, by decide +kernel⟩
noncomputable def fs_persons_of : SS := (sRet (eFn fTuple (aCons (eLc (iR rng1 (aCons (eFn fLen (aCons (eUnS (dFld 0 1) (eV 0)) aNil)) aNil)) [1] (gN 1) tYesD (eV 1)) aNil)))
noncomputable def g_persons_of : List D → Store → Res (D × Store) := gRun fs_persons_of 1 2
theorem B_persons_of (T : Txt P w K mg base C) : Body P w K mg base N_persons_of "persons_of" (defScope st_persons_of) (gx K C) 0 (defBody st_persons_of) fs_persons_of := fun f cdv A outer s H E M ι π hr => (ss_one (s_ret (x_callT call_tupleF fd_tuple nx_tuple T.b_tuple (by decide +kernel) (xa_cons (x_lc (own := [("person", 1)]) rfl sc_persons_of.nd (xi_range1 T.b_range (xa_cons (x_callB call_len fd_len nx_len T.b_len (by decide +kernel) (xa_cons (x_fld T.f_0_1 (x_var 0)) xa_nil)) xa_nil)) (blkOk_by (own := [("person", 1)]) (N := N_persons_of) (sc := defScope st_persons_of) (by decide +kernel)) (fun _ _ _ _ _ _ => (xg_name sc_persons_of.nd)) (fun _ _ _ _ _ _ => xs_nil) (fun _ _ _ _ _ _ => (x_var 1))) xa_nil))))
theorem D_persons_of (T : Txt P w K mg base C) : Df P w K mg base 1 "persons_of" [] (spS (gx K C) g_persons_of) :=
  df_of (G := gx K C) T.fn_persons_of sc_persons_of (fun _ _ _ _ _ _ us hl => match us, hl with | [_], _ => rfl) (B_persons_of T) gRun_len (fun ds π h => gRun_sem h)
abbrev N_is_case : List Str := ["hall", "value"]
theorem sc_is_case : FnScope N_is_case ["hall", "value"] (defScope st_is_case) := ⟨rfl, rfl, rfl, by decide +kernel, rfl, by decide +kernel, by decide +kernel⟩
noncomputable def fs_is_case : SS := (sRet (eCall g_is_between (aCons (eV 1) (aCons (eC (.int 0)) (aCons (eOp dSub (eUnS (dFld 0 0) (eV 0)) (eC (.int 1))) aNil)))))
noncomputable def g_is_case : List D → Store → Res (D × Store) := gRun fs_is_case 2 2
theorem B_is_case (T : Txt P w K mg base C) : Body P w K mg base N_is_case "is_case" (defScope st_is_case) (gx K C) 2 (defBody st_is_case) fs_is_case := fun f cdv A outer s H E M ι π hr => (ss_one (s_ret (x_call_ (D_is_between T) (hr.mono (by decide)) passD (xa_cons (x_var 1) (xa_cons x_int (xa_cons (x_op op_sub od_sub (x_fld T.f_0_0 (x_var 0)) x_int) xa_nil))))))
theorem D_is_case (T : Txt P w K mg base C) : Df P w K mg base 3 "is_case" [] (spS (gx K C) g_is_case) :=
  df_of (G := gx K C) T.fn_is_case sc_is_case (fun _ _ _ _ _ _ us hl => match us, hl with | [_, _], _ => rfl) (B_is_case T) gRun_len (fun ds π h => gRun_sem h)
abbrev N_check_case : List Str := ["hall", "value"]
theorem sc_check_case : FnScope N_check_case ["hall", "value"] (defScope st_check_case) := ⟨rfl, rfl, rfl, by decide +kernel, rfl, by decide +kernel, by decide +kernel⟩
noncomputable def fs_check_case : SS := (sIf (tNot (tB (eCall g_is_case (aCons (eV 0) (aCons (eV 1) aNil))))) (sRaise 2 (eV 1)) sNil)
noncomputable def g_check_case : List D → Store → Res (D × Store) := gRun fs_check_case 2 2
theorem B_check_case (T : Txt P w K mg base C) : Body P w K mg base N_check_case "check_case" (defScope st_check_case) (gx K C) 3 (defBody st_check_case) fs_check_case := fun f cdv A outer s H E M ι π hr => (ss_one (s_if (xt_not (xt_val (x_call_ (D_is_case T) (hr.mono (by decide)) passD (xa_cons (x_var 0) (xa_cons (x_var 1) xa_nil))))) (ss_one (s_raise rfl takD T.X_InvalidNumber (hr.mono (by decide)) (x_var 1))) ss_nil))
theorem D_check_case (T : Txt P w K mg base C) : Df P w K mg base 4 "check_case" [] (spS (gx K C) g_check_case) :=
  df_of (G := gx K C) T.fn_check_case sc_check_case (fun _ _ _ _ _ _ us hl => match us, hl with | [_, _], _ => rfl) (B_check_case T) gRun_len (fun ds π h => gRun_sem h)
abbrev N_is_person : List Str := ["hall", "value"]
theorem sc_is_person : FnScope N_is_person ["hall", "value"] (defScope st_is_person) := ⟨rfl, rfl, rfl, by decide +kernel, rfl, by decide +kernel, by decide +kernel⟩
noncomputable def fs_is_person : SS := (sRet (eCall g_is_between (aCons (eV 1) (aCons (eC (.int 0)) (aCons (eOp dSub (eFn fLen (aCons (eUnS (dFld 0 1) (eV 0)) aNil)) (eC (.int 1))) aNil)))))
noncomputable def g_is_person : List D → Store → Res (D × Store) := gRun fs_is_person 2 2
theorem B_is_person (T : Txt P w K mg base C) : Body P w K mg base N_is_person "is_person" (defScope st_is_person) (gx K C) 2 (defBody st_is_person) fs_is_person := fun f cdv A outer s H E M ι π hr => (ss_one (s_ret (x_call_ (D_is_between T) (hr.mono (by decide)) passD (xa_cons (x_var 1) (xa_cons x_int (xa_cons (x_op op_sub od_sub (x_callB call_len fd_len nx_len T.b_len (by decide +kernel) (xa_cons (x_fld T.f_0_1 (x_var 0)) xa_nil)) x_int) xa_nil))))))
theorem D_is_person (T : Txt P w K mg base C) : Df P w K mg base 3 "is_person" [] (spS (gx K C) g_is_person) :=
  df_of (G := gx K C) T.fn_is_person sc_is_person (fun _ _ _ _ _ _ us hl => match us, hl with | [_, _], _ => rfl) (B_is_person T) gRun_len (fun ds π h => gRun_sem h)
abbrev N_check_person : List Str := ["hall", "value"]
theorem sc_check_person : FnScope N_check_person ["hall", "value"] (defScope st_check_person) := ⟨rfl, rfl, rfl, by decide +kernel, rfl, by decide +kernel, by decide +kernel⟩
noncomputable def fs_check_person : SS := (sIf (tNot (tB (eCall g_is_person (aCons (eV 0) (aCons (eV 1) aNil))))) (sRaise 2 (eV 1)) sNil)
noncomputable def g_check_person : List D → Store → Res (D × Store) := gRun fs_check_person 2 2
theorem B_check_person (T : Txt P w K mg base C) : Body P w K mg base N_check_person "check_person" (defScope st_check_person) (gx K C) 3 (defBody st_check_person) fs_check_person := fun f cdv A outer s H E M ι π hr => (ss_one (s_if (xt_not (xt_val (x_call_ (D_is_person T) (hr.mono (by decide)) passD (xa_cons (x_var 0) (xa_cons (x_var 1) xa_nil))))) (ss_one (s_raise rfl takD T.X_InvalidNumber (hr.mono (by decide)) (x_var 1))) ss_nil))
theorem D_check_person (T : Txt P w K mg base C) : Df P w K mg base 4 "check_person" [] (spS (gx K C) g_check_person) :=
  df_of (G := gx K C) T.fn_check_person sc_check_person (fun _ _ _ _ _ _ us hl => match us, hl with | [_, _], _ => rfl) (B_check_person T) gRun_len (fun ds π h => gRun_sem h)
abbrev N_is_lot : List Str := ["hall", "value"]
theorem sc_is_lot : FnScope N_is_lot ["hall", "value"] (defScope st_is_lot) := ⟨rfl, rfl, rfl, by decide +kernel, rfl, by decide +kernel, by decide +kernel⟩
noncomputable def fs_is_lot : SS := (sRet (eCall g_is_lot_of (aCons (eUnS (dFld 0 0) (eV 0)) (aCons (eV 1) aNil))))
noncomputable def g_is_lot : List D → Store → Res (D × Store) := gRun fs_is_lot 2 2
theorem B_is_lot (T : Txt P w K mg base C) : Body P w K mg base N_is_lot "is_lot" (defScope st_is_lot) (gx K C) 3 (defBody st_is_lot) fs_is_lot := fun f cdv A outer s H E M ι π hr => (ss_one (s_ret (x_call_ (D_is_lot_of T) (hr.mono (by decide)) passD (xa_cons (x_fld T.f_0_0 (x_var 0)) (xa_cons (x_var 1) xa_nil)))))
theorem D_is_lot (T : Txt P w K mg base C) : Df P w K mg base 4 "is_lot" [] (spS (gx K C) g_is_lot) :=
  df_of (G := gx K C) T.fn_is_lot sc_is_lot (fun _ _ _ _ _ _ us hl => match us, hl with | [_, _], _ => rfl) (B_is_lot T) gRun_len (fun ds π h => gRun_sem h)
abbrev N_check_lot : List Str := ["hall", "value"]
theorem sc_check_lot : FnScope N_check_lot ["hall", "value"] (defScope st_check_lot) := ⟨rfl, rfl, rfl, by decide +kernel, rfl, by decide +kernel, by decide +kernel⟩
noncomputable def fs_check_lot : SS := (sIf (tNot (tB (eCall g_is_lot (aCons (eV 0) (aCons (eV 1) aNil))))) (sRaise 3 (eV 1)) sNil)
noncomputable def g_check_lot : List D → Store → Res (D × Store) := gRun fs_check_lot 2 2
theorem B_check_lot (T : Txt P w K mg base C) : Body P w K mg base N_check_lot "check_lot" (defScope st_check_lot) (gx K C) 4 (defBody st_check_lot) fs_check_lot := fun f cdv A outer s H E M ι π hr => (ss_one (s_if (xt_not (xt_val (x_call_ (D_is_lot T) (hr.mono (by decide)) passD (xa_cons (x_var 0) (xa_cons (x_var 1) xa_nil))))) (ss_one (s_raise rfl takD T.X_InvalidLot (hr.mono (by decide)) (x_var 1))) ss_nil))
theorem D_check_lot (T : Txt P w K mg base C) : Df P w K mg base 5 "check_lot" [] (spS (gx K C) g_check_lot) :=
  df_of (G := gx K C) T.fn_check_lot sc_check_lot (fun _ _ _ _ _ _ us hl => match us, hl with | [_, _], _ => rfl) (B_check_lot T) gRun_len (fun ds π h => gRun_sem h)
abbrev N_common_of : List Str := ["lot", "other", "case"]
theorem sc_common_of : FnScope N_common_of ["lot", "other"] (defScope st_common_of) := ⟨rfl, rfl, rfl, by decide +kernel, rfl, by decide +kernel, by decide +kernel⟩
noncomputable def fs_common_of : SS := (sRet (eFn fTuple (aCons (eLc (iS (eV 0)) [2] (gN 2) (tB (eOp (dIn false) (eV 2) (eV 1))) (eV 2)) aNil)))
noncomputable def g_common_of : List D → Store → Res (D × Store) := gRun fs_common_of 2 3
theorem B_common_of (T : Txt P w K mg base C) : Body P w K mg base N_common_of "common_of" (defScope st_common_of) (gx K C) 0 (defBody st_common_of) fs_common_of := fun f cdv A outer s H E M ι π hr => (ss_one (s_ret (x_callT call_tupleF fd_tuple nx_tuple T.b_tuple (by decide +kernel) (xa_cons (x_lc (own := [("case", 2)]) rfl sc_common_of.nd (xi_seq rfl (x_var 0)) (blkOk_by (own := [("case", 2)]) (N := N_common_of) (sc := defScope st_common_of) (by decide +kernel)) (fun _ _ _ _ _ _ => (xg_name sc_common_of.nd)) (fun _ _ _ _ _ _ => (xs_one (xt_cmp op_in_seq od_in (x_var 2) (x_var 1) (by rfl)))) (fun _ _ _ _ _ _ => (x_var 2))) xa_nil))))
theorem D_common_of (T : Txt P w K mg base C) : Df P w K mg base 1 "common_of" [] (spS (gx K C) g_common_of) :=
  df_of (G := gx K C) T.fn_common_of sc_common_of (fun _ _ _ _ _ _ us hl => match us, hl with | [_, _], _ => rfl) (B_common_of T) gRun_len (fun ds π h => gRun_sem h)
abbrev N_part_at : List Str := ["hall", "person", "case", "part"]
theorem sc_part_at : FnScope N_part_at ["hall", "person", "case"] (defScope st_part_at) := ⟨rfl, rfl, rfl, by decide +kernel, rfl, by decide +kernel, by decide +kernel⟩
noncomputable def fs_part_at : SS := (sRet (eOp dIx (eLc (iS (eOp dIx (eUnS (dFld 0 1) (eV 0)) (eV 1))) [3] (gN 3) (tB (eOp (dIn false) (eV 2) (eOp dIx (eV 3) (eC (.int 0))))) (eV 3)) (eC (.int 0))))
noncomputable def g_part_at : List D → Store → Res (D × Store) := gRun fs_part_at 3 4
theorem B_part_at (T : Txt P w K mg base C) : Body P w K mg base N_part_at "part_at" (defScope st_part_at) (gx K C) 0 (defBody st_part_at) fs_part_at := fun f cdv A outer s H E M ι π hr => (ss_one (s_ret (x_ix ix_seq od_ix (x_lc (own := [("part", 3)]) rfl sc_part_at.nd (xi_seq rfl (x_ix ix_seq od_ix (x_fld T.f_0_1 (x_var 0)) (x_var 1))) (blkOk_by (own := [("part", 3)]) (N := N_part_at) (sc := defScope st_part_at) (by decide +kernel)) (fun _ _ _ _ _ _ => (xg_name sc_part_at.nd)) (fun _ _ _ _ _ _ => (xs_one (xt_cmp op_in_seq od_in (x_var 2) (x_ix ix_seq od_ix (x_var 3) x_int) (by rfl)))) (fun _ _ _ _ _ _ => (x_var 3))) x_int)))
theorem D_part_at (T : Txt P w K mg base C) : Df P w K mg base 1 "part_at" [] (spS (gx K C) g_part_at) :=
  df_of (G := gx K C) T.fn_part_at sc_part_at (fun _ _ _ _ _ _ us hl => match us, hl with | [_, _, _], _ => rfl) (B_part_at T) gRun_len (fun ds π h => gRun_sem h)
abbrev N_seen_by : List Str := ["hall", "person", "case"]
theorem sc_seen_by : FnScope N_seen_by ["hall", "person", "case"] (defScope st_seen_by) := ⟨rfl, rfl, rfl, by decide +kernel, rfl, by decide +kernel, by decide +kernel⟩
noncomputable def fs_seen_by : SS := (sRet (eOp dIx (eCall g_part_at (aCons (eV 0) (aCons (eV 1) (aCons (eV 2) aNil)))) (eC (.int 0))))
noncomputable def g_seen_by : List D → Store → Res (D × Store) := gRun fs_seen_by 3 3
theorem B_seen_by (T : Txt P w K mg base C) : Body P w K mg base N_seen_by "seen_by" (defScope st_seen_by) (gx K C) 1 (defBody st_seen_by) fs_seen_by := fun f cdv A outer s H E M ι π hr => (ss_one (s_ret (x_ix ix_seq od_ix (x_call_ (D_part_at T) (hr.mono (by decide)) passD (xa_cons (x_var 0) (xa_cons (x_var 1) (xa_cons (x_var 2) xa_nil)))) x_int)))
theorem D_seen_by (T : Txt P w K mg base C) : Df P w K mg base 2 "seen_by" [] (spS (gx K C) g_seen_by) :=
  df_of (G := gx K C) T.fn_seen_by sc_seen_by (fun _ _ _ _ _ _ us hl => match us, hl with | [_, _, _], _ => rfl) (B_seen_by T) gRun_len (fun ds π h => gRun_sem h)
abbrev N_told_of : List Str := ["hall", "person", "case", "lot", "chances"]
theorem sc_told_of : FnScope N_told_of ["hall", "person", "case"] (defScope st_told_of) := ⟨rfl, rfl, rfl, by decide +kernel, rfl, by decide +kernel, by decide +kernel⟩
noncomputable def fs_told_of : SS := (sSeq (sAsg (gT2 3 4) (eCall g_part_at (aCons (eV 0) (aCons (eV 1) (aCons (eV 2) aNil)))))
    (sRet (eOp dIx (eV 4) (eTM dTIdx (eV 3) (eV 2)))))
noncomputable def g_told_of : List D → Store → Res (D × Store) := gRun fs_told_of 3 5
theorem B_told_of (T : Txt P w K mg base C) : Body P w K mg base N_told_of "told_of" (defScope st_told_of) (gx K C) 1 (defBody st_told_of) fs_told_of := fun f cdv A outer s H E M ι π hr => (ss_cons (s_asg (x_call_ (D_part_at T) (hr.mono (by decide)) passD (xa_cons (x_var 0) (xa_cons (x_var 1) (xa_cons (x_var 2) xa_nil)))) (xg_tup2 rfl rfl sc_told_of.nd))
      (ss_one (s_ret (x_ix ix_seq od_ix (x_var 4) (x_tindex (x_var 3) (x_var 2))))))
theorem D_told_of (T : Txt P w K mg base C) : Df P w K mg base 2 "told_of" [] (spS (gx K C) g_told_of) :=
  df_of (G := gx K C) T.fn_told_of sc_told_of (fun _ _ _ _ _ _ us hl => match us, hl with | [_, _, _], _ => rfl) (B_told_of T) gRun_len (fun ds π h => gRun_sem h)
abbrev N_chance_in : List Str := ["hall", "person", "lot", "cases", "whole", "some", "case"]
theorem sc_chance_in : FnScope N_chance_in ["hall", "person", "lot", "cases"] (defScope st_chance_in) := ⟨rfl, rfl, rfl, by decide +kernel, rfl, by decide +kernel, by decide +kernel⟩
noncomputable def fs_chance_in : SS := (sSeq (sSet 4 (eCall g_sum_of (aCons (eLc (iS (eV 3)) [6] (gN 6) tYesD (eCall g_told_of (aCons (eV 0) (aCons (eV 1) (aCons (eV 6) aNil))))) aNil)))
    (sSeq (sSet 5 (eCall g_sum_of (aCons (eLc (iS (eV 3)) [6] (gN 6) (tB (eOp (dIn false) (eV 6) (eV 2))) (eCall g_told_of (aCons (eV 0) (aCons (eV 1) (aCons (eV 6) aNil))))) aNil)))
    (sRet (eIf (tB (eOp dNe (eV 5) (eC d_ZERO))) (eCall g_divided (aCons (eV 5) (aCons (eV 4) aNil))) (eC d_ZERO)))))
noncomputable def g_chance_in : List D → Store → Res (D × Store) := gRun fs_chance_in 4 7
theorem B_chance_in (T : Txt P w K mg base C) : Body P w K mg base N_chance_in "chance_in" (defScope st_chance_in) (gx K C) 3 (defBody st_chance_in) fs_chance_in := fun f cdv A outer s H E M ι π hr => (ss_cons (s_set (i := 4) sc_chance_in.nd (x_call_ (D_sum_of T) (hr.mono (by decide)) passD (xa_cons (x_lc (own := [("case", 6)]) rfl sc_chance_in.nd (xi_seq rfl (x_var 3)) (blkOk_by (own := [("case", 6)]) (N := N_chance_in) (sc := defScope st_chance_in) (by decide +kernel)) (fun _ _ _ _ _ _ => (xg_name sc_chance_in.nd)) (fun _ _ _ _ _ _ => xs_nil) (fun _ _ _ _ _ _ => (x_call_ (D_told_of T) (hr.mono (by decide)) passL (xa_cons (x_var 0) (xa_cons (x_var 1) (xa_cons (x_var 6) xa_nil)))))) xa_nil)))
      (ss_cons (s_set (i := 5) sc_chance_in.nd (x_call_ (D_sum_of T) (hr.mono (by decide)) passD (xa_cons (x_lc (own := [("case", 6)]) rfl sc_chance_in.nd (xi_seq rfl (x_var 3)) (blkOk_by (own := [("case", 6)]) (N := N_chance_in) (sc := defScope st_chance_in) (by decide +kernel)) (fun _ _ _ _ _ _ => (xg_name sc_chance_in.nd)) (fun _ _ _ _ _ _ => (xs_one (xt_cmp op_in_seq od_in (x_var 6) (x_var 2) (by rfl)))) (fun _ _ _ _ _ _ => (x_call_ (D_told_of T) (hr.mono (by decide)) passL (xa_cons (x_var 0) (xa_cons (x_var 1) (xa_cons (x_var 6) xa_nil)))))) xa_nil)))
      (ss_one (s_ret (x_if (xt_cmp (op_neB hr.units) od_ne (x_var 5) (x_cst T.c_ZERO) (nomark _)) (x_call_ (D_divided T) (hr.mono (by decide)) passD (xa_cons (x_var 5) (xa_cons (x_var 4) xa_nil))) (x_cst T.c_ZERO))))))
theorem D_chance_in (T : Txt P w K mg base C) : Df P w K mg base 4 "chance_in" [] (spS (gx K C) g_chance_in) :=
  df_of (G := gx K C) T.fn_chance_in sc_chance_in (fun _ _ _ _ _ _ us hl => match us, hl with | [_, _, _, _], _ => rfl) (B_chance_in T) gRun_len (fun ds π h => gRun_sem h)
abbrev N_sees_by : List Str := ["hall", "can_be", "person", "case"]
theorem sc_sees_by : FnScope N_sees_by ["hall", "can_be", "person", "case"] (defScope st_sees_by) := ⟨rfl, rfl, rfl, by decide +kernel, rfl, by decide +kernel, by decide +kernel⟩
noncomputable def fs_sees_by : SS := (sRet (eCall g_common_of (aCons (eCall g_seen_by (aCons (eV 0) (aCons (eV 2) (aCons (eV 3) aNil)))) (aCons (eV 1) aNil))))
noncomputable def g_sees_by : List D → Store → Res (D × Store) := gRun fs_sees_by 4 4
theorem B_sees_by (T : Txt P w K mg base C) : Body P w K mg base N_sees_by "sees_by" (defScope st_sees_by) (gx K C) 2 (defBody st_sees_by) fs_sees_by := fun f cdv A outer s H E M ι π hr => (ss_one (s_ret (x_call_ (D_common_of T) (hr.mono (by decide)) passD (xa_cons (x_call_ (D_seen_by T) (hr.mono (by decide)) passD (xa_cons (x_var 0) (xa_cons (x_var 2) (xa_cons (x_var 3) xa_nil)))) (xa_cons (x_var 1) xa_nil)))))
theorem D_sees_by (T : Txt P w K mg base C) : Df P w K mg base 3 "sees_by" [] (spS (gx K C) g_sees_by) :=
  df_of (G := gx K C) T.fn_sees_by sc_sees_by (fun _ _ _ _ _ _ us hl => match us, hl with | [_, _, _, _], _ => rfl) (B_sees_by T) gRun_len (fun ds π h => gRun_sem h)
abbrev N_says_by : List Str := ["hall", "can_be", "person", "case", "lot"]
theorem sc_says_by : FnScope N_says_by ["hall", "can_be", "person", "case", "lot"] (defScope st_says_by) := ⟨rfl, rfl, rfl, by decide +kernel, rfl, by decide +kernel, by decide +kernel⟩
noncomputable def fs_says_by : SS := (sRet (eCall g_chance_in (aCons (eV 0) (aCons (eV 2) (aCons (eV 4) (aCons (eCall g_sees_by (aCons (eV 0) (aCons (eV 1) (aCons (eV 2) (aCons (eV 3) aNil))))) aNil))))))
noncomputable def g_says_by : List D → Store → Res (D × Store) := gRun fs_says_by 5 5
theorem B_says_by (T : Txt P w K mg base C) : Body P w K mg base N_says_by "says_by" (defScope st_says_by) (gx K C) 4 (defBody st_says_by) fs_says_by := fun f cdv A outer s H E M ι π hr => (ss_one (s_ret (x_call_ (D_chance_in T) (hr.mono (by decide)) passD (xa_cons (x_var 0) (xa_cons (x_var 2) (xa_cons (x_var 4) (xa_cons (x_call_ (D_sees_by T) (hr.mono (by decide)) passD (xa_cons (x_var 0) (xa_cons (x_var 1) (xa_cons (x_var 2) (xa_cons (x_var 3) xa_nil))))) xa_nil)))))))
theorem D_says_by (T : Txt P w K mg base C) : Df P w K mg base 5 "says_by" [] (spS (gx K C) g_says_by) :=
  df_of (G := gx K C) T.fn_says_by sc_says_by (fun _ _ _ _ _ _ us hl => match us, hl with | [_, _, _, _, _], _ => rfl) (B_says_by T) gRun_len (fun ds π h => gRun_sem h)
abbrev N_behind_saying : List Str := ["hall", "can_be", "case", "person", "lot", "said", "each"]
theorem sc_behind_saying : FnScope N_behind_saying ["hall", "can_be", "case", "person", "lot"] (defScope st_behind_saying) := ⟨rfl, rfl, rfl, by decide +kernel, rfl, by decide +kernel, by decide +kernel⟩
noncomputable def fs_behind_saying : SS := (sSeq (sSet 5 (eCall g_says_by (aCons (eV 0) (aCons (eV 1) (aCons (eV 3) (aCons (eV 2) (aCons (eV 4) aNil)))))))
    (sRet (eFn fTuple (aCons (eLc (iS (eV 1)) [6] (gN 6) (tB (eOp dEq (eCall g_says_by (aCons (eV 0) (aCons (eV 1) (aCons (eV 3) (aCons (eV 6) (aCons (eV 4) aNil)))))) (eV 5))) (eV 6)) aNil))))
noncomputable def g_behind_saying : List D → Store → Res (D × Store) := gRun fs_behind_saying 5 7
theorem B_behind_saying (T : Txt P w K mg base C) : Body P w K mg base N_behind_saying "behind_saying" (defScope st_behind_saying) (gx K C) 5 (defBody st_behind_saying) fs_behind_saying := fun f cdv A outer s H E M ι π hr => (ss_cons (s_set (i := 5) sc_behind_saying.nd (x_call_ (D_says_by T) (hr.mono (by decide)) passD (xa_cons (x_var 0) (xa_cons (x_var 1) (xa_cons (x_var 3) (xa_cons (x_var 2) (xa_cons (x_var 4) xa_nil)))))))
      (ss_one (s_ret (x_callT call_tupleF fd_tuple nx_tuple T.b_tuple (by decide +kernel) (xa_cons (x_lc (own := [("each", 6)]) rfl sc_behind_saying.nd (xi_seq rfl (x_var 1)) (blkOk_by (own := [("each", 6)]) (N := N_behind_saying) (sc := defScope st_behind_saying) (by decide +kernel)) (fun _ _ _ _ _ _ => (xg_name sc_behind_saying.nd)) (fun _ _ _ _ _ _ => (xs_one (xt_cmp (op_eqB hr.units) od_eq (x_call_ (D_says_by T) (hr.mono (by decide)) passL (xa_cons (x_var 0) (xa_cons (x_var 1) (xa_cons (x_var 3) (xa_cons (x_var 6) (xa_cons (x_var 4) xa_nil)))))) (x_var 5) (nomark _)))) (fun _ _ _ _ _ _ => (x_var 6))) xa_nil)))))
theorem D_behind_saying (T : Txt P w K mg base C) : Df P w K mg base 6 "behind_saying" [] (spS (gx K C) g_behind_saying) :=
  df_of (G := gx K C) T.fn_behind_saying sc_behind_saying (fun _ _ _ _ _ _ us hl => match us, hl with | [_, _, _, _, _], _ => rfl) (B_behind_saying T) gRun_len (fun ds π h => gRun_sem h)
abbrev N_piece_in : List Str := ["hall", "can_be", "case", "found", "line", "at", "here", "person", "fresh", "other"]
theorem sc_piece_in : FnScope N_piece_in ["hall", "can_be", "case"] (defScope st_piece_in) := ⟨rfl, rfl, rfl, by decide +kernel, rfl, by decide +kernel, by decide +kernel⟩
noncomputable def fs_piece_in : SS := (sSeq (sAsg (gT3 3 4 5) (eFn fTup (aCons (eDisp1 2) (aCons (eNewL (aCons (eV 2) aNil)) (aCons (eC (.int 0)) aNil)))))
    (sSeq (sWhile (tB (eOp dLt (eV 5) (eFnL fLen (aCons (eV 4) aNil)))) (sSeq (sPar 6 5 (aCons (eOpL dIx (eV 4) (eV 5)) (aCons (eOp dAdd (eV 5) (eC (.int 1))) aNil)))
    (sFor (iS (eCall g_persons_of (aCons (eV 0) aNil))) (gN 7) (sSeq (sSet 8 (eLc (iS (eCall g_sees_by (aCons (eV 0) (aCons (eV 1) (aCons (eV 7) (aCons (eV 6) aNil)))))) [9] (gN 9) (tDin true (eV 9) (eV 3)) (eV 9)))
    (sSeq (sExpr (eExt (eV 4) (eV 8)))
    (sExpr (eUpdDc 9 (eV 3) (iS (eV 8)))))))))
    (sRet (eFn fTuple (aCons (eSortD (eV 3)) aNil)))))
noncomputable def g_piece_in : List D → Store → Res (D × Store) := gRun fs_piece_in 3 10
theorem B_piece_in (T : Txt P w K mg base C) : Body P w K mg base N_piece_in "piece_in" (defScope st_piece_in) (gx K C) 3 (defBody st_piece_in) fs_piece_in := fun f cdv A outer s H E M ι π hr => (ss_cons (s_asg (x_tup (xa_cons (x_disp1 2) (xa_cons (x_newL (xa_cons (x_var 2) xa_nil)) (xa_cons x_int xa_nil)))) (xg_tup3 rfl rfl sc_piece_in.nd))
      (ss_cons (s_while ownD (xt_cmp op_lt od_lt (x_var 5) (x_callBL call_len fd_len nx_len T.b_len (by decide +kernel) (xa_cons (x_var 4) xa_nil)) (nomark _)) (ss_cons (s_par (i := 6) (j := 5) rfl sc_piece_in.nd (xa_cons (x_ixL ix_seq od_ix (x_var 4) (x_var 5)) (xa_cons (x_op op_addD od_add (x_var 5) x_int) xa_nil)))
      (ss_one (s_for ownD rfl (xi_seq rfl (x_call_ (D_persons_of T) (hr.mono (by decide)) passD (xa_cons (x_var 0) xa_nil))) (xg_name sc_piece_in.nd) (ss_cons (s_setLc (own := [("other", 9)]) (i := 8) rfl sc_piece_in.nd (xi_seq rfl (x_call_ (D_sees_by T) (hr.mono (by decide)) passD (xa_cons (x_var 0) (xa_cons (x_var 1) (xa_cons (x_var 7) (xa_cons (x_var 6) xa_nil)))))) (blkOk_by (own := [("other", 9)]) (N := N_piece_in) (sc := defScope st_piece_in) (by decide +kernel)) (fun _ _ _ _ _ _ => (xg_name sc_piece_in.nd)) (fun _ _ _ _ _ _ => (xs_one (xt_dnot hr.u1 (x_var 9) (x_var 3) rfl))) (fun _ _ _ _ _ _ => (x_var 9)))
      (ss_cons (s_expr (x_ext (x_var 4) (x_var 8)))
      (ss_one (s_expr (x_updDc (own := [("other", 9)]) rfl sc_piece_in.nd (x_var 3) (xi_seq rfl (x_var 8)) (blkOk_by (own := [("other", 9)]) (N := N_piece_in) (sc := defScope st_piece_in) (by decide +kernel)) rfl (fun _ _ _ _ _ => (pgn sc_piece_in.nd)) (fun _ _ _ _ _ => (pv 9)))))))))))
      (ss_one (s_ret (x_callT call_tupleF fd_tuple nx_tuple T.b_tuple (by decide +kernel) (xa_cons (x_sortD T.b_sorted (x_var 3)) xa_nil))))))
theorem D_piece_in (T : Txt P w K mg base C) : Df P w K mg base 4 "piece_in" [] (spS (gx K C) g_piece_in) :=
  df_of (G := gx K C) T.fn_piece_in sc_piece_in (fun _ _ _ _ _ _ us hl => match us, hl with | [_, _, _], _ => rfl) (B_piece_in T) gRun_len (fun ds π h => gRun_sem h)
abbrev N_has_form : List Str := ["value"]
theorem sc_has_form : FnScope N_has_form ["value"] (defScope st_has_form) := ⟨rfl, rfl, rfl, by decide +kernel, rfl, by decide +kernel, by decide +kernel⟩
noncomputable def fs_has_form : SS := (sSeq (sIf (tOr (tNot (tB (eUn (dIs "tuple") (eV 0)))) (tOr (tB (eOp dEq (eFn fLen (aCons (eV 0) aNil)) (eC (.int 0)))) (tNot (tB (eCall g_is_string (aCons (eOp dIx (eV 0) (eC (.int 0))) aNil)))))) (sRet (eC (.bl false))) sNil)
    (sRet (eAnd (eUn (dInTab t_SIZES) (eOp dIx (eV 0) (eC (.int 0)))) (eOp dEq (eFn fLen (aCons (eV 0) aNil)) (eUn (dIxTab t_SIZES) (eOp dIx (eV 0) (eC (.int 0))))))))
noncomputable def g_has_form : List D → Store → Res (D × Store) := gRun fs_has_form 1 1
theorem B_has_form (T : Txt P w K mg base C) : Body P w K mg base N_has_form "has_form" (defScope st_has_form) (gx K C) 1 (defBody st_has_form) fs_has_form := fun f cdv A outer s H E M ι π hr => (ss_cons (s_if (xt_w (xw_or (xt_not (xt_val (x_is T.b_isinstance T.b_tuple (by decide +kernel) (x_var 0)))) (xw_or (xt_cmp (op_eqB hr.units) od_eq (x_callB call_len fd_len nx_len T.b_len (by decide +kernel) (xa_cons (x_var 0) xa_nil)) x_int (nomark _)) (xw_or1 (xt_not (xt_val (x_call_ (D_is_string T) (hr.mono (by decide)) passD (xa_cons (x_ix ix_seq od_ix (x_var 0) x_int) xa_nil)))))))) (ss_one (s_ret x_bl)) ss_nil)
      (ss_one (s_ret (x_and (x_inTab T.t_SIZES (x_ix ix_seq od_ix (x_var 0) x_int)) (x_one (x_cmp (op_eqB hr.units) od_eq (x_callB call_len fd_len nx_len T.b_len (by decide +kernel) (xa_cons (x_var 0) xa_nil)) (x_ixTab T.t_SIZES (x_ix ix_seq od_ix (x_var 0) x_int)) (nomark _)))))))
theorem D_has_form (T : Txt P w K mg base C) : Df P w K mg base 2 "has_form" [] (spS (gx K C) g_has_form) :=
  df_of (G := gx K C) T.fn_has_form sc_has_form (fun _ _ _ _ _ _ us hl => match us, hl with | [_], _ => rfl) (B_has_form T) gRun_len (fun ds π h => gRun_sem h)
abbrev N_check_deed : List Str := ["hall", "value"]
theorem sc_check_deed : FnScope N_check_deed ["hall", "value"] (defScope st_check_deed) := ⟨rfl, rfl, rfl, by decide +kernel, rfl, by decide +kernel, by decide +kernel⟩
noncomputable def fs_check_deed : SS := (sSeq (sIf (tNot (tB (eCall g_has_form (aCons (eV 1) aNil)))) (sRaise 6 (eC (.int 0))) sNil)
    (sSeq (sIf (tAnd (tB (eOp dEq (eOp dIx (eV 1) (eC (.int 0))) (eC (.str "say")))) (tNot (tB (eCall g_is_person (aCons (eV 0) (aCons (eOp dIx (eV 1) (eC (.int 1))) aNil)))))) (sRaise 6 (eC (.int 1))) sNil)
    (sIf (tNot (tB (eCall g_is_lot (aCons (eV 0) (aCons (eOp dIx (eV 1) (eUn dNeg (eC (.int 1)))) aNil))))) (sRaise 6 (eOp dSub (eFn fLen (aCons (eV 1) aNil)) (eC (.int 1)))) sNil)))
noncomputable def g_check_deed : List D → Store → Res (D × Store) := gRun fs_check_deed 2 2
theorem B_check_deed (T : Txt P w K mg base C) : Body P w K mg base N_check_deed "check_deed" (defScope st_check_deed) (gx K C) 4 (defBody st_check_deed) fs_check_deed := fun f cdv A outer s H E M ι π hr => (ss_cons (s_if (xt_not (xt_val (x_call_ (D_has_form T) (hr.mono (by decide)) passD (xa_cons (x_var 1) xa_nil)))) (ss_one (s_raise rfl takD T.X_InvalidDeed (hr.mono (by decide)) x_int)) ss_nil)
      (ss_cons (s_if (xt_w (xw_and (xt_cmp (op_eqB hr.units) od_eq (x_ix ix_seq od_ix (x_var 1) x_int) x_str (nomark _)) (xw_and1 (xt_not (xt_val (x_call_ (D_is_person T) (hr.mono (by decide)) passD (xa_cons (x_var 0) (xa_cons (x_ix ix_seq od_ix (x_var 1) x_int) xa_nil)))))))) (ss_one (s_raise rfl takD T.X_InvalidDeed (hr.mono (by decide)) x_int)) ss_nil)
      (ss_one (s_if (xt_not (xt_val (x_call_ (D_is_lot T) (hr.mono (by decide)) passD (xa_cons (x_var 0) (xa_cons (x_ix ix_seq od_ix (x_var 1) (x_un un_neg ud_neg x_int)) xa_nil))))) (ss_one (s_raise rfl takD T.X_InvalidDeed (hr.mono (by decide)) (x_op op_sub od_sub (x_callB call_len fd_len nx_len T.b_len (by decide +kernel) (xa_cons (x_var 1) xa_nil)) x_int))) ss_nil))))
theorem D_check_deed (T : Txt P w K mg base C) : Df P w K mg base 5 "check_deed" [] (spS (gx K C) g_check_deed) :=
  df_of (G := gx K C) T.fn_check_deed sc_check_deed (fun _ _ _ _ _ _ us hl => match us, hl with | [_, _], _ => rfl) (B_check_deed T) gRun_len (fun ds π h => gRun_sem h)
abbrev N_reason_against : List Str := ["hall", "can_be", "case", "deed", "piece"]
theorem sc_reason_against : FnScope N_reason_against ["hall", "can_be", "case", "deed"] (defScope st_reason_against) := ⟨rfl, rfl, rfl, by decide +kernel, rfl, by decide +kernel, by decide +kernel⟩
noncomputable def fs_reason_against : SS := (sSeq (sIf (tB (eOp dEq (eOp dIx (eV 3) (eC (.int 0))) (eC (.str "say")))) (sRet (eC .non)) sNil)
    (sSeq (sIf (tB (eOp (dIn true) (eV 2) (eOp dIx (eV 3) (eC (.int 1))))) (sRet (eC d_FALSE)) sNil)
    (sSeq (sSet 4 (eCall g_piece_in (aCons (eV 0) (aCons (eV 1) (aCons (eV 2) aNil)))))
    (sRet (eIf (tB (eOp dEq (eCall g_common_of (aCons (eV 4) (aCons (eOp dIx (eV 3) (eC (.int 1))) aNil))) (eV 4))) (eC d_KNOWN) (eC .non))))))
noncomputable def g_reason_against : List D → Store → Res (D × Store) := gRun fs_reason_against 4 5
theorem B_reason_against (T : Txt P w K mg base C) : Body P w K mg base N_reason_against "reason_against" (defScope st_reason_against) (gx K C) 4 (defBody st_reason_against) fs_reason_against := fun f cdv A outer s H E M ι π hr => (ss_cons (s_if (xt_cmp (op_eqB hr.units) od_eq (x_ix ix_seq od_ix (x_var 3) x_int) x_str (nomark _)) (ss_one (s_ret x_non)) ss_nil)
      (ss_cons (s_if (xt_cmp op_notIn_seq od_in (x_var 2) (x_ix ix_seq od_ix (x_var 3) x_int) (by rfl)) (ss_one (s_ret (x_cst T.c_FALSE))) ss_nil)
      (ss_cons (s_set (i := 4) sc_reason_against.nd (x_call_ (D_piece_in T) (hr.mono (by decide)) passD (xa_cons (x_var 0) (xa_cons (x_var 1) (xa_cons (x_var 2) xa_nil)))))
      (ss_one (s_ret (x_if (xt_cmp (op_eqB hr.units) od_eq (x_call_ (D_common_of T) (hr.mono (by decide)) passD (xa_cons (x_var 4) (xa_cons (x_ix ix_seq od_ix (x_var 3) x_int) xa_nil))) (x_var 4) (nomark _)) (x_cst T.c_KNOWN) x_non))))))
theorem D_reason_against (T : Txt P w K mg base C) : Df P w K mg base 5 "reason_against" [] (spS (gx K C) g_reason_against) :=
  df_of (G := gx K C) T.fn_reason_against sc_reason_against (fun _ _ _ _ _ _ us hl => match us, hl with | [_, _, _, _], _ => rfl) (B_reason_against T) gRun_len (fun ds π h => gRun_sem h)
abbrev N_behind_deed : List Str := ["hall", "can_be", "case", "deed"]
theorem sc_behind_deed : FnScope N_behind_deed ["hall", "can_be", "case", "deed"] (defScope st_behind_deed) := ⟨rfl, rfl, rfl, by decide +kernel, rfl, by decide +kernel, by decide +kernel⟩
noncomputable def fs_behind_deed : SS := (sSeq (sIf (tB (eOp dEq (eOp dIx (eV 3) (eC (.int 0))) (eC (.str "say")))) (sRet (eCall g_behind_saying (aCons (eV 0) (aCons (eV 1) (aCons (eV 2) (aCons (eOp dIx (eV 3) (eC (.int 1))) (aCons (eOp dIx (eV 3) (eC (.int 2))) aNil))))))) sNil)
    (sRet (eCall g_common_of (aCons (eV 1) (aCons (eOp dIx (eV 3) (eC (.int 1))) aNil)))))
noncomputable def g_behind_deed : List D → Store → Res (D × Store) := gRun fs_behind_deed 4 4
theorem B_behind_deed (T : Txt P w K mg base C) : Body P w K mg base N_behind_deed "behind_deed" (defScope st_behind_deed) (gx K C) 6 (defBody st_behind_deed) fs_behind_deed := fun f cdv A outer s H E M ι π hr => (ss_cons (s_if (xt_cmp (op_eqB hr.units) od_eq (x_ix ix_seq od_ix (x_var 3) x_int) x_str (nomark _)) (ss_one (s_ret (x_call_ (D_behind_saying T) (hr.mono (by decide)) passD (xa_cons (x_var 0) (xa_cons (x_var 1) (xa_cons (x_var 2) (xa_cons (x_ix ix_seq od_ix (x_var 3) x_int) (xa_cons (x_ix ix_seq od_ix (x_var 3) x_int) xa_nil)))))))) ss_nil)
      (ss_one (s_ret (x_call_ (D_common_of T) (hr.mono (by decide)) passD (xa_cons (x_var 1) (xa_cons (x_ix ix_seq od_ix (x_var 3) x_int) xa_nil))))))
theorem D_behind_deed (T : Txt P w K mg base C) : Df P w K mg base 7 "behind_deed" [] (spS (gx K C) g_behind_deed) :=
  df_of (G := gx K C) T.fn_behind_deed sc_behind_deed (fun _ _ _ _ _ _ us hl => match us, hl with | [_, _, _, _], _ => rfl) (B_behind_deed T) gRun_len (fun ds π h => gRun_sem h)
abbrev N_Meeting___init__ : List Str := ["self", "hall", "case"]
theorem sc_Meeting___init__ : FnScope N_Meeting___init__ ["self", "hall", "case"] (defScope st_Meeting___init__) := ⟨rfl, rfl, rfl, by decide +kernel, rfl, by decide +kernel, by decide +kernel⟩
noncomputable def fs_Meeting___init__ : SS := (sSeq (sExpr (eCall g_check_hall (aCons (eV 1) aNil)))
    (sSeq (sExpr (eCall g_check_case (aCons (eV 1) (aCons (eV 2) aNil))))
    (sSeq (sFldSet 1 0 (eV 0) (eV 1))
    (sSeq (sFldSet 1 1 (eV 0) (eV 2))
    (sSeq (sFldSet 1 2 (eV 0) (eFn fTup aNil))
    (sSeq (sFldSet 1 3 (eV 0) (eCall g_cases_of (aCons (eV 1) aNil)))
    (sFldSet 1 4 (eV 0) (eNewL aNil))))))))
noncomputable def g_Meeting___init__ : List D → Store → Res (D × Store) := gRun fs_Meeting___init__ 3 3
theorem B_Meeting___init__ (T : Txt P w K mg base C) : Body P w K mg base N_Meeting___init__ "Meeting.__init__" (defScope st_Meeting___init__) (gx K C) 4 (defBody st_Meeting___init__) fs_Meeting___init__ := fun f cdv A outer s H E M ι π hr => (ss_cons (s_expr (x_call_ (D_check_hall T) (hr.mono (by decide)) passD (xa_cons (x_var 1) xa_nil)))
      (ss_cons (s_expr (x_call_ (D_check_case T) (hr.mono (by decide)) passD (xa_cons (x_var 1) (xa_cons (x_var 2) xa_nil))))
      (ss_cons (s_fldSet T.f_1_0 (flLen 1) (x_var 0) (x_var 1))
      (ss_cons (s_fldSet T.f_1_1 (flLen 1) (x_var 0) (x_var 2))
      (ss_cons (s_fldSet T.f_1_2 (flLen 1) (x_var 0) (x_tup xa_nil))
      (ss_cons (s_fldSet T.f_1_3 (flLen 1) (x_var 0) (x_call_ (D_cases_of T) (hr.mono (by decide)) passD (xa_cons (x_var 1) xa_nil)))
      (ss_one (s_fldSet T.f_1_4 (flLen 1) (x_var 0) (x_newL xa_nil)))))))))
theorem F_Meeting___init__ (T : Txt P w K mg base C) {f : Addr} {fd : FuncData} (F : Fun K "__init__" "Meeting.__init__" st_Meeting___init__ f fd) : FnOk P w K mg base (L2.CX P w) 5 f fd ["self", "hall", "case"] (spS (gx K C) g_Meeting___init__) ∧ Binds K fd ["self", "hall", "case"] [] :=
  ⟨fn_of_body F sc_Meeting___init__ (B_Meeting___init__ T) gRun_len (fun ds π h => gRun_sem h), F.binds fun _ _ _ _ _ _ us hl => match us, hl with | [_, _, _], _ => rfl⟩
theorem Mk_Meeting (T : Txt P w K mg base C) : ClC P w (gx K C) mg base 5 "Meeting" 1 (spS (gx K C) g_Meeting___init__) := by
  obtain ⟨f, fd, F, hm, M⟩ := T.mk_Meeting
  exact ⟨f, fd, ["self", "hall", "case"], hm, M, (F_Meeting___init__ T F).1, (F_Meeting___init__ T F).2⟩
abbrev N_Meeting_do : List Str := ["self", "deed", "reason"]
theorem sc_Meeting_do : FnScope N_Meeting_do ["self", "deed"] (defScope st_Meeting_do) := ⟨rfl, rfl, rfl, by decide +kernel, rfl, by decide +kernel, by decide +kernel⟩
noncomputable def fs_Meeting_do : SS := (sSeq (sExpr (eCall g_check_deed (aCons (eUnS (dFld 1 0) (eV 0)) (aCons (eV 1) aNil))))
    (sSeq (sSet 2 (eCall g_reason_against (aCons (eUnS (dFld 1 0) (eV 0)) (aCons (eUnS (dFld 1 3) (eV 0)) (aCons (eUnS (dFld 1 1) (eV 0)) (aCons (eV 1) aNil))))))
    (sSeq (sIf (tB (eOp dNotN (eV 2) (eC .non))) (sRaise 7 (eV 2)) sNil)
    (sSeq (sExpr (eApp (eUnS (dFld 1 4) (eV 0)) (eUnS (dFld 1 3) (eV 0))))
    (sSeq (sFldSet 1 3 (eV 0) (eCall g_behind_deed (aCons (eUnS (dFld 1 0) (eV 0)) (aCons (eUnS (dFld 1 3) (eV 0)) (aCons (eUnS (dFld 1 1) (eV 0)) (aCons (eV 1) aNil))))))
    (sFldSet 1 2 (eV 0) (eOp dAdd (eUnS (dFld 1 2) (eV 0)) (eFn fTup (aCons (eV 1) aNil)))))))))
noncomputable def g_Meeting_do : List D → Store → Res (D × Store) := gRun fs_Meeting_do 2 3
theorem B_Meeting_do (T : Txt P w K mg base C) : Body P w K mg base N_Meeting_do "Meeting.do" (defScope st_Meeting_do) (gx K C) 7 (defBody st_Meeting_do) fs_Meeting_do := fun f cdv A outer s H E M ι π hr => (ss_cons (s_expr (x_call_ (D_check_deed T) (hr.mono (by decide)) passD (xa_cons (x_fld T.f_1_0 (x_var 0)) (xa_cons (x_var 1) xa_nil))))
      (ss_cons (s_set (i := 2) sc_Meeting_do.nd (x_call_ (D_reason_against T) (hr.mono (by decide)) passD (xa_cons (x_fld T.f_1_0 (x_var 0)) (xa_cons (x_fld T.f_1_3 (x_var 0)) (xa_cons (x_fld T.f_1_1 (x_var 0)) (xa_cons (x_var 1) xa_nil))))))
      (ss_cons (s_if (xt_cmp op_notN od_notN (x_var 2) x_non (nomark _)) (ss_one (s_raise rfl takD T.X_Barred (hr.mono (by decide)) (x_var 2))) ss_nil)
      (ss_cons (s_expr (x_app (x_fld T.f_1_4 (x_var 0)) (x_fld T.f_1_3 (x_var 0))))
      (ss_cons (s_fldSet T.f_1_3 (flLen 1) (x_var 0) (x_call_ (D_behind_deed T) (hr.mono (by decide)) passD (xa_cons (x_fld T.f_1_0 (x_var 0)) (xa_cons (x_fld T.f_1_3 (x_var 0)) (xa_cons (x_fld T.f_1_1 (x_var 0)) (xa_cons (x_var 1) xa_nil))))))
      (ss_one (s_fldSet T.f_1_2 (flLen 1) (x_var 0) (x_op op_addD od_add (x_fld T.f_1_2 (x_var 0)) (x_tup (xa_cons (x_var 1) xa_nil))))))))))
theorem F_Meeting_do (T : Txt P w K mg base C) {f : Addr} {fd : FuncData} (F : Fun K "do" "Meeting.do" st_Meeting_do f fd) : FnOk P w K mg base (L2.CX P w) 8 f fd ["self", "deed"] (spS (gx K C) g_Meeting_do) ∧ Binds K fd ["self", "deed"] [] :=
  ⟨fn_of_body F sc_Meeting_do (B_Meeting_do T) gRun_len (fun ds π h => gRun_sem h), F.binds fun _ _ _ _ _ _ us hl => match us, hl with | [_, _], _ => rfl⟩
theorem M_Meeting_do (T : Txt P w K mg base C) : MtC P w (gx K C) mg base 8 1 "do" (spS (gx K C) g_Meeting_do) := by
  obtain ⟨f, fd, F, M⟩ := T.mt_Meeting_do
  exact ⟨f, fd, ["self", "deed"], T.cl_1, M, (F_Meeting_do T F).1, (F_Meeting_do T F).2, (by decide +kernel : ("do" : Str) ∉ fl79 1)⟩
theorem K_Meeting_do (T : Txt P w K mg base C) : MtK P w (gx K C) mg base 8 1 "do" "deed" (spS (gx K C) g_Meeting_do) := by
  obtain ⟨f, fd, F, M⟩ := T.mt_Meeting_do
  have hF := (F_Meeting_do T F).1
  refine ⟨f, fd, ["self", "deed"], T.cl_1, M, hF, fun s a v _ => ?_, (by decide +kernel : ("do" : Str) ∉ fl79 1)⟩
  obtain ⟨oc, od, kV, doc, pm, an, cdv, ct, osl, rfl, lk, hcd⟩ := F.ex
  exact .of_eq rfl
abbrev N_Meeting_undo : List Str := ["self"]
theorem sc_Meeting_undo : FnScope N_Meeting_undo ["self"] (defScope st_Meeting_undo) := ⟨rfl, rfl, rfl, by decide +kernel, rfl, by decide +kernel, by decide +kernel⟩
noncomputable def fs_Meeting_undo : SS := sFail
noncomputable def g_Meeting_undo : List D → Store → Res (D × Store) := gRun fs_Meeting_undo 1 1
theorem B_Meeting_undo (T : Txt P w K mg base C) : Body P w K mg base N_Meeting_undo "Meeting.undo" (defScope st_Meeting_undo) (gx K C) 0 (defBody st_Meeting_undo) fs_Meeting_undo := fun f cdv A outer s H E M ι π hr => (ss_one s_fail)
theorem F_Meeting_undo (T : Txt P w K mg base C) {f : Addr} {fd : FuncData} (F : Fun K "undo" "Meeting.undo" st_Meeting_undo f fd) : FnOk P w K mg base (L2.CX P w) 1 f fd ["self"] (spS (gx K C) g_Meeting_undo) ∧ Binds K fd ["self"] [] :=
  ⟨fn_of_body F sc_Meeting_undo (B_Meeting_undo T) gRun_len (fun ds π h => gRun_sem h), F.binds fun _ _ _ _ _ _ us hl => match us, hl with | [_], _ => rfl⟩
theorem M_Meeting_undo (T : Txt P w K mg base C) : MtC P w (gx K C) mg base 1 1 "undo" (spS (gx K C) g_Meeting_undo) := by
  obtain ⟨f, fd, F, M⟩ := T.mt_Meeting_undo
  exact ⟨f, fd, ["self"], T.cl_1, M, (F_Meeting_undo T F).1, (F_Meeting_undo T F).2, (by decide +kernel : ("undo" : Str) ∉ fl79 1)⟩
abbrev N_Meeting_sees : List Str := ["self", "person"]
theorem sc_Meeting_sees : FnScope N_Meeting_sees ["self", "person"] (defScope st_Meeting_sees) := ⟨rfl, rfl, rfl, by decide +kernel, rfl, by decide +kernel, by decide +kernel⟩
noncomputable def fs_Meeting_sees : SS := (sSeq (sExpr (eCall g_check_person (aCons (eUnS (dFld 1 0) (eV 0)) (aCons (eV 1) aNil))))
    (sRet (eCall g_sees_by (aCons (eUnS (dFld 1 0) (eV 0)) (aCons (eUnS (dFld 1 3) (eV 0)) (aCons (eV 1) (aCons (eUnS (dFld 1 1) (eV 0)) aNil)))))))
noncomputable def g_Meeting_sees : List D → Store → Res (D × Store) := gRun fs_Meeting_sees 2 2
theorem B_Meeting_sees (T : Txt P w K mg base C) : Body P w K mg base N_Meeting_sees "Meeting.sees" (defScope st_Meeting_sees) (gx K C) 4 (defBody st_Meeting_sees) fs_Meeting_sees := fun f cdv A outer s H E M ι π hr => (ss_cons (s_expr (x_call_ (D_check_person T) (hr.mono (by decide)) passD (xa_cons (x_fld T.f_1_0 (x_var 0)) (xa_cons (x_var 1) xa_nil))))
      (ss_one (s_ret (x_call_ (D_sees_by T) (hr.mono (by decide)) passD (xa_cons (x_fld T.f_1_0 (x_var 0)) (xa_cons (x_fld T.f_1_3 (x_var 0)) (xa_cons (x_var 1) (xa_cons (x_fld T.f_1_1 (x_var 0)) xa_nil))))))))
theorem F_Meeting_sees (T : Txt P w K mg base C) {f : Addr} {fd : FuncData} (F : Fun K "sees" "Meeting.sees" st_Meeting_sees f fd) : FnOk P w K mg base (L2.CX P w) 5 f fd ["self", "person"] (spS (gx K C) g_Meeting_sees) ∧ Binds K fd ["self", "person"] [] :=
  ⟨fn_of_body F sc_Meeting_sees (B_Meeting_sees T) gRun_len (fun ds π h => gRun_sem h), F.binds fun _ _ _ _ _ _ us hl => match us, hl with | [_, _], _ => rfl⟩
theorem M_Meeting_sees (T : Txt P w K mg base C) : MtC P w (gx K C) mg base 5 1 "sees" (spS (gx K C) g_Meeting_sees) := by
  obtain ⟨f, fd, F, M⟩ := T.mt_Meeting_sees
  exact ⟨f, fd, ["self", "person"], T.cl_1, M, (F_Meeting_sees T F).1, (F_Meeting_sees T F).2, (by decide +kernel : ("sees" : Str) ∉ fl79 1)⟩
abbrev N_Meeting_says : List Str := ["self", "person", "lot"]
theorem sc_Meeting_says : FnScope N_Meeting_says ["self", "person", "lot"] (defScope st_Meeting_says) := ⟨rfl, rfl, rfl, by decide +kernel, rfl, by decide +kernel, by decide +kernel⟩
noncomputable def fs_Meeting_says : SS := (sSeq (sExpr (eCall g_check_person (aCons (eUnS (dFld 1 0) (eV 0)) (aCons (eV 1) aNil))))
    (sSeq (sExpr (eCall g_check_lot (aCons (eUnS (dFld 1 0) (eV 0)) (aCons (eV 2) aNil))))
    (sRet (eCall g_says_by (aCons (eUnS (dFld 1 0) (eV 0)) (aCons (eUnS (dFld 1 3) (eV 0)) (aCons (eV 1) (aCons (eUnS (dFld 1 1) (eV 0)) (aCons (eV 2) aNil)))))))))
noncomputable def g_Meeting_says : List D → Store → Res (D × Store) := gRun fs_Meeting_says 3 3
theorem B_Meeting_says (T : Txt P w K mg base C) : Body P w K mg base N_Meeting_says "Meeting.says" (defScope st_Meeting_says) (gx K C) 5 (defBody st_Meeting_says) fs_Meeting_says := fun f cdv A outer s H E M ι π hr => (ss_cons (s_expr (x_call_ (D_check_person T) (hr.mono (by decide)) passD (xa_cons (x_fld T.f_1_0 (x_var 0)) (xa_cons (x_var 1) xa_nil))))
      (ss_cons (s_expr (x_call_ (D_check_lot T) (hr.mono (by decide)) passD (xa_cons (x_fld T.f_1_0 (x_var 0)) (xa_cons (x_var 2) xa_nil))))
      (ss_one (s_ret (x_call_ (D_says_by T) (hr.mono (by decide)) passD (xa_cons (x_fld T.f_1_0 (x_var 0)) (xa_cons (x_fld T.f_1_3 (x_var 0)) (xa_cons (x_var 1) (xa_cons (x_fld T.f_1_1 (x_var 0)) (xa_cons (x_var 2) xa_nil))))))))))
theorem F_Meeting_says (T : Txt P w K mg base C) {f : Addr} {fd : FuncData} (F : Fun K "says" "Meeting.says" st_Meeting_says f fd) : FnOk P w K mg base (L2.CX P w) 6 f fd ["self", "person", "lot"] (spS (gx K C) g_Meeting_says) ∧ Binds K fd ["self", "person", "lot"] [] :=
  ⟨fn_of_body F sc_Meeting_says (B_Meeting_says T) gRun_len (fun ds π h => gRun_sem h), F.binds fun _ _ _ _ _ _ us hl => match us, hl with | [_, _, _], _ => rfl⟩
theorem M_Meeting_says (T : Txt P w K mg base C) : MtC P w (gx K C) mg base 6 1 "says" (spS (gx K C) g_Meeting_says) := by
  obtain ⟨f, fd, F, M⟩ := T.mt_Meeting_says
  exact ⟨f, fd, ["self", "person", "lot"], T.cl_1, M, (F_Meeting_says T F).1, (F_Meeting_says T F).2, (by decide +kernel : ("says" : Str) ∉ fl79 1)⟩
abbrev N_Meeting_left_open : List Str := ["self"]
theorem sc_Meeting_left_open : FnScope N_Meeting_left_open ["self"] (defScope st_Meeting_left_open) := ⟨rfl, rfl, rfl, by decide +kernel, rfl, by decide +kernel, by decide +kernel⟩
noncomputable def fs_Meeting_left_open : SS := (sRet (eUnS (dFld 1 3) (eV 0)))
noncomputable def g_Meeting_left_open : List D → Store → Res (D × Store) := gRun fs_Meeting_left_open 1 1
theorem B_Meeting_left_open (T : Txt P w K mg base C) : Body P w K mg base N_Meeting_left_open "Meeting.left_open" (defScope st_Meeting_left_open) (gx K C) 0 (defBody st_Meeting_left_open) fs_Meeting_left_open := fun f cdv A outer s H E M ι π hr => (ss_one (s_ret (x_fld T.f_1_3 (x_var 0))))
theorem F_Meeting_left_open (T : Txt P w K mg base C) {f : Addr} {fd : FuncData} (F : Fun K "left_open" "Meeting.left_open" st_Meeting_left_open f fd) : FnOk P w K mg base (L2.CX P w) 1 f fd ["self"] (spS (gx K C) g_Meeting_left_open) ∧ Binds K fd ["self"] [] :=
  ⟨fn_of_body F sc_Meeting_left_open (B_Meeting_left_open T) gRun_len (fun ds π h => gRun_sem h), F.binds fun _ _ _ _ _ _ us hl => match us, hl with | [_], _ => rfl⟩
theorem M_Meeting_left_open (T : Txt P w K mg base C) : MtC P w (gx K C) mg base 1 1 "left_open" (spS (gx K C) g_Meeting_left_open) := by
  obtain ⟨f, fd, F, M⟩ := T.mt_Meeting_left_open
  exact ⟨f, fd, ["self"], T.cl_1, M, (F_Meeting_left_open T F).1, (F_Meeting_left_open T F).2, (by decide +kernel : ("left_open" : Str) ∉ fl79 1)⟩
abbrev N_led_by : List Str := ["meeting"]
theorem sc_led_by : FnScope N_led_by ["meeting"] (defScope st_led_by) := ⟨rfl, rfl, rfl, by decide +kernel, rfl, by decide +kernel, by decide +kernel⟩
noncomputable def fs_led_by : SS := (sRet (eFn fTup (aCons (eUnS (dFld 0 0) (eUnS (dFld 1 0) (eV 0))) (aCons (eUnS (dFld 0 1) (eUnS (dFld 1 0) (eV 0))) (aCons (eUnS (dFld 1 1) (eV 0)) (aCons (eUnS (dFld 1 2) (eV 0)) aNil))))))
noncomputable def g_led_by : List D → Store → Res (D × Store) := gRun fs_led_by 1 1
theorem B_led_by (T : Txt P w K mg base C) : Body P w K mg base N_led_by "led_by" (defScope st_led_by) (gx K C) 0 (defBody st_led_by) fs_led_by := fun f cdv A outer s H E M ι π hr => (ss_one (s_ret (x_tup (xa_cons (x_fld T.f_0_0 (x_fld T.f_1_0 (x_var 0))) (xa_cons (x_fld T.f_0_1 (x_fld T.f_1_0 (x_var 0))) (xa_cons (x_fld T.f_1_1 (x_var 0)) (xa_cons (x_fld T.f_1_2 (x_var 0)) xa_nil)))))))
theorem D_led_by (T : Txt P w K mg base C) : Df P w K mg base 1 "led_by" [] (spS (gx K C) g_led_by) :=
  df_of (G := gx K C) T.fn_led_by sc_led_by (fun _ _ _ _ _ _ us hl => match us, hl with | [_], _ => rfl) (B_led_by T) gRun_len (fun ds π h => gRun_sem h)
abbrev N_Hall___eq__ : List Str := ["self", "other"]
theorem sc_Hall___eq__ : FnScope N_Hall___eq__ ["self", "other"] (defScope st_Hall___eq__) := ⟨rfl, rfl, rfl, by decide +kernel, rfl, by decide +kernel, by decide +kernel⟩
noncomputable def fs_Hall___eq__ : SS := (sRet (eAnd (eUnS (dIsC 0 [1]) (eV 1)) (eOp dEq (eCall g_parts_of (aCons (eV 0) aNil)) (eCall g_parts_of (aCons (eV 1) aNil)))))
noncomputable def g_Hall___eq__ : List D → Store → Res (D × Store) := gRun fs_Hall___eq__ 2 2
theorem B_Hall___eq__ (T : Txt P w K mg base C) : Body P w K mg base N_Hall___eq__ "Hall.__eq__" (defScope st_Hall___eq__) (gx K C) 1 (defBody st_Hall___eq__) fs_Hall___eq__ := fun f cdv A outer s H E M ι π hr => (ss_one (s_ret (x_and (x_isC T.is_Hall T.b_isinstance T.m_Hall (x_var 1)) (x_one (x_cmp (op_eqB hr.units) od_eq (x_call_ (D_parts_of T) (hr.mono (by decide)) passD (xa_cons (x_var 0) xa_nil)) (x_call_ (D_parts_of T) (hr.mono (by decide)) passD (xa_cons (x_var 1) xa_nil)) (nomark _))))))
theorem F_Hall___eq__ (T : Txt P w K mg base C) {f : Addr} {fd : FuncData} (F : Fun K "__eq__" "Hall.__eq__" st_Hall___eq__ f fd) : FnOk P w K mg base (L2.CX P w) 2 f fd ["self", "other"] (spS (gx K C) g_Hall___eq__) ∧ Binds K fd ["self", "other"] [] :=
  ⟨fn_of_body F sc_Hall___eq__ (B_Hall___eq__ T) gRun_len (fun ds π h => gRun_sem h), F.binds fun _ _ _ _ _ _ us hl => match us, hl with | [_, _], _ => rfl⟩
theorem M_Hall___eq__ (T : Txt P w K mg base C) : MtC P w (gx K C) mg base 2 0 "__eq__" (spS (gx K C) g_Hall___eq__) := by
  obtain ⟨f, fd, F, M⟩ := T.mt_Hall___eq__
  exact ⟨f, fd, ["self", "other"], T.cl_0, M, (F_Hall___eq__ T F).1, (F_Hall___eq__ T F).2, (by decide +kernel : ("__eq__" : Str) ∉ fl79 0)⟩
abbrev N_Meeting___eq__ : List Str := ["self", "other"]
theorem sc_Meeting___eq__ : FnScope N_Meeting___eq__ ["self", "other"] (defScope st_Meeting___eq__) := ⟨rfl, rfl, rfl, by decide +kernel, rfl, by decide +kernel, by decide +kernel⟩
noncomputable def fs_Meeting___eq__ : SS := (sRet (eAnd (eUnS (dIsC 1 [0]) (eV 1)) (eOp dEq (eCall g_led_by (aCons (eV 0) aNil)) (eCall g_led_by (aCons (eV 1) aNil)))))
noncomputable def g_Meeting___eq__ : List D → Store → Res (D × Store) := gRun fs_Meeting___eq__ 2 2
theorem B_Meeting___eq__ (T : Txt P w K mg base C) : Body P w K mg base N_Meeting___eq__ "Meeting.__eq__" (defScope st_Meeting___eq__) (gx K C) 1 (defBody st_Meeting___eq__) fs_Meeting___eq__ := fun f cdv A outer s H E M ι π hr => (ss_one (s_ret (x_and (x_isC T.is_Meeting T.b_isinstance T.m_Meeting (x_var 1)) (x_one (x_cmp (op_eqB hr.units) od_eq (x_call_ (D_led_by T) (hr.mono (by decide)) passD (xa_cons (x_var 0) xa_nil)) (x_call_ (D_led_by T) (hr.mono (by decide)) passD (xa_cons (x_var 1) xa_nil)) (nomark _))))))
theorem F_Meeting___eq__ (T : Txt P w K mg base C) {f : Addr} {fd : FuncData} (F : Fun K "__eq__" "Meeting.__eq__" st_Meeting___eq__ f fd) : FnOk P w K mg base (L2.CX P w) 2 f fd ["self", "other"] (spS (gx K C) g_Meeting___eq__) ∧ Binds K fd ["self", "other"] [] :=
  ⟨fn_of_body F sc_Meeting___eq__ (B_Meeting___eq__ T) gRun_len (fun ds π h => gRun_sem h), F.binds fun _ _ _ _ _ _ us hl => match us, hl with | [_, _], _ => rfl⟩
theorem M_Meeting___eq__ (T : Txt P w K mg base C) : MtC P w (gx K C) mg base 2 1 "__eq__" (spS (gx K C) g_Meeting___eq__) := by
  obtain ⟨f, fd, F, M⟩ := T.mt_Meeting___eq__
  exact ⟨f, fd, ["self", "other"], T.cl_1, M, (F_Meeting___eq__ T F).1, (F_Meeting___eq__ T F).2, (by decide +kernel : ("__eq__" : Str) ∉ fl79 1)⟩
abbrev N__law_pool : List Str := ["script", "turn", "own", "stirred", "cell"]
theorem sc__law_pool : FnScope N__law_pool ["script", "turn"] (defScope st__law_pool) := ⟨rfl, rfl, rfl, by decide +kernel, rfl, by decide +kernel, by decide +kernel⟩
noncomputable def fs__law_pool : SS := (sSeq (sPar 2 3 (aCons (eIf (tB (eOp dLt (eV 1) (eFn fLen (aCons (eV 0) aNil)))) (eFn fInt (aCons (eOp dIx (eV 0) (eV 1)) aNil)) (eOp dAdd (eOp dMul (eC (.int 70001)) (eV 1)) (eC (.int 89)))) (aCons (eOp dAdd (eC (.int 60013)) (eOp dMul (eC (.int 5003)) (eV 1))) aNil)))
    (sSeq (sFor (iL (eSl (eV 0) oNone (oSome (eC (.int 6))))) (gN 4) (sSet 3 (eOp dMod (eFn fInt (aCons (eOp dAdd (eOp dAdd (eOp dMul (eV 3) (eC (.int 48271))) (eOp dMod (eFn fInt (aCons (eV 4) aNil)) (eC (.int 2147482937)))) (eC (.int 43))) aNil)) (eC (.int 2147482937)))))
    (sRet (eNewL (aCons (eOp dMod (eFn fInt (aCons (eOp dAdd (eV 3) (eOp dMul (eV 2) (eC (.int 1033)))) aNil)) (eC (.int 2147482937))) (aCons (eIf (tOr (tB (eOp dLt (eV 2) (eC (.int 0)))) (tB (eOp dGe (eV 2) (eOp dPow (eC (.int 10)) (eC (.int 18)))))) (eFn fAbs (aCons (eV 2) aNil)) (eC (.int 0))) (aCons (eC (.int 0)) aNil)))))))
noncomputable def g__law_pool : List D → Store → Res (D × Store) := gRun fs__law_pool 2 5
theorem B__law_pool (T : Txt P w K mg base C) : Body P w K mg base N__law_pool "_law_pool" (defScope st__law_pool) (gx K C) 0 (defBody st__law_pool) fs__law_pool := fun f cdv A outer s H E M ι π hr => (ss_cons (s_par (i := 2) (j := 3) rfl sc__law_pool.nd (xa_cons (x_if (xt_cmp op_lt od_lt (x_var 1) (x_callB call_len fd_len nx_len T.b_len (by decide +kernel) (xa_cons (x_var 0) xa_nil)) (nomark _)) (x_callT call_int1 fd_int nx_int T.b_int (by decide +kernel) (xa_cons (x_ix ix_seq od_ix (x_var 0) (x_var 1)) xa_nil)) (x_op op_addD od_add (x_op op_mulD od_mul x_int (x_var 1)) x_int)) (xa_cons (x_op op_addD od_add x_int (x_op op_mulD od_mul x_int (x_var 1))) xa_nil)))
      (ss_cons (s_for ownD rfl (xi_list rfl (x_slice (x_var 0) xo_none (xo_some x_int))) (xg_name sc__law_pool.nd) (ss_one (s_set (i := 3) sc__law_pool.nd (x_op op_mod od_mod (x_callT call_int1 fd_int nx_int T.b_int (by decide +kernel) (xa_cons (x_op op_addD od_add (x_op op_addD od_add (x_op op_mulD od_mul (x_var 3) x_int) (x_op op_mod od_mod (x_callT call_int1 fd_int nx_int T.b_int (by decide +kernel) (xa_cons (x_var 4) xa_nil)) x_int)) x_int) xa_nil)) x_int))))
      (ss_one (s_ret (x_newL (xa_cons (x_op op_mod od_mod (x_callT call_int1 fd_int nx_int T.b_int (by decide +kernel) (xa_cons (x_op op_addD od_add (x_var 3) (x_op op_mulD od_mul (x_var 2) x_int)) xa_nil)) x_int) (xa_cons (x_if (xt_w (xw_or (xt_cmp op_lt od_lt (x_var 2) x_int (nomark _)) (xw_or1 (xt_cmp op_ge od_ge (x_var 2) (x_op op_pow od_pow x_int x_int) (nomark _))))) (x_callB call_abs fd_abs nx_abs T.b_abs (by decide +kernel) (xa_cons (x_var 2) xa_nil)) x_int) (xa_cons x_int xa_nil))))))))
theorem D__law_pool (T : Txt P w K mg base C) : Df P w K mg base 1 "_law_pool" [] (spS (gx K C) g__law_pool) :=
  df_of (G := gx K C) T.fn__law_pool sc__law_pool (fun _ _ _ _ _ _ us hl => match us, hl with | [_, _], _ => rfl) (B__law_pool T) gRun_len (fun ds π h => gRun_sem h)
abbrev N__law_draw : List Str := ["pool", "many", "figure", "held"]
theorem sc__law_draw : FnScope N__law_draw ["pool", "many"] (defScope st__law_draw) := ⟨rfl, rfl, rfl, by decide +kernel, rfl, by decide +kernel, by decide +kernel⟩
noncomputable def fs__law_draw : SS := (sSeq (sIf (tB (eOp dGt (eOpL dIx (eV 0) (eC (.int 1))) (eC (.int 0)))) (sSeq (sAsg (gPair (gSetL (eV 0) (eC (.int 1))) (gN 2)) (eFn fDivmod (aCons (eOpL dIx (eV 0) (eC (.int 1))) (aCons (eV 1) aNil))))
    (sRet (eV 2))) sNil)
    (sSeq (sAsg (gSetL (eV 0) (eC (.int 2))) (eOp dAdd (eOpL dIx (eV 0) (eC (.int 2))) (eC (.int 1))))
    (sSeq (sSet 3 (eFn fInt (aCons (eOpL dIx (eV 0) (eC (.int 0))) aNil)))
    (sSeq (sAsg (gSetL (eV 0) (eC (.int 0))) (eOp dMod (eFn fInt (aCons (eOp dAdd (eOp dAdd (eOp dMul (eV 3) (eOp dAdd (eOp dMod (eV 3) (eC (.int 20011))) (eC (.int 30011)))) (eOp dMul (eC (.int 70001)) (eOpL dIx (eV 0) (eC (.int 2))))) (eC (.int 9))) aNil)) (eC (.int 2147482937))))
    (sRet (eOp dMod (eFn fInt (aCons (eOp dFdiv (eOpL dIx (eV 0) (eC (.int 0))) (eC (.int 128))) aNil)) (eV 1)))))))
noncomputable def g__law_draw : List D → Store → Res (D × Store) := gRun fs__law_draw 2 4
theorem B__law_draw (T : Txt P w K mg base C) : Body P w K mg base N__law_draw "_law_draw" (defScope st__law_draw) (gx K C) 0 (defBody st__law_draw) fs__law_draw := fun f cdv A outer s H E M ι π hr => (ss_cons (s_if (xt_cmp op_gt od_gt (x_ixL ix_seq od_ix (x_var 0) x_int) x_int (nomark _)) (ss_cons (s_asg (x_callB call_divmod fd_divmod nx_divmod T.b_divmod (by decide +kernel) (xa_cons (x_ixL ix_seq od_ix (x_var 0) x_int) (xa_cons (x_var 1) xa_nil))) (xg_pair rfl rfl (xg_setL (js := []) (x_var 0) x_int) (xg_name sc__law_draw.nd)))
      (ss_one (s_ret (x_var 2)))) ss_nil)
      (ss_cons (s_asg (x_op op_addD od_add (x_ixL ix_seq od_ix (x_var 0) x_int) x_int) (xg_setL (js := []) (x_var 0) x_int))
      (ss_cons (s_set (i := 3) sc__law_draw.nd (x_callT call_int1 fd_int nx_int T.b_int (by decide +kernel) (xa_cons (x_ixL ix_seq od_ix (x_var 0) x_int) xa_nil)))
      (ss_cons (s_asg (x_op op_mod od_mod (x_callT call_int1 fd_int nx_int T.b_int (by decide +kernel) (xa_cons (x_op op_addD od_add (x_op op_addD od_add (x_op op_mulD od_mul (x_var 3) (x_op op_addD od_add (x_op op_mod od_mod (x_var 3) x_int) x_int)) (x_op op_mulD od_mul x_int (x_ixL ix_seq od_ix (x_var 0) x_int))) x_int) xa_nil)) x_int) (xg_setL (js := []) (x_var 0) x_int))
      (ss_one (s_ret (x_op op_mod od_mod (x_callT call_int1 fd_int nx_int T.b_int (by decide +kernel) (xa_cons (x_op op_fdivW od_fdiv (x_ixL ix_seq od_ix (x_var 0) x_int) x_int) xa_nil)) (x_var 1))))))))
theorem D__law_draw (T : Txt P w K mg base C) : Df P w K mg base 1 "_law_draw" [] (spS (gx K C) g__law_draw) :=
  df_of (G := gx K C) T.fn__law_draw sc__law_draw (fun _ _ _ _ _ _ us hl => match us, hl with | [_, _], _ => rfl) (B__law_draw T) gRun_len (fun ds π h => gRun_sem h)
abbrev N__law_pick : List Str := ["pool", "some"]
theorem sc__law_pick : FnScope N__law_pick ["pool", "some"] (defScope st__law_pick) := ⟨rfl, rfl, rfl, by decide +kernel, rfl, by decide +kernel, by decide +kernel⟩
noncomputable def fs__law_pick : SS := (sRet (eOp dIx (eV 1) (eCall g__law_draw (aCons (eV 0) (aCons (eFn fLen (aCons (eV 1) aNil)) aNil)))))
noncomputable def g__law_pick : List D → Store → Res (D × Store) := gRun fs__law_pick 2 2
theorem B__law_pick (T : Txt P w K mg base C) : Body P w K mg base N__law_pick "_law_pick" (defScope st__law_pick) (gx K C) 1 (defBody st__law_pick) fs__law_pick := fun f cdv A outer s H E M ι π hr => (ss_one (s_ret (x_ix ix_seq od_ix (x_var 1) (x_call_ (D__law_draw T) (hr.mono (by decide)) passD (xa_cons (x_var 0) (xa_cons (x_callB call_len fd_len nx_len T.b_len (by decide +kernel) (xa_cons (x_var 1) xa_nil)) xa_nil))))))
theorem D__law_pick (T : Txt P w K mg base C) : Df P w K mg base 2 "_law_pick" [] (spS (gx K C) g__law_pick) :=
  df_of (G := gx K C) T.fn__law_pick sc__law_pick (fun _ _ _ _ _ _ us hl => match us, hl with | [_, _], _ => rfl) (B__law_pick T) gRun_len (fun ds π h => gRun_sem h)
abbrev N__law_cut : List Str := ["above", "below", "one", "other"]
theorem sc__law_cut : FnScope N__law_cut ["above", "below"] (defScope st__law_cut) := ⟨rfl, rfl, rfl, by decide +kernel, rfl, by decide +kernel, by decide +kernel⟩
noncomputable def fs__law_cut : SS := (sSeq (sPar 2 3 (aCons (eFn fAbs (aCons (eV 0) aNil)) (aCons (eV 1) aNil)))
    (sSeq (sWhile (tB (eOp dGt (eV 3) (eC (.int 0)))) (sPar 2 3 (aCons (eV 3) (aCons (eOp dMod (eFn fInt (aCons (eV 2) aNil)) (eFn fInt (aCons (eV 3) aNil))) aNil))))
    (sRet (eFn fTup (aCons (eOp dFdiv (eV 0) (eV 2)) (aCons (eOp dFdiv (eV 1) (eV 2)) aNil))))))
noncomputable def g__law_cut : List D → Store → Res (D × Store) := gRun fs__law_cut 2 4
theorem B__law_cut (T : Txt P w K mg base C) : Body P w K mg base N__law_cut "_law_cut" (defScope st__law_cut) (gx K C) 0 (defBody st__law_cut) fs__law_cut := fun f cdv A outer s H E M ι π hr => (ss_cons (s_par (i := 2) (j := 3) rfl sc__law_cut.nd (xa_cons (x_callB call_abs fd_abs nx_abs T.b_abs (by decide +kernel) (xa_cons (x_var 0) xa_nil)) (xa_cons (x_var 1) xa_nil)))
      (ss_cons (s_while ownD (xt_cmp op_gt od_gt (x_var 3) x_int (nomark _)) (ss_one (s_par (i := 2) (j := 3) rfl sc__law_cut.nd (xa_cons (x_var 3) (xa_cons (x_op op_mod od_mod (x_callT call_int1 fd_int nx_int T.b_int (by decide +kernel) (xa_cons (x_var 2) xa_nil)) (x_callT call_int1 fd_int nx_int T.b_int (by decide +kernel) (xa_cons (x_var 3) xa_nil))) xa_nil)))))
      (ss_one (s_ret (x_tup (xa_cons (x_op op_fdivW od_fdiv (x_var 0) (x_var 2)) (xa_cons (x_op op_fdivW od_fdiv (x_var 1) (x_var 2)) xa_nil)))))))
theorem D__law_cut (T : Txt P w K mg base C) : Df P w K mg base 1 "_law_cut" [] (spS (gx K C) g__law_cut) :=
  df_of (G := gx K C) T.fn__law_cut sc__law_cut (fun _ _ _ _ _ _ us hl => match us, hl with | [_, _], _ => rfl) (B__law_cut T) gRun_len (fun ds π h => gRun_sem h)
abbrev N__law_plus : List Str := ["one", "other"]
theorem sc__law_plus : FnScope N__law_plus ["one", "other"] (defScope st__law_plus) := ⟨rfl, rfl, rfl, by decide +kernel, rfl, by decide +kernel, by decide +kernel⟩
noncomputable def fs__law_plus : SS := (sRet (eCall g__law_cut (aCons (eOp dAdd (eOp dMul (eOp dIx (eV 0) (eC (.int 0))) (eOp dIx (eV 1) (eC (.int 1)))) (eOp dMul (eOp dIx (eV 1) (eC (.int 0))) (eOp dIx (eV 0) (eC (.int 1))))) (aCons (eOp dMul (eOp dIx (eV 0) (eC (.int 1))) (eOp dIx (eV 1) (eC (.int 1)))) aNil))))
noncomputable def g__law_plus : List D → Store → Res (D × Store) := gRun fs__law_plus 2 2
theorem B__law_plus (T : Txt P w K mg base C) : Body P w K mg base N__law_plus "_law_plus" (defScope st__law_plus) (gx K C) 1 (defBody st__law_plus) fs__law_plus := fun f cdv A outer s H E M ι π hr => (ss_one (s_ret (x_call_ (D__law_cut T) (hr.mono (by decide)) passD (xa_cons (x_op op_addD od_add (x_op op_mulD od_mul (x_ix ix_seq od_ix (x_var 0) x_int) (x_ix ix_seq od_ix (x_var 1) x_int)) (x_op op_mulD od_mul (x_ix ix_seq od_ix (x_var 1) x_int) (x_ix ix_seq od_ix (x_var 0) x_int))) (xa_cons (x_op op_mulD od_mul (x_ix ix_seq od_ix (x_var 0) x_int) (x_ix ix_seq od_ix (x_var 1) x_int)) xa_nil)))))
theorem D__law_plus (T : Txt P w K mg base C) : Df P w K mg base 2 "_law_plus" [] (spS (gx K C) g__law_plus) :=
  df_of (G := gx K C) T.fn__law_plus sc__law_plus (fun _ _ _ _ _ _ us hl => match us, hl with | [_, _], _ => rfl) (B__law_plus T) gRun_len (fun ds π h => gRun_sem h)
abbrev N__law_over : List Str := ["one", "other"]
theorem sc__law_over : FnScope N__law_over ["one", "other"] (defScope st__law_over) := ⟨rfl, rfl, rfl, by decide +kernel, rfl, by decide +kernel, by decide +kernel⟩
noncomputable def fs__law_over : SS := (sRet (eCall g__law_cut (aCons (eOp dMul (eOp dIx (eV 0) (eC (.int 0))) (eOp dIx (eV 1) (eC (.int 1)))) (aCons (eOp dMul (eOp dIx (eV 0) (eC (.int 1))) (eOp dIx (eV 1) (eC (.int 0)))) aNil))))
noncomputable def g__law_over : List D → Store → Res (D × Store) := gRun fs__law_over 2 2
theorem B__law_over (T : Txt P w K mg base C) : Body P w K mg base N__law_over "_law_over" (defScope st__law_over) (gx K C) 1 (defBody st__law_over) fs__law_over := fun f cdv A outer s H E M ι π hr => (ss_one (s_ret (x_call_ (D__law_cut T) (hr.mono (by decide)) passD (xa_cons (x_op op_mulD od_mul (x_ix ix_seq od_ix (x_var 0) x_int) (x_ix ix_seq od_ix (x_var 1) x_int)) (xa_cons (x_op op_mulD od_mul (x_ix ix_seq od_ix (x_var 0) x_int) (x_ix ix_seq od_ix (x_var 1) x_int)) xa_nil)))))
theorem D__law_over (T : Txt P w K mg base C) : Df P w K mg base 2 "_law_over" [] (spS (gx K C) g__law_over) :=
  df_of (G := gx K C) T.fn__law_over sc__law_over (fun _ _ _ _ _ _ us hl => match us, hl with | [_, _], _ => rfl) (B__law_over T) gRun_len (fun ds π h => gRun_sem h)
abbrev N__law_sum : List Str := ["some", "total", "own"]
theorem sc__law_sum : FnScope N__law_sum ["some"] (defScope st__law_sum) := ⟨rfl, rfl, rfl, by decide +kernel, rfl, by decide +kernel, by decide +kernel⟩
noncomputable def fs__law_sum : SS := (sSeq (sSet 1 (eFn fTup (aCons (eC (.int 0)) (aCons (eC (.int 1)) aNil))))
    (sSeq (sFor (iS (eV 0)) (gN 2) (sSet 1 (eCall g__law_plus (aCons (eV 1) (aCons (eV 2) aNil)))))
    (sRet (eV 1))))
noncomputable def g__law_sum : List D → Store → Res (D × Store) := gRun fs__law_sum 1 3
theorem B__law_sum (T : Txt P w K mg base C) : Body P w K mg base N__law_sum "_law_sum" (defScope st__law_sum) (gx K C) 2 (defBody st__law_sum) fs__law_sum := fun f cdv A outer s H E M ι π hr => (ss_cons (s_set (i := 1) sc__law_sum.nd (x_tup (xa_cons x_int (xa_cons x_int xa_nil))))
      (ss_cons (s_for ownD rfl (xi_seq rfl (x_var 0)) (xg_name sc__law_sum.nd) (ss_one (s_set (i := 1) sc__law_sum.nd (x_call_ (D__law_plus T) (hr.mono (by decide)) passD (xa_cons (x_var 1) (xa_cons (x_var 2) xa_nil))))))
      (ss_one (s_ret (x_var 1)))))
theorem D__law_sum (T : Txt P w K mg base C) : Df P w K mg base 3 "_law_sum" [] (spS (gx K C) g__law_sum) :=
  df_of (G := gx K C) T.fn__law_sum sc__law_sum (fun _ _ _ _ _ _ us hl => match us, hl with | [_], _ => rfl) (B__law_sum T) gRun_len (fun ds π h => gRun_sem h)
abbrev N__law_parted : List Str := ["pool", "cases", "rows", "case", "way", "k"]
theorem sc__law_parted : FnScope N__law_parted ["pool", "cases"] (defScope st__law_parted) := ⟨rfl, rfl, rfl, by decide +kernel, rfl, by decide +kernel, by decide +kernel⟩
noncomputable def fs__law_parted : SS := (sSeq (sSet 2 (eNewL aNil))
    (sSeq (sFor (iR rng1 (aCons (eV 1) aNil)) (gN 3) (sSeq (sSet 4 (eCall g__law_draw (aCons (eV 0) (aCons (eC (.int 3)) aNil))))
    (sIf (tAnd (tB (eOpL dNe (eV 2) (eFn fLst aNil))) (tB (eOp dGt (eV 4) (eC (.int 0))))) (sSeq (sSet 5 (eCall g__law_draw (aCons (eV 0) (aCons (eFnL fLen (aCons (eV 2) aNil)) aNil))))
    (sAsg (gSetL (eV 2) (eV 5)) (eOp dAdd (eOpL dIx (eV 2) (eV 5)) (eFn fTup (aCons (eV 3) aNil))))) (sExpr (eApp (eV 2) (eFn fTup (aCons (eV 3) aNil)))))))
    (sRet (eV 2))))
noncomputable def g__law_parted : List D → Store → Res (D × Store) := gRun fs__law_parted 2 6
theorem B__law_parted (T : Txt P w K mg base C) : Body P w K mg base N__law_parted "_law_parted" (defScope st__law_parted) (gx K C) 1 (defBody st__law_parted) fs__law_parted := fun f cdv A outer s H E M ι π hr => (ss_cons (s_set (i := 2) sc__law_parted.nd (x_newL xa_nil))
      (ss_cons (s_for ownD rfl (xi_range1 T.b_range (xa_cons (x_var 1) xa_nil)) (xg_name sc__law_parted.nd) (ss_cons (s_set (i := 4) sc__law_parted.nd (x_call_ (D__law_draw T) (hr.mono (by decide)) passD (xa_cons (x_var 0) (xa_cons x_int xa_nil))))
      (ss_one (s_if (xt_w (xw_and (xt_cmpL (op_neB hr.units) od_ne (x_var 2) (x_lst xa_nil) (nomark _)) (xw_and1 (xt_cmp op_gt od_gt (x_var 4) x_int (nomark _))))) (ss_cons (s_set (i := 5) sc__law_parted.nd (x_call_ (D__law_draw T) (hr.mono (by decide)) passD (xa_cons (x_var 0) (xa_cons (x_callBL call_len fd_len nx_len T.b_len (by decide +kernel) (xa_cons (x_var 2) xa_nil)) xa_nil))))
      (ss_one (s_asg (x_op op_addD od_add (x_ixL ix_seq od_ix (x_var 2) (x_var 5)) (x_tup (xa_cons (x_var 3) xa_nil))) (xg_setL (js := []) (x_var 2) (x_var 5))))) (ss_one (s_expr (x_app (x_var 2) (x_tup (xa_cons (x_var 3) xa_nil)))))))))
      (ss_one (s_ret (x_var 2)))))
theorem D__law_parted (T : Txt P w K mg base C) : Df P w K mg base 2 "_law_parted" [] (spS (gx K C) g__law_parted) :=
  df_of (G := gx K C) T.fn__law_parted sc__law_parted (fun _ _ _ _ _ _ us hl => match us, hl with | [_, _], _ => rfl) (B__law_parted T) gRun_len (fun ds π h => gRun_sem h)
abbrev N__law_hall : List Str := ["pool", "most", "cases", "tellings", "heavy", "odd", "person", "parts", "lot", "own", "case", "each"]
theorem sc__law_hall : FnScope N__law_hall ["pool", "most"] (defScope st__law_hall) := ⟨rfl, rfl, rfl, by decide +kernel, rfl, by decide +kernel, by decide +kernel⟩
noncomputable def fs__law_hall : SS := (sSeq (sPar 2 3 (aCons (eOp dAdd (eC (.int 2)) (eCall g__law_draw (aCons (eV 0) (aCons (eOp dSub (eV 1) (eC (.int 1))) aNil)))) (aCons (eFn fTup aNil) aNil)))
    (sSeq (sSet 4 (eLc (iR rng1 (aCons (eV 2) aNil)) [10] (gN 10) tYesD (eOp dAdd (eC (.int 1)) (eCall g__law_draw (aCons (eV 0) (aCons (eC (.int 4)) aNil))))))
    (sSeq (sSet 5 (eOp dEq (eCall g__law_draw (aCons (eV 0) (aCons (eC (.int 2)) aNil))) (eC (.int 0))))
    (sSeq (sFor (iR rng1 (aCons (eCall g__law_pick (aCons (eV 0) (aCons (eFn fLst (aCons (eC (.int 1)) (aCons (eC (.int 2)) (aCons (eC (.int 2)) (aCons (eC (.int 3)) aNil))))) aNil))) aNil)) (gN 6) (sSeq (sSet 7 (eFn fTup aNil))
    (sSeq (sFor (iS (eFrz (eCall g__law_parted (aCons (eV 0) (aCons (eV 2) aNil))))) (gN 8) (sSeq (sSet 9 (eLc (iS (eV 8)) [10] (gN 10) tYesD (eIf (tAnd (tB (eV 5)) (tB (eOp dEq (eCall g__law_draw (aCons (eV 0) (aCons (eC (.int 3)) aNil))) (eC (.int 0))))) (eOp dAdd (eC (.int 1)) (eCall g__law_draw (aCons (eV 0) (aCons (eC (.int 3)) aNil)))) (eOp dIx (eV 4) (eV 10)))))
    (sSet 7 (eOp dAdd (eV 7) (eFn fTup (aCons (eFn fTup (aCons (eV 8) (aCons (eFn fTuple (aCons (eLc (iS (eV 9)) [11] (gN 11) tYesD (eCall g__law_cut (aCons (eV 11) (aCons (eFn fSum (aCons (eV 9) aNil)) aNil)))) aNil)) aNil))) aNil))))))
    (sSet 3 (eOp dAdd (eV 3) (eFn fTup (aCons (eV 7) aNil)))))))
    (sRet (eFn fTup (aCons (eV 2) (aCons (eV 3) aNil))))))))
noncomputable def g__law_hall : List D → Store → Res (D × Store) := gRun fs__law_hall 2 12
theorem B__law_hall (T : Txt P w K mg base C) : Body P w K mg base N__law_hall "_law_hall" (defScope st__law_hall) (gx K C) 2 (defBody st__law_hall) fs__law_hall := fun f cdv A outer s H E M ι π hr => (ss_cons (s_par (i := 2) (j := 3) rfl sc__law_hall.nd (xa_cons (x_op op_addD od_add x_int (x_call_ (D__law_draw T) (hr.mono (by decide)) passD (xa_cons (x_var 0) (xa_cons (x_op op_sub od_sub (x_var 1) x_int) xa_nil)))) (xa_cons (x_tup xa_nil) xa_nil)))
      (ss_cons (s_set (i := 4) sc__law_hall.nd (x_lc (own := [("case", 10)]) rfl sc__law_hall.nd (xi_range1 T.b_range (xa_cons (x_var 2) xa_nil)) (blkOk_by (own := [("case", 10)]) (N := N__law_hall) (sc := defScope st__law_hall) (by decide +kernel)) (fun _ _ _ _ _ _ => (xg_name sc__law_hall.nd)) (fun _ _ _ _ _ _ => xs_nil) (fun _ _ _ _ _ _ => (x_op op_addD od_add x_int (x_call_ (D__law_draw T) (hr.mono (by decide)) passL (xa_cons (x_var 0) (xa_cons x_int xa_nil)))))))
      (ss_cons (s_set (i := 5) sc__law_hall.nd (x_cmp (op_eqB hr.units) od_eq (x_call_ (D__law_draw T) (hr.mono (by decide)) passD (xa_cons (x_var 0) (xa_cons x_int xa_nil))) x_int (nomark _)))
      (ss_cons (s_for ownD rfl (xi_range1 T.b_range (xa_cons (x_call_ (D__law_pick T) (hr.mono (by decide)) passD (xa_cons (x_var 0) (xa_cons (x_lst (xa_cons x_int (xa_cons x_int (xa_cons x_int (xa_cons x_int xa_nil))))) xa_nil))) xa_nil)) (xg_name sc__law_hall.nd) (ss_cons (s_set (i := 7) sc__law_hall.nd (x_tup xa_nil))
      (ss_cons (s_for ownD rfl (xi_seq rfl (x_frz (x_call_ (D__law_parted T) (hr.mono (by decide)) passD (xa_cons (x_var 0) (xa_cons (x_var 2) xa_nil))))) (xg_name sc__law_hall.nd) (ss_cons (s_set (i := 9) sc__law_hall.nd (x_lc (own := [("case", 10)]) rfl sc__law_hall.nd (xi_seq rfl (x_var 8)) (blkOk_by (own := [("case", 10)]) (N := N__law_hall) (sc := defScope st__law_hall) (by decide +kernel)) (fun _ _ _ _ _ _ => (xg_name sc__law_hall.nd)) (fun _ _ _ _ _ _ => xs_nil) (fun _ _ _ _ _ _ => (x_if (xt_w (xw_and (xt_val (x_var 5)) (xw_and1 (xt_cmp (op_eqB hr.units) od_eq (x_call_ (D__law_draw T) (hr.mono (by decide)) passL (xa_cons (x_var 0) (xa_cons x_int xa_nil))) x_int (nomark _))))) (x_op op_addD od_add x_int (x_call_ (D__law_draw T) (hr.mono (by decide)) passL (xa_cons (x_var 0) (xa_cons x_int xa_nil)))) (x_ix ix_seq od_ix (x_var 4) (x_var 10))))))
      (ss_one (s_set (i := 7) sc__law_hall.nd (x_op op_addD od_add (x_var 7) (x_tup (xa_cons (x_tup (xa_cons (x_var 8) (xa_cons (x_callT call_tupleF fd_tuple nx_tuple T.b_tuple (by decide +kernel) (xa_cons (x_lc (own := [("each", 11)]) rfl sc__law_hall.nd (xi_seq rfl (x_var 9)) (blkOk_by (own := [("each", 11)]) (N := N__law_hall) (sc := defScope st__law_hall) (by decide +kernel)) (fun _ _ _ _ _ _ => (xg_name sc__law_hall.nd)) (fun _ _ _ _ _ _ => xs_nil) (fun _ _ _ _ _ _ => (x_call_ (D__law_cut T) (hr.mono (by decide)) passL (xa_cons (x_var 11) (xa_cons (x_callB (cr_sum rfl) fd_sum nx_sum T.b_sum (by decide +kernel) (xa_cons (x_var 9) xa_nil)) xa_nil))))) xa_nil)) xa_nil))) xa_nil)))))))
      (ss_one (s_set (i := 3) sc__law_hall.nd (x_op op_addD od_add (x_var 3) (x_tup (xa_cons (x_var 7) xa_nil))))))))
      (ss_one (s_ret (x_tup (xa_cons (x_var 2) (xa_cons (x_var 3) xa_nil)))))))))
theorem D__law_hall (T : Txt P w K mg base C) : Df P w K mg base 3 "_law_hall" [] (spS (gx K C) g__law_hall) :=
  df_of (G := gx K C) T.fn__law_hall sc__law_hall (fun _ _ _ _ _ _ us hl => match us, hl with | [_, _], _ => rfl) (B__law_hall T) gRun_len (fun ds π h => gRun_sem h)
abbrev N__law_made : List Str := ["hall"]
theorem sc__law_made : FnScope N__law_made ["hall"] (defScope st__law_made) := ⟨rfl, rfl, rfl, by decide +kernel, rfl, by decide +kernel, by decide +kernel⟩
noncomputable def fs__law_made : SS := (sRet (eFrzI 0 2 (eMake 0 g_Hall___init__ (aCons (eOp dIx (eV 0) (eC (.int 0))) (aCons (eOp dIx (eV 0) (eC (.int 1))) aNil)))))
noncomputable def g__law_made : List D → Store → Res (D × Store) := gRun fs__law_made 1 1
theorem B__law_made (T : Txt P w K mg base C) : Body P w K mg base N__law_made "_law_made" (defScope st__law_made) (gx K C) 13 (defBody st__law_made) fs__law_made := fun f cdv A outer s H E M ι π hr => (ss_one (s_ret (x_frzI (x_make (Mk_Hall T) (hr.mono (by decide)) passD (xa_cons (x_ix ix_seq od_ix (x_var 0) x_int) (xa_cons (x_ix ix_seq od_ix (x_var 0) x_int) xa_nil))) rfl)))
theorem D__law_made (T : Txt P w K mg base C) : Df P w K mg base 14 "_law_made" [] (spS (gx K C) g__law_made) :=
  df_of (G := gx K C) T.fn__law_made sc__law_made (fun _ _ _ _ _ _ us hl => match us, hl with | [_], _ => rfl) (B__law_made T) gRun_len (fun ds π h => gRun_sem h)
abbrev N__law_part : List Str := ["hall", "person", "case", "own"]
theorem sc__law_part : FnScope N__law_part ["hall", "person", "case"] (defScope st__law_part) := ⟨rfl, rfl, rfl, by decide +kernel, rfl, by decide +kernel, by decide +kernel⟩
noncomputable def fs__law_part : SS := (sRet (eOp dIx (eLc (iS (eOp dIx (eOp dIx (eV 0) (eC (.int 1))) (eV 1))) [3] (gN 3) (tB (eOp (dIn false) (eV 2) (eOp dIx (eV 3) (eC (.int 0))))) (eV 3)) (eC (.int 0))))
noncomputable def g__law_part : List D → Store → Res (D × Store) := gRun fs__law_part 3 4
theorem B__law_part (T : Txt P w K mg base C) : Body P w K mg base N__law_part "_law_part" (defScope st__law_part) (gx K C) 0 (defBody st__law_part) fs__law_part := fun f cdv A outer s H E M ι π hr => (ss_one (s_ret (x_ix ix_seq od_ix (x_lc (own := [("own", 3)]) rfl sc__law_part.nd (xi_seq rfl (x_ix ix_seq od_ix (x_ix ix_seq od_ix (x_var 0) x_int) (x_var 1))) (blkOk_by (own := [("own", 3)]) (N := N__law_part) (sc := defScope st__law_part) (by decide +kernel)) (fun _ _ _ _ _ _ => (xg_name sc__law_part.nd)) (fun _ _ _ _ _ _ => (xs_one (xt_cmp op_in_seq od_in (x_var 2) (x_ix ix_seq od_ix (x_var 3) x_int) (by rfl)))) (fun _ _ _ _ _ _ => (x_var 3))) x_int)))
theorem D__law_part (T : Txt P w K mg base C) : Df P w K mg base 1 "_law_part" [] (spS (gx K C) g__law_part) :=
  df_of (G := gx K C) T.fn__law_part sc__law_part (fun _ _ _ _ _ _ us hl => match us, hl with | [_, _, _], _ => rfl) (B__law_part T) gRun_len (fun ds π h => gRun_sem h)
abbrev N__law_told_chance : List Str := ["hall", "person", "case", "lot", "chances"]
theorem sc__law_told_chance : FnScope N__law_told_chance ["hall", "person", "case"] (defScope st__law_told_chance) := ⟨rfl, rfl, rfl, by decide +kernel, rfl, by decide +kernel, by decide +kernel⟩
noncomputable def fs__law_told_chance : SS := (sSeq (sAsg (gT2 3 4) (eCall g__law_part (aCons (eV 0) (aCons (eV 1) (aCons (eV 2) aNil)))))
    (sRet (eOp dIx (eV 4) (eTM dTIdx (eV 3) (eV 2)))))
noncomputable def g__law_told_chance : List D → Store → Res (D × Store) := gRun fs__law_told_chance 3 5
theorem B__law_told_chance (T : Txt P w K mg base C) : Body P w K mg base N__law_told_chance "_law_told_chance" (defScope st__law_told_chance) (gx K C) 1 (defBody st__law_told_chance) fs__law_told_chance := fun f cdv A outer s H E M ι π hr => (ss_cons (s_asg (x_call_ (D__law_part T) (hr.mono (by decide)) passD (xa_cons (x_var 0) (xa_cons (x_var 1) (xa_cons (x_var 2) xa_nil)))) (xg_tup2 rfl rfl sc__law_told_chance.nd))
      (ss_one (s_ret (x_ix ix_seq od_ix (x_var 4) (x_tindex (x_var 3) (x_var 2))))))
theorem D__law_told_chance (T : Txt P w K mg base C) : Df P w K mg base 2 "_law_told_chance" [] (spS (gx K C) g__law_told_chance) :=
  df_of (G := gx K C) T.fn__law_told_chance sc__law_told_chance (fun _ _ _ _ _ _ us hl => match us, hl with | [_, _, _], _ => rfl) (B__law_told_chance T) gRun_len (fun ds π h => gRun_sem h)
abbrev N__law_barred : List Str := ["meeting", "deed", "e"]
theorem sc__law_barred : FnScope N__law_barred ["meeting", "deed"] (defScope st__law_barred) := ⟨rfl, rfl, rfl, by decide +kernel, rfl, by decide +kernel, by decide +kernel⟩
def hs__law_barred : Nat → D → Store → Res Fl := fun c d π => if c = 7 then .ok (.rt d π) else .fail
noncomputable def fs__law_barred : SS := (sSeq (sTry (sExpr (eMeth 1 g_Meeting_do (eV 0) (aCons (eV 1) aNil))) hs__law_barred)
    (sRet (eC (.str ""))))
noncomputable def g__law_barred : List D → Store → Res (D × Store) := gRun fs__law_barred 2 3
theorem B__law_barred (T : Txt P w K mg base C) : Body P w K mg base N__law_barred "_law_barred" (defScope st__law_barred) (gx K C) 8 (defBody st__law_barred) fs__law_barred := fun f cdv A outer s H E M ι π hr =>
  (ss_cons (s_try rfl rfl sc__law_barred.nd takD (fun E' pn xe H ι π tk own => ss_one (s_expr (x_meth (M_Meeting_do T) (hr.mono (by decide)) (passes_call tk fun _ _ _ _ h => h) (x_var 0) (xa_cons (x_var 1) xa_nil))))
      (.named (i := 2) rfl rfl ⟨rfl, by decide, .inl T.m_Barred⟩ (fun a oe cls dx pn hz hf => suite_fld (F := ⟨gx K C, M, H, ι, π⟩) (c := 7) T.xf_7 T.no_7 rfl hz hf rfl (.inl rfl)) .nil)
      (fun D ι π H c d π1 cls dx ι1 H1 σ A h => by
        unfold hs__law_barred at h
        by_cases e : c = 7
        · subst e
          rw [if_pos rfl] at h
          exact ⟨true, by rw [A.cls]; exact T.ex_7_7, fun _ a ha hi => clause_ret A (if_pos rfl) h hi, fun z => nomatch z⟩
        · rw [if_neg e] at h
          exact h.elim))
      (ss_one (s_ret x_str)))
theorem D__law_barred (T : Txt P w K mg base C) : Df P w K mg base 9 "_law_barred" [] (spS (gx K C) g__law_barred) :=
  df_of (G := gx K C) T.fn__law_barred sc__law_barred (fun _ _ _ _ _ _ us hl => match us, hl with | [_, _], _ => rfl) (B__law_barred T) gRun_len (fun ds π h => gRun_sem h)
abbrev N__law_begun : List Str := ["pool", "hall"]
theorem sc__law_begun : FnScope N__law_begun ["pool"] (defScope st__law_begun) := ⟨rfl, rfl, rfl, by decide +kernel, rfl, by decide +kernel, by decide +kernel⟩
noncomputable def fs__law_begun : SS := (sSeq (sSet 1 (eCall g__law_hall (aCons (eV 0) (aCons (eC (.int 5)) aNil))))
    (sRet (eFn fTup (aCons (eV 1) (aCons (eCall g__law_draw (aCons (eV 0) (aCons (eOp dIx (eV 1) (eC (.int 0))) aNil))) (aCons (eFn fTupleRg (aCons (eOp dIx (eV 1) (eC (.int 0))) aNil)) aNil))))))
noncomputable def g__law_begun : List D → Store → Res (D × Store) := gRun fs__law_begun 1 2
theorem B__law_begun (T : Txt P w K mg base C) : Body P w K mg base N__law_begun "_law_begun" (defScope st__law_begun) (gx K C) 3 (defBody st__law_begun) fs__law_begun := fun f cdv A outer s H E M ι π hr => (ss_cons (s_set (i := 1) sc__law_begun.nd (x_call_ (D__law_hall T) (hr.mono (by decide)) passD (xa_cons (x_var 0) (xa_cons x_int xa_nil))))
      (ss_one (s_ret (x_tup (xa_cons (x_var 1) (xa_cons (x_call_ (D__law_draw T) (hr.mono (by decide)) passD (xa_cons (x_var 0) (xa_cons (x_ix ix_seq od_ix (x_var 1) x_int) xa_nil))) (xa_cons (x_tupleRg T.b_tuple T.b_range (x_ix ix_seq od_ix (x_var 1) x_int)) xa_nil)))))))
theorem D__law_begun (T : Txt P w K mg base C) : Df P w K mg base 4 "_law_begun" [] (spS (gx K C) g__law_begun) :=
  df_of (G := gx K C) T.fn__law_begun sc__law_begun (fun _ _ _ _ _ _ us hl => match us, hl with | [_], _ => rfl) (B__law_begun T) gRun_len (fun ds π h => gRun_sem h)
abbrev N__law_lot : List Str := ["pool", "hall", "case"]
theorem sc__law_lot : FnScope N__law_lot ["pool", "hall"] (defScope st__law_lot) := ⟨rfl, rfl, rfl, by decide +kernel, rfl, by decide +kernel, by decide +kernel⟩
noncomputable def fs__law_lot : SS := (sRet (eFn fTuple (aCons (eLc (iR rng1 (aCons (eOp dIx (eV 1) (eC (.int 0))) aNil)) [2] (gN 2) (tB (eOp dEq (eCall g__law_draw (aCons (eV 0) (aCons (eC (.int 2)) aNil))) (eC (.int 0)))) (eV 2)) aNil)))
noncomputable def g__law_lot : List D → Store → Res (D × Store) := gRun fs__law_lot 2 3
theorem B__law_lot (T : Txt P w K mg base C) : Body P w K mg base N__law_lot "_law_lot" (defScope st__law_lot) (gx K C) 1 (defBody st__law_lot) fs__law_lot := fun f cdv A outer s H E M ι π hr => (ss_one (s_ret (x_callT call_tupleF fd_tuple nx_tuple T.b_tuple (by decide +kernel) (xa_cons (x_lc (own := [("case", 2)]) rfl sc__law_lot.nd (xi_range1 T.b_range (xa_cons (x_ix ix_seq od_ix (x_var 1) x_int) xa_nil)) (blkOk_by (own := [("case", 2)]) (N := N__law_lot) (sc := defScope st__law_lot) (by decide +kernel)) (fun _ _ _ _ _ _ => (xg_name sc__law_lot.nd)) (fun _ _ _ _ _ _ => (xs_one (xt_cmp (op_eqB hr.units) od_eq (x_call_ (D__law_draw T) (hr.mono (by decide)) passL (xa_cons (x_var 0) (xa_cons x_int xa_nil))) x_int (nomark _)))) (fun _ _ _ _ _ _ => (x_var 2))) xa_nil))))
theorem D__law_lot (T : Txt P w K mg base C) : Df P w K mg base 2 "_law_lot" [] (spS (gx K C) g__law_lot) :=
  df_of (G := gx K C) T.fn__law_lot sc__law_lot (fun _ _ _ _ _ _ us hl => match us, hl with | [_, _], _ => rfl) (B__law_lot T) gRun_len (fun ds π h => gRun_sem h)
abbrev N__law_sees : List Str := ["hall", "here", "person", "case", "other"]
theorem sc__law_sees : FnScope N__law_sees ["hall", "here", "person", "case"] (defScope st__law_sees) := ⟨rfl, rfl, rfl, by decide +kernel, rfl, by decide +kernel, by decide +kernel⟩
noncomputable def fs__law_sees : SS := (sRet (eFn fTuple (aCons (eLc (iS (eOp dIx (eCall g__law_part (aCons (eV 0) (aCons (eV 2) (aCons (eV 3) aNil)))) (eC (.int 0)))) [4] (gN 4) (tB (eOp (dIn false) (eV 4) (eV 1))) (eV 4)) aNil)))
noncomputable def g__law_sees : List D → Store → Res (D × Store) := gRun fs__law_sees 4 5
theorem B__law_sees (T : Txt P w K mg base C) : Body P w K mg base N__law_sees "_law_sees" (defScope st__law_sees) (gx K C) 1 (defBody st__law_sees) fs__law_sees := fun f cdv A outer s H E M ι π hr => (ss_one (s_ret (x_callT call_tupleF fd_tuple nx_tuple T.b_tuple (by decide +kernel) (xa_cons (x_lc (own := [("other", 4)]) rfl sc__law_sees.nd (xi_seq rfl (x_ix ix_seq od_ix (x_call_ (D__law_part T) (hr.mono (by decide)) passD (xa_cons (x_var 0) (xa_cons (x_var 2) (xa_cons (x_var 3) xa_nil)))) x_int)) (blkOk_by (own := [("other", 4)]) (N := N__law_sees) (sc := defScope st__law_sees) (by decide +kernel)) (fun _ _ _ _ _ _ => (xg_name sc__law_sees.nd)) (fun _ _ _ _ _ _ => (xs_one (xt_cmp op_in_seq od_in (x_var 4) (x_var 1) (by rfl)))) (fun _ _ _ _ _ _ => (x_var 4))) xa_nil))))
theorem D__law_sees (T : Txt P w K mg base C) : Df P w K mg base 2 "_law_sees" [] (spS (gx K C) g__law_sees) :=
  df_of (G := gx K C) T.fn__law_sees sc__law_sees (fun _ _ _ _ _ _ us hl => match us, hl with | [_, _, _, _], _ => rfl) (B__law_sees T) gRun_len (fun ds π h => gRun_sem h)
abbrev N__law_says : List Str := ["hall", "here", "person", "case", "lot", "seen", "whole", "other"]
theorem sc__law_says : FnScope N__law_says ["hall", "here", "person", "case", "lot"] (defScope st__law_says) := ⟨rfl, rfl, rfl, by decide +kernel, rfl, by decide +kernel, by decide +kernel⟩
noncomputable def fs__law_says : SS := (sSeq (sSet 5 (eCall g__law_sees (aCons (eV 0) (aCons (eV 1) (aCons (eV 2) (aCons (eV 3) aNil))))))
    (sSeq (sSet 6 (eCall g__law_sum (aCons (eLc (iS (eV 5)) [7] (gN 7) tYesD (eCall g__law_told_chance (aCons (eV 0) (aCons (eV 2) (aCons (eV 7) aNil))))) aNil)))
    (sRet (eCall g__law_over (aCons (eCall g__law_sum (aCons (eLc (iS (eV 5)) [7] (gN 7) (tB (eOp (dIn false) (eV 7) (eV 4))) (eCall g__law_told_chance (aCons (eV 0) (aCons (eV 2) (aCons (eV 7) aNil))))) aNil)) (aCons (eV 6) aNil))))))
noncomputable def g__law_says : List D → Store → Res (D × Store) := gRun fs__law_says 5 8
theorem B__law_says (T : Txt P w K mg base C) : Body P w K mg base N__law_says "_law_says" (defScope st__law_says) (gx K C) 3 (defBody st__law_says) fs__law_says := fun f cdv A outer s H E M ι π hr => (ss_cons (s_set (i := 5) sc__law_says.nd (x_call_ (D__law_sees T) (hr.mono (by decide)) passD (xa_cons (x_var 0) (xa_cons (x_var 1) (xa_cons (x_var 2) (xa_cons (x_var 3) xa_nil))))))
      (ss_cons (s_set (i := 6) sc__law_says.nd (x_call_ (D__law_sum T) (hr.mono (by decide)) passD (xa_cons (x_lc (own := [("other", 7)]) rfl sc__law_says.nd (xi_seq rfl (x_var 5)) (blkOk_by (own := [("other", 7)]) (N := N__law_says) (sc := defScope st__law_says) (by decide +kernel)) (fun _ _ _ _ _ _ => (xg_name sc__law_says.nd)) (fun _ _ _ _ _ _ => xs_nil) (fun _ _ _ _ _ _ => (x_call_ (D__law_told_chance T) (hr.mono (by decide)) passL (xa_cons (x_var 0) (xa_cons (x_var 2) (xa_cons (x_var 7) xa_nil)))))) xa_nil)))
      (ss_one (s_ret (x_call_ (D__law_over T) (hr.mono (by decide)) passD (xa_cons (x_call_ (D__law_sum T) (hr.mono (by decide)) passD (xa_cons (x_lc (own := [("other", 7)]) rfl sc__law_says.nd (xi_seq rfl (x_var 5)) (blkOk_by (own := [("other", 7)]) (N := N__law_says) (sc := defScope st__law_says) (by decide +kernel)) (fun _ _ _ _ _ _ => (xg_name sc__law_says.nd)) (fun _ _ _ _ _ _ => (xs_one (xt_cmp op_in_seq od_in (x_var 7) (x_var 4) (by rfl)))) (fun _ _ _ _ _ _ => (x_call_ (D__law_told_chance T) (hr.mono (by decide)) passL (xa_cons (x_var 0) (xa_cons (x_var 2) (xa_cons (x_var 7) xa_nil)))))) xa_nil)) (xa_cons (x_var 6) xa_nil)))))))
theorem D__law_says (T : Txt P w K mg base C) : Df P w K mg base 4 "_law_says" [] (spS (gx K C) g__law_says) :=
  df_of (G := gx K C) T.fn__law_says sc__law_says (fun _ _ _ _ _ _ us hl => match us, hl with | [_, _, _, _, _], _ => rfl) (B__law_says T) gRun_len (fun ds π h => gRun_sem h)
abbrev N__law_deed : List Str := ["pool", "hall", "case", "lot", "own"]
theorem sc__law_deed : FnScope N__law_deed ["pool", "hall", "case"] (defScope st__law_deed) := ⟨rfl, rfl, rfl, by decide +kernel, rfl, by decide +kernel, by decide +kernel⟩
noncomputable def fs__law_deed : SS := (sSeq (sSet 3 (eCall g__law_lot (aCons (eV 0) (aCons (eV 1) aNil))))
    (sSeq (sIf (tB (eOp dGt (eCall g__law_draw (aCons (eV 0) (aCons (eC (.int 3)) aNil))) (eC (.int 0)))) (sRet (eFn fTup (aCons (eC (.str "say")) (aCons (eCall g__law_draw (aCons (eV 0) (aCons (eFn fLen (aCons (eOp dIx (eV 1) (eC (.int 1))) aNil)) aNil))) (aCons (eV 3) aNil))))) sNil)
    (sRet (eFn fTup (aCons (eC (.str "tell")) (aCons (eIf (tB (eOp dEq (eCall g__law_draw (aCons (eV 0) (aCons (eC (.int 4)) aNil))) (eC (.int 0)))) (eV 3) (eFn fTuple (aCons (eFn fSdk (aCons (eLc (iS (eOp dAdd (eV 3) (eFn fTup (aCons (eV 2) aNil)))) [4] (gN 4) tYesD (eFn fTup (aCons (eV 4) (aCons (eC (.int 1)) aNil)))) aNil)) aNil))) aNil))))))
noncomputable def g__law_deed : List D → Store → Res (D × Store) := gRun fs__law_deed 3 5
theorem B__law_deed (T : Txt P w K mg base C) : Body P w K mg base N__law_deed "_law_deed" (defScope st__law_deed) (gx K C) 2 (defBody st__law_deed) fs__law_deed := fun f cdv A outer s H E M ι π hr => (ss_cons (s_set (i := 3) sc__law_deed.nd (x_call_ (D__law_lot T) (hr.mono (by decide)) passD (xa_cons (x_var 0) (xa_cons (x_var 1) xa_nil))))
      (ss_cons (s_if (xt_cmp op_gt od_gt (x_call_ (D__law_draw T) (hr.mono (by decide)) passD (xa_cons (x_var 0) (xa_cons x_int xa_nil))) x_int (nomark _)) (ss_one (s_ret (x_tup (xa_cons x_str (xa_cons (x_call_ (D__law_draw T) (hr.mono (by decide)) passD (xa_cons (x_var 0) (xa_cons (x_callB call_len fd_len nx_len T.b_len (by decide +kernel) (xa_cons (x_ix ix_seq od_ix (x_var 1) x_int) xa_nil)) xa_nil))) (xa_cons (x_var 3) xa_nil)))))) ss_nil)
      (ss_one (s_ret (x_tup (xa_cons x_str (xa_cons (x_if (xt_cmp (op_eqB hr.units) od_eq (x_call_ (D__law_draw T) (hr.mono (by decide)) passD (xa_cons (x_var 0) (xa_cons x_int xa_nil))) x_int (nomark _)) (x_var 3) (x_callT call_tupleF fd_tuple nx_tuple T.b_tuple (by decide +kernel) (xa_cons (x_sdk T.b_sorted T.b_list T.b_dict (x_lc (own := [("own", 4)]) rfl sc__law_deed.nd (xi_seq rfl (x_op op_addD od_add (x_var 3) (x_tup (xa_cons (x_var 2) xa_nil)))) (blkOk_by (own := [("own", 4)]) (N := N__law_deed) (sc := defScope st__law_deed) (by decide +kernel)) (fun _ _ _ _ _ _ => (xg_name sc__law_deed.nd)) (fun _ _ _ _ _ _ => xs_nil) (fun _ _ _ _ _ _ => (x_tup (xa_cons (x_var 4) (xa_cons x_int xa_nil)))))) xa_nil))) xa_nil)))))))
theorem D__law_deed (T : Txt P w K mg base C) : Df P w K mg base 3 "_law_deed" [] (spS (gx K C) g__law_deed) :=
  df_of (G := gx K C) T.fn__law_deed sc__law_deed (fun _ _ _ _ _ _ us hl => match us, hl with | [_, _, _], _ => rfl) (B__law_deed T) gRun_len (fun ds π h => gRun_sem h)
abbrev N__law_told : List Str := ["meeting", "hall", "lot", "seen", "person"]
theorem sc__law_told : FnScope N__law_told ["meeting", "hall", "lot"] (defScope st__law_told) := ⟨rfl, rfl, rfl, by decide +kernel, rfl, by decide +kernel, by decide +kernel⟩
noncomputable def fs__law_told : SS := (sSeq (sSet 3 (eLc (iR rng1 (aCons (eFn fLen (aCons (eOp dIx (eV 1) (eC (.int 1))) aNil)) aNil)) [4] (gN 4) tYesD (eMeth 1 g_Meeting_sees (eV 0) (aCons (eV 4) aNil))))
    (sRet (eFn fLst (aCons (eMeth 1 g_Meeting_left_open (eV 0) aNil) (aCons (eV 3) (aCons (eLc (iR rng1 (aCons (eFn fLen (aCons (eOp dIx (eV 1) (eC (.int 1))) aNil)) aNil)) [4] (gN 4) tYesD (eMeth 1 g_Meeting_says (eV 0) (aCons (eV 4) (aCons (eV 2) aNil)))) aNil))))))
noncomputable def g__law_told : List D → Store → Res (D × Store) := gRun fs__law_told 3 5
theorem B__law_told (T : Txt P w K mg base C) : Body P w K mg base N__law_told "_law_told" (defScope st__law_told) (gx K C) 6 (defBody st__law_told) fs__law_told := fun f cdv A outer s H E M ι π hr => (ss_cons (s_setLc (own := [("person", 4)]) (i := 3) rfl sc__law_told.nd (xi_range1 T.b_range (xa_cons (x_callB call_len fd_len nx_len T.b_len (by decide +kernel) (xa_cons (x_ix ix_seq od_ix (x_var 1) x_int) xa_nil)) xa_nil)) (blkOk_by (own := [("person", 4)]) (N := N__law_told) (sc := defScope st__law_told) (by decide +kernel)) (fun _ _ _ _ _ _ => (xg_name sc__law_told.nd)) (fun _ _ _ _ _ _ => xs_nil) (fun _ _ _ _ _ _ => (x_meth (M_Meeting_sees T) (hr.mono (by decide)) passL (x_var 0) (xa_cons (x_var 4) xa_nil))))
      (ss_one (s_ret (x_lst (xa_cons (x_meth0 (M_Meeting_left_open T) (hr.mono (by decide)) passD (x_var 0)) (xa_cons (x_var 3) (xa_cons (x_lc (own := [("person", 4)]) rfl sc__law_told.nd (xi_range1 T.b_range (xa_cons (x_callB call_len fd_len nx_len T.b_len (by decide +kernel) (xa_cons (x_ix ix_seq od_ix (x_var 1) x_int) xa_nil)) xa_nil)) (blkOk_by (own := [("person", 4)]) (N := N__law_told) (sc := defScope st__law_told) (by decide +kernel)) (fun _ _ _ _ _ _ => (xg_name sc__law_told.nd)) (fun _ _ _ _ _ _ => xs_nil) (fun _ _ _ _ _ _ => (x_meth (M_Meeting_says T) (hr.mono (by decide)) passL (x_var 0) (xa_cons (x_var 4) (xa_cons (x_var 2) xa_nil))))) xa_nil)))))))
theorem D__law_told (T : Txt P w K mg base C) : Df P w K mg base 7 "_law_told" [] (spS (gx K C) g__law_told) :=
  df_of (G := gx K C) T.fn__law_told sc__law_told (fun _ _ _ _ _ _ us hl => match us, hl with | [_, _, _], _ => rfl) (B__law_told T) gRun_len (fun ds π h => gRun_sem h)
abbrev N__law_due : List Str := ["hall", "case", "here", "lot", "seen", "person"]
theorem sc__law_due : FnScope N__law_due ["hall", "case", "here", "lot"] (defScope st__law_due) := ⟨rfl, rfl, rfl, by decide +kernel, rfl, by decide +kernel, by decide +kernel⟩
noncomputable def fs__law_due : SS := (sSeq (sSet 4 (eLc (iR rng1 (aCons (eFn fLen (aCons (eOp dIx (eV 0) (eC (.int 1))) aNil)) aNil)) [5] (gN 5) tYesD (eCall g__law_sees (aCons (eV 0) (aCons (eV 2) (aCons (eV 5) (aCons (eV 1) aNil)))))))
    (sRet (eFn fLst (aCons (eV 2) (aCons (eV 4) (aCons (eLc (iR rng1 (aCons (eFn fLen (aCons (eOp dIx (eV 0) (eC (.int 1))) aNil)) aNil)) [5] (gN 5) tYesD (eCall g__law_says (aCons (eV 0) (aCons (eV 2) (aCons (eV 5) (aCons (eV 1) (aCons (eV 3) aNil))))))) aNil))))))
noncomputable def g__law_due : List D → Store → Res (D × Store) := gRun fs__law_due 4 6
theorem B__law_due (T : Txt P w K mg base C) : Body P w K mg base N__law_due "_law_due" (defScope st__law_due) (gx K C) 4 (defBody st__law_due) fs__law_due := fun f cdv A outer s H E M ι π hr => (ss_cons (s_setLc (own := [("person", 5)]) (i := 4) rfl sc__law_due.nd (xi_range1 T.b_range (xa_cons (x_callB call_len fd_len nx_len T.b_len (by decide +kernel) (xa_cons (x_ix ix_seq od_ix (x_var 0) x_int) xa_nil)) xa_nil)) (blkOk_by (own := [("person", 5)]) (N := N__law_due) (sc := defScope st__law_due) (by decide +kernel)) (fun _ _ _ _ _ _ => (xg_name sc__law_due.nd)) (fun _ _ _ _ _ _ => xs_nil) (fun _ _ _ _ _ _ => (x_call_ (D__law_sees T) (hr.mono (by decide)) passL (xa_cons (x_var 0) (xa_cons (x_var 2) (xa_cons (x_var 5) (xa_cons (x_var 1) xa_nil)))))))
      (ss_one (s_ret (x_lst (xa_cons (x_var 2) (xa_cons (x_var 4) (xa_cons (x_lc (own := [("person", 5)]) rfl sc__law_due.nd (xi_range1 T.b_range (xa_cons (x_callB call_len fd_len nx_len T.b_len (by decide +kernel) (xa_cons (x_ix ix_seq od_ix (x_var 0) x_int) xa_nil)) xa_nil)) (blkOk_by (own := [("person", 5)]) (N := N__law_due) (sc := defScope st__law_due) (by decide +kernel)) (fun _ _ _ _ _ _ => (xg_name sc__law_due.nd)) (fun _ _ _ _ _ _ => xs_nil) (fun _ _ _ _ _ _ => (x_call_ (D__law_says T) (hr.mono (by decide)) passL (xa_cons (x_var 0) (xa_cons (x_var 2) (xa_cons (x_var 5) (xa_cons (x_var 1) (xa_cons (x_var 3) xa_nil)))))))) xa_nil)))))))
theorem D__law_due (T : Txt P w K mg base C) : Df P w K mg base 5 "_law_due" [] (spS (gx K C) g__law_due) :=
  df_of (G := gx K C) T.fn__law_due sc__law_due (fun _ _ _ _ _ _ us hl => match us, hl with | [_, _, _, _], _ => rfl) (B__law_due T) gRun_len (fun ds π h => gRun_sem h)
abbrev N__law_refused : List Str := ["call", "e"]
theorem sc__law_refused : FnScope N__law_refused ["call"] (defScope st__law_refused) := ⟨rfl, rfl, rfl, by decide +kernel, rfl, by decide +kernel, by decide +kernel⟩
noncomputable def hx__law_refused_1 (c : Nat) (d : D) : Res D := if c = 4 then (rLst "hall" true) d else if c = 2 then (rLst "number" true) d else .fail
noncomputable abbrev fs__law_refused (f : Addr) (m : Store → Res (D × Store)) : SS := fsTL hx__law_refused_1 .non f m
noncomputable def gw__law_refused (m : Store → Res (D × Store)) (π : Store) : Res (D × Store) := gTL hx__law_refused_1 .non m π
theorem sem__law_refused (f : Addr) (m : Store → Res (D × Store)) (π : Store) (h : gw__law_refused m π ≠ .fail) : sRun (fs__law_refused f m) 2 [.fn f] π = gw__law_refused m π := sem_TL _ _ 1 f m π h
theorem B__law_refused (T : Txt P w K mg base C) {NL fr : List Str} {fb : SE} {wds : List D} {lf : Addr} {ebody : Expr} {kk : Nat} {f : Addr} {cdv : Value} {A : Around} {outer : List PySem.Env} {s : Shared} {H : Hp} {M : Addr → Prop} {ι : List Addr} {π : Store} (h1 : 1 ≤ kk + 1) (hr : Room (kk + 2) (A.deeper (envOfC "_law_refused" (defScope st__law_refused) s.heap.objs.size f cdv))) (hgd : A.guards = some [])
    (Lm : LamAt0 (cxOf (L2.CX P w) P w K mg base N__law_refused "_law_refused" (defScope st__law_refused) f cdv A outer s H EN) ⟨gx K C, M, H, ι, π⟩ NL fr lf ebody kk fb wds) :
    PSs (cxOf (L2.CX P w) P w K mg base N__law_refused "_law_refused" (defScope st__law_refused) f cdv A outer s H EN) (defBody st__law_refused) (tS ⟨gx K C, M, H, ι, π⟩ EN (fs__law_refused lf (lamRun fb NL.length wds []))) :=
  (ss_cons (s_tryW rfl rfl sc__law_refused.nd takD (fun E' pn xe H ι π wo tk own => ss_one (s_expr (x_lam0 (i := 0) (Lm.tr pn xe wo) (hr.mono (by omega)) (passes_call tk fun _ _ _ _ h => h))))
      (.named (i := 1) rfl rfl ⟨rfl, by decide, .inl T.m_NotAHall⟩ (fun a oe cls dx pn hz hf => suite_lst (F := ⟨gx K C, M, H, ι, π⟩) (i := 1) (c := 4) T.xf_4 T.no_4 rfl T.xc_4 T.ki_4_8 T.b_isinstance T.b_repr T.m_HallError hr hgd rfl rfl rfl (by decide) hz hf rfl (.inl rfl))
        (.named (i := 1) rfl rfl ⟨rfl, by decide, .inl T.m_InvalidNumber⟩ (fun a oe cls dx pn hz hf => suite_lst (F := ⟨gx K C, M, H, ι, π⟩) (i := 1) (c := 2) T.xf_2 T.no_2 rfl T.xc_2 T.ki_2_8 T.b_isinstance T.b_repr T.m_HallError hr hgd rfl rfl rfl (by decide) hz hf rfl (.inl rfl))
        .nil))
      (fun D ι π H c d π1 cls dx ι1 H1 σ A h => by
        unfold rtH hx__law_refused_1 at h
        by_cases e0 : c = 4
        · subst e0
          rw [if_pos rfl] at h
          cases er : (rLst "hall" true) d with
          | fail => rw [er] at h; exact h.elim
          | xc _ _ _ => exact absurd er nxLst
          | ok y =>
          rw [er] at h
          exact ⟨true, by rw [A.cls]; exact T.ex_4_4, fun _ a ha hi => clause_retL A er h hi, fun z => nomatch z⟩
        · rw [if_neg e0] at h
          by_cases e1 : c = 2
          · subst e1
            rw [if_pos rfl] at h
            cases er : (rLst "number" true) d with
            | fail => rw [er] at h; exact h.elim
            | xc _ _ _ => exact absurd er nxLst
            | ok y =>
            rw [er] at h
            exact ⟨false, by rw [A.cls]; exact T.ex_2_4, fun z => (nomatch z), fun _ => ⟨true, by rw [A.cls]; exact T.ex_2_2, fun _ a ha hi => clause_retL A er h hi, fun z => nomatch z⟩⟩
          · rw [if_neg e1] at h
            exact h.elim))
    (ss_one (s_ret x_non)))
def qt__law_right : Str := (envOfC "_law_right" (defScope st__law_right) 0 0 .none).qual
def q__law_right : Str := qt__law_right ++ "<lambda>"
abbrev N__law_right : List Str := ["pool", "hall", "case", "here", "lot", "meeting", "twin", "told", "other", "begun", "turn", "deed", "made", "number", "thing"]
theorem KM_Meeting_case_hall (T : Txt P w K mg base C) : ClK P w (gx K C) mg base 5 "Meeting" 1 ["case", "hall"] [1, 0] (spS (gx K C) g_Meeting___init__) := by
  obtain ⟨f, fd, F, hm, M⟩ := T.mk_Meeting
  refine ⟨f, fd, ["self", "hall", "case"], hm, M, (F_Meeting___init__ T F).1, fun s a ws X hl => ?_⟩
  obtain ⟨oc, od, kV, doc, pm, an, cdv, ct, osl, rfl, lk, hcd⟩ := F.ex
  match ws, hl with
  | [_, _], _ => exact .of_eq rfl
noncomputable def fb__law_right_1 : SE := (eMake 1 g_Meeting___init__ (aCons (eV 0) (aCons (eC .non) aNil)))
noncomputable def fb__law_right_2 : SE := (eMake 1 g_Meeting___init__ (aCons (eV 0) (aCons (eV 1) aNil)))
theorem sc__law_right : FnScope N__law_right ["pool"] (defScope st__law_right) := ⟨rfl, rfl, rfl, by decide +kernel, rfl, by decide +kernel, by decide +kernel⟩
noncomputable def fs__law_right : SS := (sSeq (sAsg (gT3 1 2 3) (eCall g__law_begun (aCons (eV 0) aNil)))
    (sSeq (sAsg (gT2 12 4) (eFn fTup (aCons (eCall g__law_made (aCons (eV 1) aNil)) (aCons (eCall g__law_lot (aCons (eV 0) (aCons (eV 1) aNil))) aNil))))
    (sSeq (sPar 5 6 (aCons (eMake 1 g_Meeting___init__ (aCons (eV 12) (aCons (eV 2) aNil))) (aCons (eMake 1 g_Meeting___init__ (aPrm 2 [1, 0] (aCons (eV 2) (aCons (eCall g__law_made (aCons (eV 1) aNil)) aNil)))) aNil)))
    (sSeq (sSet 7 (eFn fLst (aCons (eCall g__law_told (aCons (eV 5) (aCons (eV 1) (aCons (eV 4) aNil)))) (aCons (eUnS (dFld 1 2) (eV 5)) (aCons (eUnS (dFld 1 1) (eV 5)) aNil)))))
    (sSeq (sIf (tB (eOp dNe (eFn fRepr (aCons (eV 7) aNil)) (eFn fRepr (aCons (eFn fLst (aCons (eCall g__law_due (aCons (eV 1) (aCons (eV 2) (aCons (eV 3) (aCons (eV 4) aNil))))) (aCons (eFn fTup aNil) (aCons (eV 2) aNil)))) aNil)))) (sRet (eC (.bl false))) sNil)
    (sSeq (sIf (tOr (tNot (tB (eEqI 0 g_Hall___eq__ (eUnS (dFld 1 0) (eV 5)) (eV 12)))) (tOr (tNot (tB (eEqI 1 g_Meeting___eq__ (eV 5) (eV 6)))) (tOr (tB (eNeI 1 g_Meeting___eq__ (eV 5) (eV 6))) (tOr (tB (eEqX 1 0 g_Meeting___eq__ (eV 5) (eV 12))) (tB (eEqN 1 g_Meeting___eq__ (eV 5))))))) (sRet (eC (.bl false))) sNil)
    (sSeq (sAsg (gT3 8 13 9) (eCall g__law_begun (aCons (eV 0) aNil)))
    (sSeq (sIf (tB (eOp dNe (eEqI 1 g_Meeting___eq__ (eMake 1 g_Meeting___init__ (aCons (eCall g__law_made (aCons (eV 8) aNil)) (aCons (eV 13) aNil))) (eV 5)) (eOp dEq (eFn fRepr (aCons (eFn fLst (aCons (eV 8) (aCons (eV 13) aNil))) aNil)) (eFn fRepr (aCons (eFn fLst (aCons (eV 1) (aCons (eV 2) aNil))) aNil))))) (sRet (eC (.bl false))) sNil)
    (sSeq (sFor (iR rng1 (aCons (eC (.int 6)) aNil)) (gN 10) (sSeq (sSet 11 (eCall g__law_deed (aCons (eV 0) (aCons (eV 1) (aCons (eV 2) aNil)))))
    (sIf (tB (eOp dEq (eCall g__law_barred (aCons (eV 5) (aCons (eV 11) aNil))) (eC (.str "")))) (sSeq (sIf (tOr (tB (eEqI 1 g_Meeting___eq__ (eV 5) (eV 6))) (tOr (tNot (tB (eNeI 1 g_Meeting___eq__ (eV 5) (eV 6)))) (tB (eOp dNe (eSl (eUnS (dFld 1 2) (eV 5)) oNone (oSome (eUn dNeg (eC (.int 1))))) (eUnS (dFld 1 2) (eV 6)))))) (sRet (eC (.bl false))) sNil)
    (sSeq (sExpr (eMeth 1 g_Meeting_do (eV 6) (aCons (eV 11) aNil)))
    (sIf (tOr (tNot (tB (eEqI 1 g_Meeting___eq__ (eV 5) (eV 6)))) (tB (eOp dNe (eCall g__law_told (aCons (eV 5) (aCons (eV 1) (aCons (eV 4) aNil)))) (eCall g__law_told (aCons (eV 6) (aCons (eV 1) (aCons (eV 4) aNil))))))) (sRet (eC (.bl false))) sNil))) sNil)))
    (sSeq (sFor (iS (eFn fLst (aCons (eC .non) (aCons (eC (.int 5)) (aCons (eV 1) (aCons (eC (.str "hall")) (aCons eDic aNil))))))) (gN 14) (sIf (tB (eOp dNe (eCallLam0 1 q__law_right [14] (fun wds π => gw__law_refused (lamRun fb__law_right_1 1 wds []) π)) (eFn fLst (aCons (eC (.str "hall")) (aCons (eFn fRepr2 (aCons (eV 14) aNil)) (aCons (eC (.bl true)) aNil)))))) (sRet (eC (.bl false))) sNil))
    (sSeq (sFor (iS (eFn fLst (aCons (eUn dNeg (eC (.int 1))) (aCons (eOp dIx (eV 1) (eC (.int 0))) (aCons (eC .non) (aCons (eC (.str "1")) (aCons (eC (.bl true)) (aCons (eFn fTup (aCons (eC (.int 1)) aNil)) aNil)))))))) (gN 13) (sIf (tB (eOp dNe (eCallLam0 1 q__law_right [12, 13] (fun wds π => gw__law_refused (lamRun fb__law_right_2 2 wds []) π)) (eFn fLst (aCons (eC (.str "number")) (aCons (eFn fRepr (aCons (eV 13) aNil)) (aCons (eC (.bl true)) aNil)))))) (sRet (eC (.bl false))) sNil))
    (sRet (eAnd (eOp dEq (eUnS (dFld 0 0) (eV 12)) (eOp dIx (eV 1) (eC (.int 0)))) (eOp dEq (eUnS (dFld 0 1) (eV 12)) (eOp dIx (eV 1) (eC (.int 1)))))))))))))))))
noncomputable def g__law_right : List D → Store → Res (D × Store) := gRun fs__law_right 1 15
theorem B__law_right (T : Txt P w K mg base C) : BodyCG P w K mg base N__law_right "_law_right" (defScope st__law_right) (gx K C) 14 (defBody st__law_right) fs__law_right (C 151) := fun f A outer s H E M ι π hr hgd => (ss_cons (s_asg (x_call_ (D__law_begun T) (hr.mono (by decide)) passD (xa_cons (x_var 0) xa_nil)) (xg_tup3 rfl rfl sc__law_right.nd))
      (ss_cons (s_asg (x_tup (xa_cons (x_call_ (D__law_made T) (hr.mono (by decide)) passD (xa_cons (x_var 1) xa_nil)) (xa_cons (x_call_ (D__law_lot T) (hr.mono (by decide)) passD (xa_cons (x_var 0) (xa_cons (x_var 1) xa_nil))) xa_nil))) (xg_tup2 rfl rfl sc__law_right.nd))
      (ss_cons (s_par (i := 5) (j := 6) rfl sc__law_right.nd (xa_cons (x_make (Mk_Meeting T) (hr.mono (by decide)) passD (xa_cons (x_var 12) (xa_cons (x_var 2) xa_nil))) (xa_cons (x_makeK (KM_Meeting_case_hall T) (hr.mono (by decide)) passD (xk_cons (x_var 2) (xk_cons (x_call_ (D__law_made T) (hr.mono (by decide)) passD (xa_cons (x_var 1) xa_nil)) xk_nil))) xa_nil)))
      (ss_cons (s_set (i := 7) sc__law_right.nd (x_lst (xa_cons (x_call_ (D__law_told T) (hr.mono (by decide)) passD (xa_cons (x_var 5) (xa_cons (x_var 1) (xa_cons (x_var 4) xa_nil)))) (xa_cons (x_fld T.f_1_2 (x_var 5)) (xa_cons (x_fld T.f_1_1 (x_var 5)) xa_nil)))))
      (ss_cons (s_if (xt_cmp (op_neB hr.units) od_ne (x_callB (call_repr hgd) (fd_repr hr) nx_repr T.b_repr (by decide +kernel) (xa_cons (x_var 7) xa_nil)) (x_callB (call_repr hgd) (fd_repr hr) nx_repr T.b_repr (by decide +kernel) (xa_cons (x_lst (xa_cons (x_call_ (D__law_due T) (hr.mono (by decide)) passD (xa_cons (x_var 1) (xa_cons (x_var 2) (xa_cons (x_var 3) (xa_cons (x_var 4) xa_nil))))) (xa_cons (x_tup xa_nil) (xa_cons (x_var 2) xa_nil)))) xa_nil)) (nomark _)) (ss_one (s_ret x_bl)) ss_nil)
      (ss_cons (s_if (xt_w (xw_or (xt_not (xt_eqI (M_Hall___eq__ T) (hr.mono (by decide)) passD (x_fld T.f_1_0 (x_var 5)) (x_var 12) (nomark _))) (xw_or (xt_not (xt_eqI (M_Meeting___eq__ T) (hr.mono (by decide)) passD (x_var 5) (x_var 6) (nomark _))) (xw_or (xt_neI (M_Meeting___eq__ T) T.ne_1 (hr.mono (by decide)) passD (x_var 5) (x_var 6) (nomark _)) (xw_or (xt_eqX (M_Meeting___eq__ T) (hr.mono (by decide)) passD T.nf_1_0 (x_var 5) (x_var 12) (nomark _)) (xw_or1 (xt_eqN (M_Meeting___eq__ T) (hr.mono (by decide)) passD (x_var 5)))))))) (ss_one (s_ret x_bl)) ss_nil)
      (ss_cons (s_asg (x_call_ (D__law_begun T) (hr.mono (by decide)) passD (xa_cons (x_var 0) xa_nil)) (xg_tup3 rfl rfl sc__law_right.nd))
      (ss_cons (s_if (xt_cmp (op_neB hr.units) od_ne (x_eqI (M_Meeting___eq__ T) (hr.mono (by decide)) passD (x_make (Mk_Meeting T) (hr.mono (by decide)) passD (xa_cons (x_call_ (D__law_made T) (hr.mono (by decide)) passD (xa_cons (x_var 8) xa_nil)) (xa_cons (x_var 13) xa_nil))) (x_var 5) (nomark _)) (x_cmp (op_eqB hr.units) od_eq (x_callB (call_repr hgd) (fd_repr hr) nx_repr T.b_repr (by decide +kernel) (xa_cons (x_lst (xa_cons (x_var 8) (xa_cons (x_var 13) xa_nil))) xa_nil)) (x_callB (call_repr hgd) (fd_repr hr) nx_repr T.b_repr (by decide +kernel) (xa_cons (x_lst (xa_cons (x_var 1) (xa_cons (x_var 2) xa_nil))) xa_nil)) (nomark _)) (nomark _)) (ss_one (s_ret x_bl)) ss_nil)
      (ss_cons (s_for ownD rfl (xi_range1 T.b_range (xa_cons x_int xa_nil)) (xg_name sc__law_right.nd) (ss_cons (s_set (i := 11) sc__law_right.nd (x_call_ (D__law_deed T) (hr.mono (by decide)) passD (xa_cons (x_var 0) (xa_cons (x_var 1) (xa_cons (x_var 2) xa_nil)))))
      (ss_one (s_if (xt_cmp (op_eqB hr.units) od_eq (x_call_ (D__law_barred T) (hr.mono (by decide)) passD (xa_cons (x_var 5) (xa_cons (x_var 11) xa_nil))) x_str (nomark _)) (ss_cons (s_if (xt_w (xw_or (xt_eqI (M_Meeting___eq__ T) (hr.mono (by decide)) passD (x_var 5) (x_var 6) (nomark _)) (xw_or (xt_not (xt_neI (M_Meeting___eq__ T) T.ne_1 (hr.mono (by decide)) passD (x_var 5) (x_var 6) (nomark _))) (xw_or1 (xt_cmp (op_neB hr.units) od_ne (x_slice (x_fld T.f_1_2 (x_var 5)) xo_none (xo_some (x_un un_neg ud_neg x_int))) (x_fld T.f_1_2 (x_var 6)) (nomark _)))))) (ss_one (s_ret x_bl)) ss_nil)
      (ss_cons (s_expr (x_methK (K_Meeting_do T) (hr.mono (by decide)) passD (x_var 6) (x_var 11)))
      (ss_one (s_if (xt_w (xw_or (xt_not (xt_eqI (M_Meeting___eq__ T) (hr.mono (by decide)) passD (x_var 5) (x_var 6) (nomark _))) (xw_or1 (xt_cmp (op_neB hr.units) od_ne (x_call_ (D__law_told T) (hr.mono (by decide)) passD (xa_cons (x_var 5) (xa_cons (x_var 1) (xa_cons (x_var 4) xa_nil)))) (x_call_ (D__law_told T) (hr.mono (by decide)) passD (xa_cons (x_var 6) (xa_cons (x_var 1) (xa_cons (x_var 4) xa_nil)))) (nomark _))))) (ss_one (s_ret x_bl)) ss_nil)))) ss_nil))))
      (ss_cons (s_for ownD rfl (xi_seq rfl (x_lst (xa_cons x_non (xa_cons x_int (xa_cons (x_var 1) (xa_cons x_str (xa_cons x_dic xa_nil))))))) (xg_name sc__law_right.nd) (ss_one (s_if (xt_cmp (op_neB hr.units) od_ne (x_callLam0 (n := 1) (k := 8) (NL := ["thing"]) (fr := ["thing"]) (js := [14]) (fsw := fun f wds => fs__law_refused f (lamRun fb__law_right_1 1 wds [])) (gW := (fun wds π => gw__law_refused (lamRun fb__law_right_1 1 wds []) π)) (fb := fb__law_right_1) T.fn__law_refused.choose_spec.choose_spec.1 T.fn__law_refused.choose_spec.choose_spec.2 sc__law_refused rfl (fun _ _ _ _ _ _ us hl => match us, hl with | [_], _ => rfl)
    T.tb__law_right rfl (hr.mono (by decide)) hgd (NdefX.nscope_by (by decide +kernel)) (by show ∀ y : Str × NameKind, y ∈ _ → y.2 = _ → List.lookup y.1 (defScope st__law_right).names = _ ∨ List.lookup y.1 (defScope st__law_right).names = _; decide +kernel) (by decide +kernel) rfl rfl (fun _ _ _ _ _ => rfl)
    (fun kk L f A outer s H E M Hx ι π hkk hL hr => by
      obtain ⟨nm, ql, pr, bd, sc, cl, c⟩ := L
      cases hL
      exact (x_make (Mk_Meeting T) (hr.mono (by omega)) passN (xa_cons (x_var 0) (xa_cons x_non xa_nil))))
    (fun kk cdv A outer s H M ι π f wds hkk hr hgd Lm => by
      have q := B__law_refused T (by omega) hr hgd Lm
      show PSs _ _ (tS ⟨gx K C, M, H, ι, π⟩ EN (fs__law_refused f (lamRun fb__law_right_1 1 wds [])))
      exact q)
    (fun wds π f h => sem__law_refused f _ π h) ⟨6, rfl⟩) (x_lst (xa_cons x_str (xa_cons (x_callB (call_repr2 hr.unU hgd) (fd_repr2 hr.unU) nx_repr2 T.b_repr (by decide +kernel) (xa_cons (x_var 14) xa_nil)) (xa_cons x_bl xa_nil)))) (nomark _)) (ss_one (s_ret x_bl)) ss_nil)))
      (ss_cons (s_for ownD rfl (xi_seq rfl (x_lst (xa_cons (x_un un_neg ud_neg x_int) (xa_cons (x_ix ix_seq od_ix (x_var 1) x_int) (xa_cons x_non (xa_cons x_str (xa_cons x_bl (xa_cons (x_tup (xa_cons x_int xa_nil)) xa_nil)))))))) (xg_name sc__law_right.nd) (ss_one (s_if (xt_cmp (op_neB hr.units) od_ne (x_callLam0 (n := 1) (k := 8) (NL := ["made", "number"]) (fr := ["made", "number"]) (js := [12, 13]) (fsw := fun f wds => fs__law_refused f (lamRun fb__law_right_2 2 wds [])) (gW := (fun wds π => gw__law_refused (lamRun fb__law_right_2 2 wds []) π)) (fb := fb__law_right_2) T.fn__law_refused.choose_spec.choose_spec.1 T.fn__law_refused.choose_spec.choose_spec.2 sc__law_refused rfl (fun _ _ _ _ _ _ us hl => match us, hl with | [_], _ => rfl)
    T.tb__law_right rfl (hr.mono (by decide)) hgd (NdefX.nscope_by (by decide +kernel)) (by show ∀ y : Str × NameKind, y ∈ _ → y.2 = _ → List.lookup y.1 (defScope st__law_right).names = _ ∨ List.lookup y.1 (defScope st__law_right).names = _; decide +kernel) (by decide +kernel) rfl rfl (fun _ _ _ _ _ => rfl)
    (fun kk L f A outer s H E M Hx ι π hkk hL hr => by
      obtain ⟨nm, ql, pr, bd, sc, cl, c⟩ := L
      cases hL
      exact (x_make (Mk_Meeting T) (hr.mono (by omega)) passN (xa_cons (x_var 0) (xa_cons (x_var 1) xa_nil))))
    (fun kk cdv A outer s H M ι π f wds hkk hr hgd Lm => by
      have q := B__law_refused T (by omega) hr hgd Lm
      show PSs _ _ (tS ⟨gx K C, M, H, ι, π⟩ EN (fs__law_refused f (lamRun fb__law_right_2 2 wds [])))
      exact q)
    (fun wds π f h => sem__law_refused f _ π h) ⟨6, rfl⟩) (x_lst (xa_cons x_str (xa_cons (x_callB (call_repr hgd) (fd_repr hr) nx_repr T.b_repr (by decide +kernel) (xa_cons (x_var 13) xa_nil)) (xa_cons x_bl xa_nil)))) (nomark _)) (ss_one (s_ret x_bl)) ss_nil)))
      (ss_one (s_ret (x_and (x_cmp (op_eqB hr.units) od_eq (x_fld T.f_0_0 (x_var 12)) (x_ix ix_seq od_ix (x_var 1) x_int) (nomark _)) (x_one (x_cmp (op_eqB hr.units) od_eq (x_fld T.f_0_1 (x_var 12)) (x_ix ix_seq od_ix (x_var 1) x_int) (nomark _)))))))))))))))))
theorem D__law_right (T : Txt P w K mg base C) : DfG P w K mg base 15 "_law_right" (spS (gx K C) g__law_right) :=
  df_ofCG (G := gx K C) T.fc__law_right sc__law_right (fun _ _ _ _ _ _ us hl => match us, hl with | [_], _ => rfl) (B__law_right T) gRun_len (fun ds π h => gRun_sem h)
abbrev N_law : List Str := ["script", "turn"]
theorem sc_law : FnScope N_law ["script"] (defScope st_law) := ⟨rfl, rfl, rfl, by decide +kernel, rfl, by decide +kernel, by decide +kernel⟩
noncomputable def fs_law : SS := (sRet (eFn fAll (aCons (eLc (iR rng1 (aCons (eFn fMax2 (aCons (eC (.int 2)) (aCons (eFn fMin2 (aCons (eFn fLen (aCons (eV 0) aNil)) (aCons (eC (.int 3)) aNil))) aNil))) aNil)) [1] (gN 1) tYesD (eCall g__law_right (aCons (eCall g__law_pool (aCons (eV 0) (aCons (eV 1) aNil))) aNil))) aNil)))
noncomputable def g_law : List D → Store → Res (D × Store) := gRun fs_law 1 2
theorem B_law (T : Txt P w K mg base C) : BodyG P w K mg base N_law "law" (defScope st_law) (gx K C) 15 (defBody st_law) fs_law := fun f cdv A outer s H E M ι π hr hgd => (ss_one (s_ret (x_callB (cr_all rfl) fd_all nx_all T.b_all (by decide +kernel) (xa_cons (x_lc (own := [("turn", 1)]) rfl sc_law.nd (xi_range1 T.b_range (xa_cons (x_callB (call_max2 rfl) fd_max2 nx_max2 T.b_max (by decide +kernel) (xa_cons x_int (xa_cons (x_callB (call_min2 rfl) fd_min2 nx_min2 T.b_min (by decide +kernel) (xa_cons (x_callB call_len fd_len nx_len T.b_len (by decide +kernel) (xa_cons (x_var 0) xa_nil)) (xa_cons x_int xa_nil))) xa_nil))) xa_nil)) (blkOk_by (own := [("turn", 1)]) (N := N_law) (sc := defScope st_law) (by decide +kernel)) (fun _ _ _ _ _ _ => (xg_name sc_law.nd)) (fun _ _ _ _ _ _ => xs_nil) (fun _ _ _ _ _ _ => (x_callG (D__law_right T) (hr.mono (by decide)) hgd passL (xa_cons (x_call_ (D__law_pool T) (hr.mono (by decide)) passL (xa_cons (x_var 0) (xa_cons (x_var 1) xa_nil))) xa_nil)))) xa_nil))))
theorem D_law (T : Txt P w K mg base C) : DfG P w K mg base 16 "law" (spS (gx K C) g_law) :=
  df_ofG (G := gx K C) T.fn_law sc_law (fun _ _ _ _ _ _ us hl => match us, hl with | [_], _ => rfl) (B_law T) gRun_len (fun ds π h => gRun_sem h)

end
end Ph
end
section
set_option Elab.async false
set_option linter.all false
set_option maxRecDepth 100000
set_option exponentiation.threshold 200000
/-! Plain law, part a: numbers, fractions. -/
namespace Ph
open PySem PySem.Spec PyProof.Rows L2
/-- a fraction, as the program tells it -/
def fr (r : Rat) : D := .tup [.int r.num, .int r.den]
/-- not too long -/
def Sm (n : Nat) (r : Rat) : Prop := r.num.natAbs < 2 ^ n ∧ r.den < 2 ^ n
theorem Sm.mono {n m : Nat} {r : Rat} (h : Sm n r) (hm : n ≤ m) : Sm m r := ⟨Nat.lt_of_lt_of_le h.1 (Nat.pow_le_pow_right (by decide) hm), Nat.lt_of_lt_of_le h.2 (Nat.pow_le_pow_right (by decide) hm)⟩
section
variable {π : Store} {a b : Rat} {x y : Int} {d e : D} {n m : Nat}
@[simp] theorem s_is_whole_i : g_is_whole [.int x] π = .ok (.bl true, π) := by simp [g_is_whole, gRun, sRun, ini, fs_is_whole]
@[simp] theorem s_is_whole_b {u : Bool} : g_is_whole [.bl u] π = .ok (.bl false, π) := by simp [g_is_whole, gRun, sRun, ini, fs_is_whole]
@[simp] theorem s_is_whole_n : g_is_whole [.non] π = .ok (.bl false, π) := by simp [g_is_whole, gRun, sRun, ini, fs_is_whole]
@[simp] theorem s_is_whole_s {u : Str} : g_is_whole [.str u] π = .ok (.bl false, π) := by simp [g_is_whole, gRun, sRun, ini, fs_is_whole]
@[simp] theorem s_is_whole_t {u : List D} : g_is_whole [.tup u] π = .ok (.bl false, π) := by simp [g_is_whole, gRun, sRun, ini, fs_is_whole]
theorem s_is_between {lo hi : Int} : g_is_between [.int x, .int lo, .int hi] π = .ok (.bl (decide (lo ≤ x ∧ x ≤ hi)), π) := by
  simp [g_is_between, gRun, sRun, ini, fs_is_between]
  by_cases h : lo ≤ x <;> simp [h]
theorem s_lowest (h0 : 0 < y) (hy : y.natAbs < 2 ^ 9000) : g_lowest [.int x, .int y] π = .ok (fr (Rat.divInt x y), π) := by
  have hg : 0 < x.natAbs.gcd y.natAbs := Nat.gcd_pos_of_pos_right _ (by omega)
  have hg2 : ((x.natAbs.gcd y.natAbs : Nat) : Int).natAbs < 2 ^ 9000 := by
    have : x.natAbs.gcd y.natAbs ≤ y.natAbs := Nat.gcd_le_right _ (by omega)
    omega
  have hw : ∀ z : Int, wideD z ((x.natAbs.gcd y.natAbs : Nat) : Int) = true := fun z => wideD_n (by omega) hg2 (Nat.le_refl _)
  have e1 : (Rat.divInt x y).num = x / ((x.natAbs.gcd y.natAbs : Nat) : Int) := by
    rw [Rat.num_divInt, Int.sign_eq_one_of_pos h0, Int.one_mul, Int.gcd_comm]
    rfl
  have e2 : (((Rat.divInt x y).den : Nat) : Int) = y / ((x.natAbs.gcd y.natAbs : Nat) : Int) := by
    rw [Rat.den_divInt, if_neg (by omega), Int.gcd_comm]
    have : (y.natAbs : Int) = y := by omega
    rw [Int.natCast_ediv, this]
    rfl
  simp [g_lowest, gRun, sRun, ini, fs_lowest, h0, fGcd, dFdiv_i (hw _), fr, e1, e2]
theorem fr_ix0 : atI [D.int a.num, D.int (a.den : Int)] 0 = some (.int a.num) := by simp
theorem den_pos' (a : Rat) : (0 : Int) < a.den := by have := a.den_pos; omega
theorem s_plus (ha : Sm n a) (hb : Sm m b) (h : n + m ≤ 9000) : g_plus [fr a, fr b] π = .ok (fr (a + b), π) := by
  have hn : ∀ {p q : Int}, p.natAbs < 2 ^ n → q.natAbs < 2 ^ m → wideM p q = true := fun h1 h2 => wideM_n h1 h2 (by omega)
  have hn' : ∀ {p q : Int}, p.natAbs < 2 ^ m → q.natAbs < 2 ^ n → wideM p q = true := fun h1 h2 => wideM_n h1 h2 (by omega)
  have d1 := den_pos' a
  have d2 := den_pos' b
  have hd : ((a.den : Int) * (b.den : Int)).natAbs < 2 ^ 9000 := by
    rw [Int.natAbs_mul]
    exact Nat.lt_of_lt_of_le (Nat.mul_lt_mul'' ha.2 hb.2) (by rw [← Nat.pow_add]; exact Nat.pow_le_pow_right (by decide) h)
  have e : Rat.divInt (a.num * b.den + b.num * a.den) ((a.den : Int) * (b.den : Int)) = a + b := by
    rw [Rat.add_def', ← Int.natCast_mul, Rat.divInt_ofNat]
  simp [g_plus, gRun, sRun, ini, fs_plus, fr, dMul_i (hn (p := a.num) (q := (b.den : Int)) ha.1 hb.2), dMul_i (hn' (p := b.num) (q := (a.den : Int)) hb.1 ha.2), dMul_i (hn (p := (a.den : Int)) (q := (b.den : Int)) ha.2 hb.2)]
  rw [s_lowest (Int.mul_pos d1 d2) hd, e]
  rfl
theorem s_divided (ha : Sm n a) (hb : Sm m b) (h0 : 0 < b) (h : n + m ≤ 9000) : g_divided [fr a, fr b] π = .ok (fr (a / b), π) := by
  have hn : ∀ {p q : Int}, p.natAbs < 2 ^ n → q.natAbs < 2 ^ m → wideM p q = true := fun h1 h2 => wideM_n h1 h2 (by omega)
  have d1 := den_pos' a
  have d2 : 0 < b.num := by
    have := (Rat.num_nonneg (q := b)).mpr (Rat.le_of_lt h0)
    have h1 : b.num ≠ 0 := fun z => by
      rw [Rat.num_eq_zero] at z
      rw [z] at h0
      exact Rat.lt_irrefl h0
    omega
  have hd : ((a.den : Int) * b.num).natAbs < 2 ^ 9000 := by
    rw [Int.natAbs_mul]
    exact Nat.lt_of_lt_of_le (Nat.mul_lt_mul'' ha.2 hb.1) (by rw [← Nat.pow_add]; exact Nat.pow_le_pow_right (by decide) h)
  have e : Rat.divInt (a.num * b.den) ((a.den : Int) * b.num) = a / b := by
    rw [← Rat.divInt_mul_divInt, Rat.num_divInt_den, Rat.div_def, Rat.inv_def]
  simp [g_divided, gRun, sRun, ini, fs_divided, fr, dMul_i (hn (p := a.num) (q := (b.den : Int)) ha.1 hb.2), dMul_i (hn (p := (a.den : Int)) (q := b.num) ha.2 hb.1)]
  rw [s_lowest (Int.mul_pos d1 d2) hd, e]
  rfl
theorem Sm.add (ha : Sm n a) (hb : Sm m b) : Sm (n + m + 1) (a + b) := by
  have k1 := ha.1; have k2 := ha.2; have k3 := hb.1; have k4 := hb.2
  have p1 : a.num.natAbs * b.den < 2 ^ n * 2 ^ m := Nat.mul_lt_mul'' k1 k4
  have p2 : b.num.natAbs * a.den < 2 ^ m * 2 ^ n := Nat.mul_lt_mul'' k3 k2
  have p3 : a.den * b.den < 2 ^ n * 2 ^ m := Nat.mul_lt_mul'' k2 k4
  rw [Nat.mul_comm (2 ^ m)] at p2
  have ep : 2 ^ (n + m + 1) = 2 * (2 ^ n * 2 ^ m) := by rw [Nat.pow_succ, Nat.pow_add]; omega
  constructor
  · rw [Rat.num_add, ep]
    refine Nat.lt_of_le_of_lt (Int.natAbs_ediv_le_natAbs _ _) ?_
    refine Nat.lt_of_le_of_lt (Int.natAbs_add_le _ _) ?_
    rw [Int.natAbs_mul, Int.natAbs_mul]
    simp only [Int.natAbs_natCast]
    omega
  · rw [Rat.den_add, ep]
    refine Nat.lt_of_le_of_lt (Nat.div_le_self _ _) ?_
    omega
end
end Ph
end
section
set_option Elab.async false
set_option linter.all false
set_option maxRecDepth 100000
set_option exponentiation.threshold 200000
/-! Plain law, part b: data of lots and fractions; comprehensions without change. -/
namespace Ph
open PySem PySem.Spec PyProof.Rows L2
/-! ### comprehensions -/
section
variable {ρ : En} {π : Store} {t : ST} {e : SE} {it : SA} {i : Nat} {vs : List Nat} {α : Type} {xs : List α} {enc f : α → D} {keep : α → Bool}
theorem lc_pure : ∀ {xs : List α}, (∀ x ∈ xs, t (ρ.set i (some (enc x))) π = .ok (keep x, π) ∧ (keep x = true → e (ρ.set i (some (enc x))) π = .ok (f x, π))) → lcLoop (gN i) t e (xs.map enc) ρ π = .ok ((xs.filter keep).map f, π)
  | [], _ => rfl
  | x :: xs, h => by
    obtain ⟨h1, h2⟩ := h x List.mem_cons_self
    have ih := lc_pure (xs := xs) fun y hy => h y (List.mem_cons_of_mem _ hy)
    simp only [List.map_cons, lcLoop, gN_ap, noX_ok, Res.bind_ok, h1]
    cases hk : keep x with
    | true => simp [h2 hk, ih, List.filter_cons, hk]
    | false => simp [ih, List.filter_cons, hk]
theorem eLc_pure (hs : it ρ π = .ok (xs.map enc, π)) (hl : xs.length ≤ 100000) (h : ∀ x ∈ xs, t ((wipeE ρ vs).set i (some (enc x))) π = .ok (keep x, π) ∧ (keep x = true → e ((wipeE ρ vs).set i (some (enc x))) π = .ok (f x, π))) :
    eLc it vs (gN i) t e ρ π = .ok (.lst ((xs.filter keep).map f), π) := by
  unfold eLc
  rw [hs]
  simp only [Res.bind_ok, small5, List.length_map, hl, if_true]
  rw [lc_pure h]
  rfl
/-- no test -/
theorem eLc_all (hs : it ρ π = .ok (xs.map enc, π)) (hl : xs.length ≤ 100000) (h : ∀ x ∈ xs, e ((wipeE ρ vs).set i (some (enc x))) π = .ok (f x, π)) :
    eLc it vs (gN i) tYesD e ρ π = .ok (.lst (xs.map f), π) := by
  rw [eLc_pure (keep := fun _ => true) (f := f) hs hl fun x hx => ⟨rfl, fun _ => h x hx⟩, List.filter_eq_self.mpr fun _ _ => rfl]
end
/-! ### lots -/
abbrev Lot := List Int
def dL (l : Lot) : D := .tup (l.map .int)
section
variable {l m : Lot} {c d : Int} {π : Store} {a b : Rat} {n : Nat}
@[simp] theorem deq_ii : deq (.int c) (.int d) = decide (c = d) := by
  show (c == d) = _
  rw [Bool.eq_iff_iff]
  simp
theorem deqL_ints : ∀ {l m : List Int}, deqL (l.map D.int) (m.map D.int) = decide (l = m)
  | [], [] => by simp [deqL]
  | [], _ :: _ => by simp [deqL]
  | _ :: _, [] => by simp [deqL]
  | x :: l, y :: m => by
    simp [deqL, deqL_ints]
@[simp] theorem deq_L : deq (dL l) (dL m) = decide (l = m) := by
  simp only [dL, deq]
  exact deqL_ints
theorem fitsL_ints : ∀ {l : List Int}, fitsL (l.map D.int) n = true
  | [] => rfl
  | x :: l => by
    simp only [List.map_cons, fitsL, fits, Bool.true_and]
    exact fitsL_ints
@[simp] theorem fits_L : fits (dL l) (n + 1) = true := fitsL_ints
@[simp] theorem fits_i : fits (.int c) n = true := by cases n <;> rfl
@[simp] theorem fits_n : fits .non n = true := by cases n <;> rfl
@[simp] theorem fits_bb {b : Bool} : fits (.bl b) n = true := by cases n <;> rfl
theorem dEq_L : dEq (dL l) (dL m) = some (.bl (decide (l = m))) := by simp [dEq]
@[simp] theorem dEq_i : dEq (.int c) (.int d) = some (.bl (decide (c = d))) := by simp [dEq]
@[simp] theorem dNe_i : dNe (.int c) (.int d) = some (.bl (!decide (c = d))) := by simp [dNe]
@[simp] theorem flat_i : flatD (.int c) = true := rfl
theorem flat_ints : (l.map D.int).all flatD = true := by simp [List.all_map, flatD]
theorem any_ints : ((l.map D.int).any fun y => deq y (.int c)) = decide (c ∈ l) := by
  induction l with
  | nil => simp
  | cons x l ih =>
    rw [List.map_cons, List.any_cons, ih, deq_ii, Bool.eq_iff_iff, Bool.or_eq_true, decide_eq_true_eq, decide_eq_true_eq, decide_eq_true_eq, List.mem_cons]
    exact or_congr eq_comm Iff.rfl
theorem dIn_L {neg : Bool} : dIn neg (.int c) (dL l) = some (.bl (if neg then !decide (c ∈ l) else decide (c ∈ l))) := by
  unfold dIn dL itemsD
  simp only [Option.bind_some, flat_i, Bool.true_and, flat_ints, if_true, any_ints]
@[simp] theorem dIn_f : dIn false (.int c) (dL l) = some (.bl (decide (c ∈ l))) := dIn_L
@[simp] theorem dIn_t : dIn true (.int c) (dL l) = some (.bl (!decide (c ∈ l))) := dIn_L
@[simp] theorem tup?_L : tup? (dL l) = .ok (l.map .int) := rfl
@[simp] theorem seq?_L : seq? (dL l) = .ok (l.map .int) := rfl
theorem fTuple_l {ds : List D} : fTuple [.lst ds] = .ok (.tup ds) := rfl
@[simp] theorem fLen_L : fLen [dL l] = .ok (.int l.length) := by simp [dL]
/-! ### fractions -/
theorem fr_eq : fr a = fr b ↔ a = b := by
  constructor
  · intro h
    unfold fr at h
    injection h with h
    injection h with h1 h2
    injection h2 with h2 _
    injection h1 with h1
    injection h2 with h2
    exact Rat.ext h1 (by omega)
  · rintro rfl; rfl
@[simp] theorem deq_fr : deq (fr a) (fr b) = decide (a = b) := by
  simp only [fr, deq, deqL, Bool.and_true]
  rw [Bool.eq_iff_iff]
  simp only [Bool.and_eq_true, beq_iff_eq, decide_eq_true_eq]
  constructor
  · rintro ⟨h1, h2⟩
    exact Rat.ext h1 (by omega)
  · rintro rfl; exact ⟨rfl, rfl⟩
@[simp] theorem fits_fr : fits (fr a) (n + 1) = true := rfl
@[simp] theorem dEq_fr : dEq (fr a) (fr b) = some (.bl (decide (a = b))) := by simp [dEq]
@[simp] theorem dNe_fr : dNe (fr a) (fr b) = some (.bl (!decide (a = b))) := by simp [dNe]
theorem d_ZERO_fr : d_ZERO = fr 0 := rfl
theorem d_ONE_fr : d_ONE = fr 1 := rfl
theorem Sm.zero : Sm 1 0 := ⟨by decide, by decide⟩
/-- the sum of not too many -/
theorem Sm.sum {k : Nat} : ∀ {l : List Rat} {s : Rat} {m : Nat}, (∀ r ∈ l, Sm k r) → Sm m s → Sm (m + l.length * (k + 1)) (l.foldl (· + ·) s)
  | [], s, m, _, h => by simpa using h
  | x :: l, s, m, hl, h => by
    have h1 := Sm.add h (hl x List.mem_cons_self)
    have h2 := Sm.sum (l := l) (fun r hr => hl r (List.mem_cons_of_mem _ hr)) h1
    refine h2.mono ?_
    rw [List.length_cons, Nat.add_mul]
    omega
def sumR (l : List Rat) : Rat := l.foldl (· + ·) 0
theorem sum_loop {k : Nat} : ∀ {l : List Rat} {s : Rat} {m : Nat} {u v : Option D}, (∀ r ∈ l, Sm k r) → Sm m s → m + (l.length + 1) * (k + 1) ≤ 9000 →
    ∃ v', sLoop (gN 2) (sSet 1 (eCall g_plus (aCons (eV 1) (aCons (eV 2) aNil)))) (l.map fr) [u, some (fr s), v] π = .ok (.nx [u, some (fr (l.foldl (· + ·) s)), v'] π)
  | [], s, m, u, v, _, _, _ => ⟨v, rfl⟩
  | x :: l, s, m, u, v, hl, h, hb => by
    have hx := hl x List.mem_cons_self
    rw [List.length_cons, Nat.add_mul] at hb
    have hb' : m + k ≤ 9000 := by omega
    obtain ⟨v', q⟩ := sum_loop (l := l) (s := s + x) (m := m + k + 1) (u := u) (v := some (fr x)) (fun r hr => hl r (List.mem_cons_of_mem _ hr)) (h.add hx) (by omega)
    refine ⟨v', ?_⟩
    rw [List.map_cons]
    unfold sLoop
    simp [s_plus h hx hb', q]
theorem s_sum_of {k : Nat} {l : List Rat} (hl : ∀ r ∈ l, Sm k r) (hb : (l.length + 2) * (k + 1) ≤ 9000) : (g_sum_of [.lst (l.map fr)] π = .ok (fr (sumR l), π)) ∧ (g_sum_of [.tup (l.map fr)] π = .ok (fr (sumR l), π)) := by
  have hb' : 1 + (l.length + 1) * (k + 1) ≤ 9000 := by
    rw [Nat.add_mul] at hb ⊢
    omega
  constructor
  · obtain ⟨v', q⟩ := sum_loop (π := π) (u := some (.lst (l.map fr))) (v := none) hl Sm.zero hb'
    simp [g_sum_of, gRun, sRun, ini, fs_sum_of, d_ZERO_fr, List.replicate, q]
    rfl
  · obtain ⟨v', q⟩ := sum_loop (π := π) (u := some (.tup (l.map fr))) (v := none) hl Sm.zero hb'
    simp [g_sum_of, gRun, sRun, ini, fs_sum_of, d_ZERO_fr, List.replicate, q]
    rfl
end
end Ph
end
section
set_option Elab.async false
set_option linter.all false
set_option maxRecDepth 100000
set_option exponentiation.threshold 200000
/-! Plain law, part c: halls; what is seen and told. -/
namespace Ph
open PySem PySem.Spec PyProof.Rows L2
abbrev Part := Lot × List Rat
abbrev Tel := List Part
structure Hl where
  n : Int
  ts : List Tel
def dF (l : List Rat) : D := .tup (l.map fr)
def dP (p : Part) : D := .tup [dL p.1, dF p.2]
def dT (t : Tel) : D := .tup (t.map dP)
def dTs (ts : List Tel) : D := .tup (ts.map dT)
/-- the hall of the package -/
def dH (h : Hl) : D := .obj 0 [.int h.n, dTs h.ts]
/-- the parts of a hall, as the law draws them -/
def dHL (h : Hl) : D := .tup [.int h.n, dTs h.ts]
structure PartOk (n : Int) (p : Part) : Prop where
  rng : ∀ c ∈ p.1, 0 ≤ c ∧ c < n
  asc : p.1.Pairwise (· < ·)
  ne : p.1 ≠ []
  len : p.2.length = p.1.length
  pos : ∀ r ∈ p.2, 0 < r
  sm : ∀ r ∈ p.2, Sm 8 r
  one : sumR p.2 = 1
structure TelOk (n : Int) (t : Tel) : Prop where
  part : ∀ p ∈ t, PartOk n p
  cov : ∀ c, 0 ≤ c → c < n → ∃ p ∈ t, c ∈ p.1
  one : ∀ p ∈ t, ∀ q ∈ t, ∀ c, c ∈ p.1 → c ∈ q.1 → p = q
  short : t.length ≤ 6
structure HlOk (h : Hl) : Prop where
  n2 : 2 ≤ h.n
  n6 : h.n ≤ 6
  t1 : 1 ≤ h.ts.length
  t3 : h.ts.length ≤ 3
  tel : ∀ t ∈ h.ts, TelOk h.n t
/-- an ascending list between two bounds is short -/
theorem asc_len : ∀ {l : List Int} {a b : Int}, l.Pairwise (· < ·) → (∀ c ∈ l, a ≤ c ∧ c < b) → (l.length : Int) ≤ max 0 (b - a)
  | [], a, b, _, _ => by simp; omega
  | x :: l, a, b, h, hr => by
    obtain ⟨h1, h2⟩ := List.pairwise_cons.mp h
    have hx := hr x List.mem_cons_self
    have ih := asc_len (l := l) (a := x + 1) (b := b) h2 fun c hc => ⟨by have := h1 c hc; omega, (hr c (List.mem_cons_of_mem _ hc)).2⟩
    rw [List.length_cons]
    omega
/-- a lot of cases of a hall of n cases -/
structure LotOk (n : Int) (l : Lot) : Prop where
  rng : ∀ c ∈ l, 0 ≤ c ∧ c < n
  asc : l.Pairwise (· < ·)
theorem LotOk.len {n : Int} {l : Lot} (h : LotOk n l) (hn : n ≤ 6) : l.length ≤ 6 := by
  have := asc_len h.asc h.rng
  omega
theorem LotOk.filter {n : Int} {l : Lot} (h : LotOk n l) (p : Int → Bool) : LotOk n (l.filter p) := ⟨fun c hc => h.rng c (List.mem_filter.mp hc).1, h.asc.filter p⟩
def telAt (h : Hl) (p : Int) : Tel := h.ts.getD p.toNat []
def partAt (h : Hl) (p c : Int) : Part := ((telAt h p).filter fun q => decide (c ∈ q.1)).headD ([], [])
def seenBy (h : Hl) (p c : Int) : Lot := (partAt h p c).1
def toldOf (h : Hl) (p c : Int) : Rat := (partAt h p c).2.getD ((partAt h p c).1.idxOf c) 0
def common (l m : Lot) : Lot := l.filter fun c => decide (c ∈ m)
def seesBy (h : Hl) (can : Lot) (p c : Int) : Lot := common (seenBy h p c) can
def chanceIn (h : Hl) (p : Int) (lot cases : Lot) : Rat := sumR ((cases.filter fun c => decide (c ∈ lot)).map (toldOf h p)) / sumR (cases.map (toldOf h p))
def saysBy (h : Hl) (can : Lot) (p c : Int) (lot : Lot) : Rat := chanceIn h p lot (seesBy h can p c)
def behindSaying (h : Hl) (can : Lot) (c p : Int) (lot : Lot) : Lot := can.filter fun e => decide (saysBy h can p e lot = saysBy h can p c lot)
/-- a person, a case -/
abbrev IsP (h : Hl) (p : Int) : Prop := 0 ≤ p ∧ p < h.ts.length
abbrev IsC' (h : Hl) (c : Int) : Prop := 0 ≤ c ∧ c < h.n
section
variable {h : Hl} {p c : Int} {π : Store} {l m : Lot}
theorem telAt_ok (H : HlOk h) (hp : IsP h p) : TelOk h.n (telAt h p) := by
  refine H.tel _ ?_
  unfold telAt
  rw [List.getD_eq_getElem?_getD, List.getElem?_eq_getElem (by omega)]
  exact List.getElem_mem _
theorem partAt_mem (H : HlOk h) (hp : IsP h p) (hc : IsC' h c) : partAt h p c ∈ telAt h p ∧ c ∈ (partAt h p c).1 := by
  obtain ⟨q, hq, hcq⟩ := (telAt_ok H hp).cov c hc.1 hc.2
  have hm : q ∈ (telAt h p).filter fun q => decide (c ∈ q.1) := List.mem_filter.mpr ⟨hq, decide_eq_true hcq⟩
  unfold partAt
  cases e : (telAt h p).filter fun q => decide (c ∈ q.1) with
  | nil => rw [e] at hm; cases hm
  | cons r rs =>
    have : r ∈ (telAt h p).filter fun q => decide (c ∈ q.1) := by rw [e]; exact List.mem_cons_self
    obtain ⟨h1, h2⟩ := List.mem_filter.mp this
    exact ⟨h1, of_decide_eq_true h2⟩
theorem part_ok (H : HlOk h) (hp : IsP h p) (hc : IsC' h c) : PartOk h.n (partAt h p c) := (telAt_ok H hp).part _ (partAt_mem H hp hc).1
theorem seen_ok (H : HlOk h) (hp : IsP h p) (hc : IsC' h c) : LotOk h.n (seenBy h p c) := ⟨(part_ok H hp hc).rng, (part_ok H hp hc).asc⟩
theorem seen_self (H : HlOk h) (hp : IsP h p) (hc : IsC' h c) : c ∈ seenBy h p c := (partAt_mem H hp hc).2
/-- who is seen sees the same part -/
theorem partAt_eq (H : HlOk h) (hp : IsP h p) (hc : IsC' h c) {d : Int} (hd : d ∈ seenBy h p c) : partAt h p d = partAt h p c := by
  have hd' : IsC' h d := (seen_ok H hp hc).rng d hd
  exact (telAt_ok H hp).one _ (partAt_mem H hp hd').1 _ (partAt_mem H hp hc).1 d (partAt_mem H hp hd').2 hd
theorem told_mem (H : HlOk h) (hp : IsP h p) (hc : IsC' h c) : toldOf h p c ∈ (partAt h p c).2 := by
  have q := partAt_mem H hp hc
  have hi : (partAt h p c).1.idxOf c < (partAt h p c).1.length := List.idxOf_lt_length_of_mem q.2
  unfold toldOf
  rw [List.getD_eq_getElem?_getD, List.getElem?_eq_getElem (by rw [(part_ok H hp hc).len]; exact hi)]
  exact List.getElem_mem _
theorem told_pos (H : HlOk h) (hp : IsP h p) (hc : IsC' h c) : 0 < toldOf h p c := (part_ok H hp hc).pos _ (told_mem H hp hc)
theorem told_sm (H : HlOk h) (hp : IsP h p) (hc : IsC' h c) : Sm 8 (toldOf h p c) := (part_ok H hp hc).sm _ (told_mem H hp hc)
@[simp] theorem fld_ts : dFld 0 1 (dH h) π = some (dTs h.ts) := rfl
@[simp] theorem fld_n : dFld 0 0 (dH h) π = some (.int h.n) := rfl
theorem dTs_at (hp : IsP h p) : dIx (dTs h.ts) (.int p) = some (dT (telAt h p)) := by
  show atI (h.ts.map dT) p = _
  rw [atI_nat' hp.1 (by rw [List.length_map]; exact hp.2), List.getElem?_map]
  unfold telAt
  rw [List.getD_eq_getElem?_getD]
  have : p.toNat < h.ts.length := by omega
  rw [List.getElem?_eq_getElem this]
  rfl
@[simp] theorem dP_0 {q : Part} : dIx (dP q) (.int 0) = some (dL q.1) := by
  show atI [dL q.1, dF q.2] 0 = _
  simp
@[simp] theorem dP_1 {q : Part} : dIx (dP q) (.int 1) = some (dF q.2) := by
  show atI [dL q.1, dF q.2] 1 = _
  simp
theorem s_part_at (H : HlOk h) (hp : IsP h p) (hc : IsC' h c) : g_part_at [dH h, .int p, .int c] π = .ok (dP (partAt h p c), π) := by
  have hs := (telAt_ok H hp).short
  have e := eLc_pure (ρ := [some (dH h), some (.int p), some (.int c), none]) (π := π) (it := iS (eOp dIx (eUnS (dFld 0 1) (eV 0)) (eV 1))) (i := 3) (vs := [3]) (t := tB (eOp (dIn false) (eV 2) (eOp dIx (eV 3) (eC (.int 0))))) (e := eV 3) (xs := telAt h p) (enc := dP) (f := dP) (keep := fun q => decide (c ∈ q.1))
    (by simp [dTs_at hp, dT]) (by omega) (fun q hq => by simp [wipeE])
  have hne : (telAt h p).filter (fun q => decide (c ∈ q.1)) ≠ [] := fun z => by
    have q := partAt_mem H hp hc
    have : partAt h p c ∈ (telAt h p).filter fun q => decide (c ∈ q.1) := List.mem_filter.mpr ⟨q.1, decide_eq_true q.2⟩
    rw [z] at this
    cases this
  simp only [g_part_at, gRun, sRun, ini, fs_part_at, List.length_cons, List.length_nil, if_true, List.map_cons, List.map_nil, List.replicate, Nat.reduceSub, Nat.reduceAdd, List.cons_append, List.nil_append, sRet_ap, eOp_ap, e, Res.bind_ok, eC_ap, dIx_l]
  unfold partAt
  cases ef : (telAt h p).filter fun q => decide (c ∈ q.1) with
  | nil => exact absurd ef hne
  | cons r rs => simp
theorem s_seen_by (H : HlOk h) (hp : IsP h p) (hc : IsC' h c) : g_seen_by [dH h, .int p, .int c] π = .ok (dL (seenBy h p c), π) := by
  simp [g_seen_by, gRun, sRun, ini, fs_seen_by, s_part_at H hp hc]
  rfl
end
end Ph
end
section
set_option Elab.async false
set_option linter.all false
set_option maxRecDepth 100000
set_option exponentiation.threshold 200000
/-! Plain law, part d: what is said; what all heard. -/
namespace Ph
open PySem PySem.Spec PyProof.Rows L2
section
variable {h : Hl} {p c : Int} {π : Store} {l m can lot : Lot}
theorem idxD_ints : ∀ {l : List Int} {n : Nat}, c ∈ l → idxD (.int c) (l.map D.int) n = some (n + l.idxOf c)
  | x :: l, n, hc => by
    simp only [List.map_cons, idxD, deq_ii, decide_eq_true_eq, List.idxOf_cons]
    by_cases hx : x = c
    · simp [hx]
    · have : (x == c) = false := by simpa using hx
      simp only [hx, if_false, this, cond_false]
      rcases List.mem_cons.mp hc with z | z
      · exact absurd z.symm hx
      · rw [idxD_ints z]
        congr 1
        omega
theorem dTIdx_L (hc : c ∈ l) : dTIdx (dL l) (.int c) = some (.int (l.idxOf c : Nat)) := by
  unfold dTIdx dL
  simp only [flat_i, flat_ints, Bool.true_and, if_true, idxD_ints hc, Option.map_some, Nat.zero_add]
@[simp] theorem gT2_P {q : Part} {ρ : En} {i j : Nat} : gT2 i j (dP q) ρ π = .ok ((ρ.set i (some (dL q.1))).set j (some (dF q.2)), π) := rfl
theorem s_told_of (H : HlOk h) (hp : IsP h p) (hc : IsC' h c) : g_told_of [dH h, .int p, .int c] π = .ok (fr (toldOf h p c), π) := by
  have q := partAt_mem H hp hc
  have hi : (partAt h p c).1.idxOf c < (partAt h p c).1.length := List.idxOf_lt_length_of_mem q.2
  have hl := (part_ok H hp hc).len
  have e : dIx (dF (partAt h p c).2) (.int ((partAt h p c).1.idxOf c : Nat)) = some (fr (toldOf h p c)) := by
    show atI ((partAt h p c).2.map fr) _ = _
    rw [atI_nat' (by omega) (by rw [List.length_map]; omega), List.getElem?_map]
    unfold toldOf
    rw [List.getD_eq_getElem?_getD]
    have : (((partAt h p c).1.idxOf c : Nat) : Int).toNat < (partAt h p c).2.length := by omega
    rw [List.getElem?_eq_getElem this]
    simp [hl, hi]
  simp [g_told_of, gRun, sRun, ini, fs_told_of, s_part_at H hp hc, List.replicate, dTIdx_L q.2, e]
theorem s_common_of (hl : l.length ≤ 6) : g_common_of [dL l, dL m] π = .ok (dL (common l m), π) := by
  have e := eLc_pure (ρ := [some (dL l), some (dL m), none]) (π := π) (it := iS (eV 0)) (i := 2) (vs := [2]) (t := tB (eOp (dIn false) (eV 2) (eV 1))) (e := eV 2) (xs := l) (enc := D.int) (f := D.int) (keep := fun c => decide (c ∈ m))
    (by simp) (by omega) (fun q hq => by simp [wipeE])
  simp [g_common_of, gRun, sRun, ini, fs_common_of, List.replicate, e, fTuple_l]
  rfl
theorem s_sees_by (H : HlOk h) (hp : IsP h p) (hc : IsC' h c) : g_sees_by [dH h, dL can, .int p, .int c] π = .ok (dL (seesBy h can p c), π) := by
  simp [g_sees_by, gRun, sRun, ini, fs_sees_by, List.replicate, s_seen_by H hp hc, s_common_of ((seen_ok H hp hc).len H.n6)]
  rfl
theorem sees_ok (H : HlOk h) (hp : IsP h p) (hc : IsC' h c) : LotOk h.n (seesBy h can p c) := (seen_ok H hp hc).filter _
theorem sees_self (H : HlOk h) (hp : IsP h p) (hc : IsC' h c) (hm : c ∈ can) : c ∈ seesBy h can p c := List.mem_filter.mpr ⟨seen_self H hp hc, decide_eq_true hm⟩
/-! ### sums -/
theorem sumR_pos_aux : ∀ {l : List Rat} {s : Rat}, (∀ r ∈ l, 0 < r) → 0 ≤ s → s ≤ l.foldl (· + ·) s ∧ (l ≠ [] → s < l.foldl (· + ·) s)
  | [], s, _, _ => ⟨Rat.le_refl, fun z => absurd rfl z⟩
  | x :: l, s, h, hs => by
    have hx := h x List.mem_cons_self
    have h1 : s < s + x := by grind
    have := sumR_pos_aux (l := l) (s := s + x) (fun r hr => h r (List.mem_cons_of_mem _ hr)) (by grind)
    constructor
    · have := this.1
      show s ≤ l.foldl (· + ·) (s + x)
      grind
    · intro _
      have := this.1
      show s < l.foldl (· + ·) (s + x)
      grind
theorem sumR_pos {l : List Rat} (h : ∀ r ∈ l, 0 < r) (hn : l ≠ []) : 0 < sumR l := (sumR_pos_aux h Rat.le_refl).2 hn
theorem sumR_sm {l : List Rat} {k : Nat} (h : ∀ r ∈ l, Sm k r) (hl : l.length ≤ 6) : Sm (6 * (k + 1) + 1) (sumR l) := by
  refine (Sm.sum h Sm.zero).mono ?_
  have := Nat.mul_le_mul_right (k + 1) hl
  omega
theorem Sm.div {a b : Rat} {n m : Nat} (ha : Sm n a) (hb : Sm m b) : Sm (n + m) (a / b) := by
  have k1 := ha.1; have k2 := ha.2; have k3 := hb.1; have k4 := hb.2
  have p1 : a.num.natAbs * b.den < 2 ^ n * 2 ^ m := Nat.mul_lt_mul'' k1 k4
  have p2 : a.den * b.num.natAbs < 2 ^ n * 2 ^ m := Nat.mul_lt_mul'' k2 k3
  rw [← Nat.pow_add] at p1 p2
  have e : a / b = Rat.divInt (a.num * b.den) ((a.den : Int) * b.num) := by
    rw [← Rat.divInt_mul_divInt, Rat.num_divInt_den, Rat.div_def, Rat.inv_def]
  have one : 1 < 2 ^ (n + m) := by
    have h1 := a.den_pos
    have h2 : 0 < n := by
      rcases Nat.eq_zero_or_pos n with z | z
      · subst z
        have : a.den < 1 := k2
        omega
      · exact z
    exact Nat.one_lt_two_pow (by omega)
  rw [e]
  constructor
  · rw [Rat.num_divInt]
    refine Nat.lt_of_le_of_lt (Int.natAbs_ediv_le_natAbs _ _) ?_
    rw [Int.natAbs_mul, Int.natAbs_mul]
    have : ((a.den : Int) * b.num).sign.natAbs ≤ 1 := by
      rcases Int.lt_trichotomy ((a.den : Int) * b.num) 0 with z | z | z
      · rw [Int.sign_eq_neg_one_of_neg z]; decide
      · rw [z]; decide
      · rw [Int.sign_eq_one_of_pos z]; decide
    have := Nat.mul_le_mul_right (a.num.natAbs * (b.den : Int).natAbs) this
    simp only [Int.natAbs_natCast] at this ⊢
    omega
  · rw [Rat.den_divInt]
    split
    · exact one
    · refine Nat.lt_of_le_of_lt (Nat.div_le_self _ _) ?_
      rw [Int.natAbs_mul]
      exact p2
theorem s_chance_in (H : HlOk h) (hp : IsP h p) (hr : LotOk h.n l) (hn : l ≠ []) : g_chance_in [dH h, .int p, dL lot, dL l] π = .ok (fr (chanceIn h p lot l), π) := by
  have hl := hr.len H.n6
  have hl2 : (l.filter fun c => decide (c ∈ lot)).length ≤ 6 := Nat.le_trans (List.length_filter_le _ _) hl
  have sm : ∀ m : Lot, (∀ c ∈ m, c ∈ l) → ∀ r ∈ m.map (toldOf h p), Sm 8 r := fun m hm r hr' => by
    obtain ⟨c, hc, rfl⟩ := List.mem_map.mp hr'
    exact told_sm H hp (hr.rng c (hm c hc))
  have ps : ∀ m : Lot, (∀ c ∈ m, c ∈ l) → ∀ r ∈ m.map (toldOf h p), 0 < r := fun m hm r hr' => by
    obtain ⟨c, hc, rfl⟩ := List.mem_map.mp hr'
    exact told_pos H hp (hr.rng c (hm c hc))
  have s1 := sm l fun _ z => z
  have s2 := sm (l.filter fun c => decide (c ∈ lot)) fun c z => (List.mem_filter.mp z).1
  have p1 : 0 < sumR (l.map (toldOf h p)) := sumR_pos (ps l fun _ z => z) (by simpa using hn)
  have e1 : ∀ {w : Option D} {v : Option D}, eLc (iS (eV 3)) [6] (gN 6) tYesD (eCall g_told_of (aCons (eV 0) (aCons (eV 1) (aCons (eV 6) aNil)))) [some (dH h), some (.int p), some (dL lot), some (dL l), w, v, none] π = .ok (.lst ((l.map (toldOf h p)).map fr), π) := fun {w v} => by
    rw [List.map_map]
    exact eLc_all (xs := l) (enc := D.int) (f := fun c => fr (toldOf h p c)) (by simp) (by omega) fun c hc => by simp [wipeE, s_told_of H hp (hr.rng c hc)]
  have e2 : ∀ {w : Option D} {v : Option D}, eLc (iS (eV 3)) [6] (gN 6) (tB (eOp (dIn false) (eV 6) (eV 2))) (eCall g_told_of (aCons (eV 0) (aCons (eV 1) (aCons (eV 6) aNil)))) [some (dH h), some (.int p), some (dL lot), some (dL l), w, v, none] π = .ok (.lst (((l.filter fun c => decide (c ∈ lot)).map (toldOf h p)).map fr), π) := fun {w v} => by
    rw [List.map_map]
    exact eLc_pure (xs := l) (enc := D.int) (f := fun c => fr (toldOf h p c)) (keep := fun c => decide (c ∈ lot)) (by simp) (by omega) fun c hc => by simp [wipeE, s_told_of H hp (hr.rng c hc)]
  have b1 := sumR_sm s1 (by rw [List.length_map]; exact hl)
  have b2 := sumR_sm s2 (by rw [List.length_map]; exact hl2)
  have q1 := (s_sum_of (π := π) s1 (by rw [List.length_map]; omega)).1
  have q2 := (s_sum_of (π := π) s2 (by rw [List.length_map]; omega)).1
  unfold chanceIn
  simp only [g_chance_in, gRun, sRun, ini, fs_chance_in, List.length_cons, List.length_nil, if_true, List.map_cons, List.map_nil, List.replicate, Nat.reduceSub, Nat.reduceAdd, List.cons_append, List.nil_append, sSeq_ap, sSet_ap, eCall_ap, aCons_ap, aNil_ap, e1, e2, Res.bind_ok, q1, q2, List.set_cons_succ, List.set_cons_zero]
  by_cases hz : sumR ((l.filter fun c => decide (c ∈ lot)).map (toldOf h p)) = 0
  · rw [hz]
    simp [d_ZERO_fr, Rat.div_def, Rat.zero_mul]
  · simp [d_ZERO_fr, hz, s_divided b2 b1 p1 (by omega)]
theorem s_says_by (H : HlOk h) (hp : IsP h p) (hc : IsC' h c) (hm : c ∈ can) : g_says_by [dH h, dL can, .int p, .int c, dL lot] π = .ok (fr (saysBy h can p c lot), π) := by
  have hn : seesBy h can p c ≠ [] := fun z => by
    have := sees_self H hp hc hm
    rw [z] at this
    cases this
  simp [g_says_by, gRun, sRun, ini, fs_says_by, List.replicate, s_sees_by H hp hc, s_chance_in H hp (sees_ok H hp hc) hn]
  rfl
theorem says_sm (H : HlOk h) (hp : IsP h p) (hc : IsC' h c) : Sm 200 (saysBy h can p c lot) := by
  have hr := sees_ok (can := can) H hp hc
  have sm : ∀ m : Lot, (∀ d ∈ m, d ∈ seesBy h can p c) → ∀ r ∈ m.map (toldOf h p), Sm 8 r := fun m hm r hr' => by
    obtain ⟨d, hd, rfl⟩ := List.mem_map.mp hr'
    exact told_sm H hp (hr.rng d (hm d hd))
  have b1 := sumR_sm (sm _ fun _ z => z) (by rw [List.length_map]; exact hr.len H.n6)
  have b2 := sumR_sm (sm ((seesBy h can p c).filter fun d => decide (d ∈ lot)) fun d z => (List.mem_filter.mp z).1) (by rw [List.length_map]; exact Nat.le_trans (List.length_filter_le _ _) (hr.len H.n6))
  exact (b2.div b1).mono (by omega)
theorem s_behind_saying (H : HlOk h) (hp : IsP h p) (hk : LotOk h.n can) (hm : c ∈ can) : g_behind_saying [dH h, dL can, .int c, .int p, dL lot] π = .ok (dL (behindSaying h can c p lot), π) := by
  have hc : IsC' h c := hk.rng c hm
  have e : ∀ {w : Option D}, eLc (iS (eV 1)) [6] (gN 6) (tB (eOp dEq (eCall g_says_by (aCons (eV 0) (aCons (eV 1) (aCons (eV 3) (aCons (eV 6) (aCons (eV 4) aNil)))))) (eV 5))) (eV 6) [some (dH h), some (dL can), some (.int c), some (.int p), some (dL lot), some (fr (saysBy h can p c lot)), w] π = .ok (.lst ((behindSaying h can c p lot).map D.int), π) := fun {w} =>
    eLc_pure (xs := can) (enc := D.int) (f := D.int) (keep := fun e => decide (saysBy h can p e lot = saysBy h can p c lot)) (by simp) (by have := hk.len H.n6; omega) fun d hd => by simp [wipeE, s_says_by H hp (hk.rng d hd) hd]
  simp [g_behind_saying, gRun, sRun, ini, fs_behind_saying, List.replicate, s_says_by H hp hc hm, e, fTuple_l]
  rfl
end
end Ph
end
section
set_option Elab.async false
set_option linter.all false
set_option maxRecDepth 100000
set_option exponentiation.threshold 200000
/-! Plain law, part e: what is a lot, a telling, a hall. -/
namespace Ph
open PySem PySem.Spec PyProof.Rows L2
@[simp] theorem dIs_L {l : Lot} : dIs "tuple" (dL l) = some (.bl true) := dIs_t_tuple
@[simp] theorem dIs_P {l : Part} : dIs "tuple" (dP l) = some (.bl true) := dIs_t_tuple
@[simp] theorem dIs_F {l : List Rat} : dIs "tuple" (dF l) = some (.bl true) := dIs_t_tuple
@[simp] theorem dIs_T {l : Tel} : dIs "tuple" (dT l) = some (.bl true) := dIs_t_tuple
@[simp] theorem dIs_Ts {l : List Tel} : dIs "tuple" (dTs l) = some (.bl true) := dIs_t_tuple
@[simp] theorem dIs_fr {a : Rat} : dIs "tuple" (fr a) = some (.bl true) := dIs_t_tuple
section
variable {ρ : En} {π : Store} {t : ST} {e : SE} {it it1 : SA} {i j : Nat} {vs vs1 : List Nat} {α β : Type} {xs : List α} {enc f : α → D} {keep : α → Bool} {tg : STg}
theorem lc_gen : ∀ {xs : List α}, (∀ x ∈ xs, ∃ ρ', tg (enc x) ρ π = .ok (ρ', π) ∧ t ρ' π = .ok (keep x, π) ∧ (keep x = true → e ρ' π = .ok (f x, π))) → lcLoop tg t e (xs.map enc) ρ π = .ok ((xs.filter keep).map f, π)
  | [], _ => rfl
  | x :: xs, h => by
    obtain ⟨ρ', h0, h1, h2⟩ := h x List.mem_cons_self
    have ih := lc_gen (xs := xs) fun y hy => h y (List.mem_cons_of_mem _ hy)
    simp only [List.map_cons, lcLoop, h0, noX_ok, Res.bind_ok, h1]
    cases hk : keep x with
    | true => simp [h2 hk, ih, List.filter_cons, hk]
    | false => simp [ih, List.filter_cons, hk]
theorem eLc_gen (hs : it ρ π = .ok (xs.map enc, π)) (hl : xs.length ≤ 100000) (h : ∀ x ∈ xs, ∃ ρ', tg (enc x) (wipeE ρ vs) π = .ok (ρ', π) ∧ t ρ' π = .ok (keep x, π) ∧ (keep x = true → e ρ' π = .ok (f x, π))) :
    eLc it vs tg t e ρ π = .ok (.lst ((xs.filter keep).map f), π) := by
  unfold eLc
  rw [hs]
  simp only [Res.bind_ok, small5, List.length_map, hl, if_true]
  rw [lc_gen h]
  rfl
theorem lc2_pure {ys : α → List β} {enc1 : β → D} {f : α → β → D} : ∀ {xs : List α}, (∀ x ∈ xs, it1 (ρ.set i (some (enc x))) π = .ok ((ys x).map enc1, π) ∧ (ys x).length ≤ 300 ∧ ∀ y ∈ ys x, e ((wipeE (ρ.set i (some (enc x))) vs1).set j (some (enc1 y))) π = .ok (f x y, π)) →
    lcLoop2 (gN i) tYesD it1 vs1 (gN j) tYesD e (xs.map enc) ρ π = .ok (xs.flatMap (fun x => (ys x).map (f x)), π)
  | [], _ => rfl
  | x :: xs, h => by
    obtain ⟨h0, h1, h2⟩ := h x List.mem_cons_self
    have ih := lc2_pure (xs := xs) fun y hy => h y (List.mem_cons_of_mem _ hy)
    have q := lc_pure (t := tYesD) (keep := fun _ => true) (i := j) (ρ := wipeE (ρ.set i (some (enc x))) vs1) (xs := ys x) (enc := enc1) (f := f x) fun y hy => ⟨rfl, fun _ => h2 y hy⟩
    rw [List.filter_eq_self.mpr fun _ _ => rfl] at q
    simp only [List.map_cons, lcLoop2, gN_ap, noX_ok, Res.bind_ok, tYesD_ap, if_true, h0, small3, List.length_map, h1, q, ih, List.flatMap_cons]
theorem eLc2_pure {ys : α → List β} {enc1 : β → D} {f : α → β → D} (hs : it ρ π = .ok (xs.map enc, π)) (hl : xs.length ≤ 300) (h : ∀ x ∈ xs, it1 ((wipeE ρ vs).set i (some (enc x))) π = .ok ((ys x).map enc1, π) ∧ (ys x).length ≤ 300 ∧ ∀ y ∈ ys x, e ((wipeE ((wipeE ρ vs).set i (some (enc x))) vs1).set j (some (enc1 y))) π = .ok (f x y, π)) :
    eLc2 it vs vs1 (gN i) tYesD it1 (gN j) tYesD e ρ π = .ok (.lst (xs.flatMap (fun x => (ys x).map (f x))), π) := by
  unfold eLc2
  rw [hs]
  simp only [Res.bind_ok, small3, List.length_map, hl, if_true]
  rw [lc2_pure h]
  rfl
theorem boolsOf_map {g : α → Bool} : ∀ {xs : List α}, boolsOf (xs.map fun x => D.bl (g x)) = some (xs.map g)
  | [] => rfl
  | x :: xs => by
    simp only [List.map_cons, boolsOf, boolsOf_map, Option.map_some]
theorem fAll_map {g : α → Bool} : fAll [.lst (xs.map fun x => D.bl (g x))] = .ok (.bl (xs.all g)) := by
  simp [fAll, boolsOf_map, List.all_map]
theorem intsOf_map : ∀ {l : List Int}, intsOf (l.map D.int) = some l
  | [] => rfl
  | x :: l => by simp [intsOf, intsOf_map]
theorem fSorted_ints {l : List Int} (h : l.length < 64) : fSorted [.lst (l.map D.int)] = .ok (.lst ((sortI l).map D.int)) := by
  simp [fSorted, intsOf_map, h]
end
/-- the cases of a hall -/
def rg (n : Int) : List Int := (List.range n.toNat).map fun i : Nat => (0 : Int) + (i : Int)
theorem rangeD_rg {n : Int} : rangeD 0 n = (rg n).map D.int := by
  unfold rangeD rg
  rw [List.map_map, Int.sub_zero]
  rfl
theorem mem_rg {n c : Int} : c ∈ rg n ↔ 0 ≤ c ∧ c < n := by
  unfold rg
  rw [List.mem_map]
  constructor
  · rintro ⟨i, hi, rfl⟩
    have := List.mem_range.mp hi
    omega
  · rintro ⟨h1, h2⟩
    exact ⟨c.toNat, List.mem_range.mpr (by omega), by omega⟩
theorem rg_len {n : Int} : (rg n).length = n.toNat := by simp [rg]
theorem rg_asc {n : Int} : (rg n).Pairwise (· < ·) := by
  unfold rg
  rw [List.pairwise_map]
  refine List.pairwise_lt_range.imp fun h => ?_
  omega
theorem rg_ok {n : Int} : LotOk n (rg n) := ⟨fun _ => mem_rg.mp, rg_asc⟩
def ascB : List Int → Bool
  | x :: y :: l => decide (x < y) && ascB (y :: l)
  | _ => true
theorem ascB_zip : ∀ {l : List Int}, ((l.zip l.tail).all fun p => decide (p.1 < p.2)) = ascB l
  | [] => rfl
  | [_] => rfl
  | x :: y :: l => by
    have ih := ascB_zip (l := y :: l)
    simp only [List.tail_cons] at ih
    simp only [List.tail_cons, List.zip_cons_cons, List.all_cons, ascB, ih]
theorem ascB_iff : ∀ {l : List Int}, ascB l = true ↔ l.Pairwise (· < ·)
  | [] => by simp [ascB]
  | [_] => by simp [ascB]
  | x :: y :: l => by
    have ih := ascB_iff (l := y :: l)
    simp only [ascB, Bool.and_eq_true, decide_eq_true_eq, ih]
    constructor
    · rintro ⟨h1, h2⟩
      refine List.pairwise_cons.mpr ⟨fun z hz => ?_, h2⟩
      rcases List.mem_cons.mp hz with rfl | hz
      · exact h1
      · have := (List.pairwise_cons.mp h2).1 z hz
        omega
    · intro h
      obtain ⟨h1, h2⟩ := List.pairwise_cons.mp h
      exact ⟨h1 y List.mem_cons_self, h2⟩
/-- a number between, of data that are no text's subclass -/
def btw (lo hi : Int) : D → Bool
  | .int c => decide (lo ≤ c ∧ c ≤ hi)
  | _ => false
def plainD : D → Bool
  | .int _ | .bl _ | .non | .str _ | .tup _ => true
  | _ => false
section
variable {π : Store} {n c lo hi : Int} {l : Lot} {d : D} {a : Rat}
theorem s_is_between' (hd : plainD d = true) : g_is_between [d, .int lo, .int hi] π = .ok (.bl (btw lo hi d), π) := by
  cases d with
  | int c => exact s_is_between
  | bl b => simp [g_is_between, gRun, sRun, ini, fs_is_between, btw]
  | non => simp [g_is_between, gRun, sRun, ini, fs_is_between, btw]
  | str b => simp [g_is_between, gRun, sRun, ini, fs_is_between, btw]
  | tup b => simp [g_is_between, gRun, sRun, ini, fs_is_between, btw]
  | _ => cases hd
theorem lot_first {ds : List D} (hd : ∀ d ∈ ds, plainD d = true) (hl : ds.length ≤ 100000) {u v w : Option D} : eLc (iS (eV 1)) [4] (gN 4) tYesD (eCall g_is_between (aCons (eV 4) (aCons (eC (.int 0)) (aCons (eOp dSub (eV 0) (eC (.int 1))) aNil)))) [some (.int n), some (.tup ds), u, v, w] π = .ok (.lst (ds.map fun d => .bl (btw 0 (n - 1) d)), π) := by
  have := eLc_all (ρ := [some (.int n), some (.tup ds), u, v, w]) (π := π) (it := iS (eV 1)) (vs := [4]) (i := 4) (e := eCall g_is_between (aCons (eV 4) (aCons (eC (.int 0)) (aCons (eOp dSub (eV 0) (eC (.int 1))) aNil)))) (xs := ds) (enc := id) (f := fun d => .bl (btw 0 (n - 1) d)) (by simp) hl fun d hd' => by simp [wipeE, s_is_between' (hd d hd')]
  exact this
theorem s_is_lot_bad {ds : List D} (hd : ∀ d ∈ ds, plainD d = true) (hl : ds.length ≤ 100000) (hb : (ds.all fun d => btw 0 (n - 1) d) = false) : g_is_lot_of [.int n, .tup ds] π = .ok (.bl false, π) := by
  simp [g_is_lot_of, gRun, sRun, ini, fs_is_lot_of, List.replicate, lot_first hd hl, fAll_map, hb]
theorem s_is_lot_of (hl : l.length ≤ 100000) : g_is_lot_of [.int n, dL l] π = .ok (.bl (l.all (fun c => decide (0 ≤ c ∧ c ≤ n - 1)) && ascB l), π) := by
  have e1 := lot_first (n := n) (π := π) (ds := l.map D.int) (u := none) (v := none) (w := none) (fun d hd => by obtain ⟨c, _, rfl⟩ := List.mem_map.mp hd; rfl) (by simpa using hl)
  rw [List.map_map] at e1
  have ea : (l.all fun c => btw 0 (n - 1) (.int c)) = l.all (fun c => decide (0 ≤ c ∧ c ≤ n - 1)) := rfl
  have e1' : eLc (iS (eV 1)) [4] (gN 4) tYesD (eCall g_is_between (aCons (eV 4) (aCons (eC (.int 0)) (aCons (eOp dSub (eV 0) (eC (.int 1))) aNil)))) [some (.int n), some (dL l), none, none, none] π = .ok (.lst (l.map fun c => .bl (btw 0 (n - 1) (.int c))), π) := e1
  have hc : cutD (l.map D.int) (some 1) none = l.tail.map D.int := by
    unfold cutD
    rw [show (some (1 : Int)) = some ((1 : Nat) : Int) from rfl, HT.sIx_nat, HT.sIx_none]
    cases l with
    | nil => rfl
    | cons x l => simp [List.take_of_length_le]
  have ez : zipD [.tup (l.map D.int), .tup (l.map D.int).tail] = .ok ((l.zip l.tail).map fun p => .ptup [.int p.1, .int p.2]) := by
    simp only [zipD]
    congr 1
    rw [← List.map_tail, List.zipWith_map, List.zip_eq_zipWith, List.map_zipWith]
  have e2 : eLc (iR zipD (aCons (eV 1) (aCons (eSl (eV 1) (oSome (eC (.int 1))) oNone) aNil))) [2, 3] (gT2 2 3) tYesD (eOp dLt (eV 2) (eV 3)) [some (.int n), some (dL l), none, none, none] π = .ok (.lst ((l.zip l.tail).map fun p => .bl (decide (p.1 < p.2))), π) := by
    have := eLc_gen (ρ := [some (.int n), some (dL l), none, none, none]) (π := π) (it := iR zipD (aCons (eV 1) (aCons (eSl (eV 1) (oSome (eC (.int 1))) oNone) aNil))) (vs := [2, 3]) (tg := gT2 2 3) (t := tYesD) (e := eOp dLt (eV 2) (eV 3)) (xs := l.zip l.tail) (enc := fun p => .ptup [.int p.1, .int p.2]) (f := fun p => .bl (decide (p.1 < p.2))) (keep := fun _ => true)
      (by simp [eSl_ap, dL, hc, ez]) (by rw [List.length_zip]; omega) fun p hp => ⟨_, gT2_p, rfl, fun _ => by simp [wipeE]⟩
    rw [List.filter_eq_self.mpr fun _ _ => rfl] at this
    exact this
  have ef : fAll [.lst ((l.zip l.tail).map fun p => D.bl (decide (p.1 < p.2)))] = .ok (.bl ((l.zip l.tail).all fun p => decide (p.1 < p.2))) := fAll_map
  rw [ascB_zip] at ef
  cases h : l.all (fun c => decide (0 ≤ c ∧ c ≤ n - 1)) with
  | false =>
    rw [h] at ea
    simp [g_is_lot_of, gRun, sRun, ini, fs_is_lot_of, List.replicate, e1', fAll_map, ea]
  | true =>
    rw [h] at ea
    simp [g_is_lot_of, gRun, sRun, ini, fs_is_lot_of, List.replicate, e1', fAll_map, ea, e2, ef]
theorem lotOk_iff : (l.all (fun c => decide (0 ≤ c ∧ c ≤ n - 1)) && ascB l) = true ↔ LotOk n l := by
  rw [Bool.and_eq_true, ascB_iff, List.all_eq_true]
  constructor
  · rintro ⟨h1, h2⟩
    exact ⟨fun c hc => by have := of_decide_eq_true (h1 c hc); omega, h2⟩
  · rintro ⟨h1, h2⟩
    exact ⟨fun c hc => decide_eq_true (by have := h1 c hc; omega), h2⟩
theorem s_is_lot_ok (hl : LotOk n l) (hn : n ≤ 6) : g_is_lot_of [.int n, dL l] π = .ok (.bl true, π) := by
  rw [s_is_lot_of (by have := hl.len hn; omega), lotOk_iff.mpr hl]
end
end Ph
end
section
set_option Elab.async false
set_option linter.all false
set_option maxRecDepth 100000
set_option exponentiation.threshold 200000
/-! Plain law, part f: chances, parts, tellings; a hall is made. -/
namespace Ph
open PySem PySem.Spec PyProof.Rows L2
/-- all that a telling of the package must be -/
structure TelOk' (n : Int) (t : Tel) : Prop extends TelOk n t where
  firsts : (t.map fun p => p.1.headD 0).Pairwise (· ≤ ·)
  every : (t.flatMap (·.1)).Perm (rg n)
structure HlOk' (h : Hl) : Prop extends HlOk h where
  tel' : ∀ t ∈ h.ts, TelOk' h.n t
section
variable {π : Store} {n c lo hi : Int} {l : Lot} {d : D} {a : Rat} {p : Part} {t : Tel} {ds : List D}
@[simp] theorem s_is_tuple_of {k : Int} : g_is_tuple_of [.tup ds, .int k] π = .ok (.bl (decide ((ds.length : Int) = k)), π) := by
  simp [g_is_tuple_of, gRun, sRun, ini, fs_is_tuple_of, List.replicate]
theorem s_is_number1 {m : Int} : g_is_number [.int m, .int 1, .non] π = .ok (.bl (decide (1 ≤ m)), π) := by
  simp [g_is_number, gRun, sRun, ini, fs_is_number, List.replicate]
  by_cases h : 1 ≤ m <;> simp [h]
theorem s_is_fraction : g_is_fraction [fr a] π = .ok (.bl true, π) := by
  have h1 := a.den_pos
  have h2 : Nat.gcd a.num.natAbs a.den = 1 := a.reduced
  have e1 : g_is_tuple_of [fr a, .int 2] π = .ok (.bl true, π) := s_is_tuple_of
  have e2 : dIx (fr a) (.int 0) = some (.int a.num) := by simp [fr]
  have e3 : dIx (fr a) (.int 1) = some (.int a.den) := by simp [fr]
  have e4 : g_is_number [.int a.den, .int 1, .non] π = .ok (.bl true, π) := by
    rw [s_is_number1]
    simp
    omega
  simp [g_is_fraction, gRun, sRun, ini, fs_is_fraction, List.replicate, e1, e2, e3, dd_is_number, e4, fGcd, h2]
theorem s_are_chances {r : List Rat} (hp : ∀ a ∈ r, 0 < a) (hs : ∀ a ∈ r, Sm 8 a) (h1 : sumR r = 1) (hl : r.length ≤ 6) : g_are_chances [dF r, .int r.length] π = .ok (.bl true, π) := by
  have e0 : g_is_tuple_of [dF r, .int r.length] π = .ok (.bl true, π) := by
    show g_is_tuple_of [.tup (r.map fr), .int r.length] π = _
    rw [s_is_tuple_of]
    simp
  have e1 : eLc (iS (eV 0)) [2] (gN 2) tYesD (eAnd (eCall g_is_fraction (aCons (eV 2) aNil)) (eOp dGt (eOp dIx (eV 2) (eC (.int 0))) (eC (.int 0)))) [some (dF r), some (.int r.length), none] π = .ok (.lst (r.map fun a => .bl (decide (0 < a.num))), π) :=
    eLc_all (xs := r) (enc := fr) (f := fun a => .bl (decide (0 < a.num))) (by simp [dF]) (by omega) fun a ha => by
      have e2 : dIx (fr a) (.int 0) = some (.int a.num) := by simp [fr]
      simp [wipeE, s_is_fraction, e2]
  have e2 : (r.all fun a => decide (0 < a.num)) = true := List.all_eq_true.mpr fun a ha => decide_eq_true (by
    have h0 := hp a ha
    have := (Rat.num_nonneg (q := a)).mpr (Rat.le_of_lt h0)
    have h2 : a.num ≠ 0 := fun z => by
      rw [Rat.num_eq_zero] at z
      rw [z] at h0
      exact Rat.lt_irrefl h0
    omega)
  have e3 := (s_sum_of (π := π) hs (by omega)).2
  have e3' : g_sum_of [dF r] π = .ok (fr (sumR r), π) := e3
  simp [g_are_chances, gRun, sRun, ini, fs_are_chances, List.replicate, e0, e1, fAll_map, e2, e3', h1, d_ONE_fr]
theorem s_is_part (h : PartOk n p) (hn : n ≤ 6) : g_is_part [.int n, dP p] π = .ok (.bl true, π) := by
  have hl : LotOk n p.1 := ⟨h.rng, h.asc⟩
  have e0 : g_is_tuple_of [dP p, .int 2] π = .ok (.bl true, π) := s_is_tuple_of
  have e1 : dEq (dL p.1) (.tup []) = some (.bl false) := by
    have : dEq (dL p.1) (dL []) = some (.bl (decide (p.1 = []))) := dEq_L
    rw [decide_eq_false h.ne] at this
    exact this
  have e2 : g_are_chances [dF p.2, .int p.1.length] π = .ok (.bl true, π) := by
    rw [← h.len]
    exact s_are_chances h.pos h.sm h.one (by rw [h.len]; exact hl.len hn)
  simp [g_is_part, gRun, sRun, ini, fs_is_part, List.replicate, e0, s_is_lot_ok hl hn, e1, e2]
theorem sortI_self {l : List Int} (h : l.Pairwise (· ≤ ·)) : sortI l = l := (sortI_uniq (List.Perm.refl _) h).symm
theorem deq_lst {l m : List Int} : dEq (.lst (l.map D.int)) (.lst (m.map D.int)) = some (.bl (decide (l = m))) := by
  have h : ∀ {l : List Int}, fits (.lst (l.map D.int)) 40 = true := fun {l} => fitsL_ints
  simp [dEq, h, deq, deqL_ints]
theorem s_is_telling (h : TelOk' n t) (hn0 : 0 ≤ n) (hn : n ≤ 6) : g_is_telling [.int n, dT t] π = .ok (.bl true, π) := by
  have hs := h.short
  have lp : ∀ p ∈ t, p.1.length ≤ 6 := fun p hp => (LotOk.len (n := n) ⟨(h.part p hp).rng, (h.part p hp).asc⟩ hn)
  have e1 : eLc (iS (eV 1)) [4] (gN 4) tYesD (eCall g_is_part (aCons (eV 0) (aCons (eV 4) aNil))) [some (.int n), some (dT t), none, none, none, none] π = .ok (.lst (t.map fun _ => .bl true), π) :=
    eLc_all (xs := t) (enc := dP) (f := fun _ => .bl true) (by simp [dT]) (by omega) fun p hp => by simp [wipeE, s_is_part (h.part p hp) hn]
  have e2 : eLc (iS (eV 1)) [4] (gN 4) tYesD (eOp dIx (eOp dIx (eV 4) (eC (.int 0))) (eC (.int 0))) [some (.int n), some (dT t), none, none, none, none] π = .ok (.lst ((t.map fun p => p.1.headD 0).map D.int), π) := by
    rw [List.map_map]
    exact eLc_all (xs := t) (enc := dP) (f := fun p => .int (p.1.headD 0)) (by simp [dT]) (by omega) fun p hp => by
      have hne := (h.part p hp).ne
      have : dIx (dL p.1) (.int 0) = some (.int (p.1.headD 0)) := by
        cases e : p.1 with
        | nil => exact absurd e hne
        | cons x l => simp [dL]
      simp [wipeE, this]
  have e3 : eLc2 (iS (eV 1)) [4, 5] [5] (gN 4) tYesD (iS (eOp dIx (eV 4) (eC (.int 0)))) (gN 5) tYesD (eV 5) [some (.int n), some (dT t), none, none, none, none] π = .ok (.lst ((t.flatMap (·.1)).map D.int), π) := by
    rw [List.map_flatMap]
    exact eLc2_pure (xs := t) (enc := dP) (ys := fun p => p.1) (enc1 := D.int) (f := fun _ c => .int c) (by simp [dT]) (by omega) fun p hp => ⟨by simp [wipeE], by have := lp p hp; omega, fun c hc => by simp [wipeE]⟩
  have l1 : (t.map fun p => p.1.headD 0).length < 64 := by rw [List.length_map]; omega
  have l2 : (t.flatMap (·.1)).length < 64 := by rw [h.every.length_eq, rg_len]; omega
  have q1 : sortI (t.map fun p => p.1.headD 0) = t.map fun p => p.1.headD 0 := sortI_self h.firsts
  have q2 : sortI (t.flatMap (·.1)) = rg n := (sortI_uniq h.every.symm (rg_asc.imp fun h => Int.le_of_lt h)).symm
  have q3 : fListRg [.int n] = .ok (.lst ((rg n).map D.int)) := by
    show (if n ≤ 100000 ∧ -100000 ≤ n then Res.ok (D.lst (rangeD 0 n)) else .fail) = _
    rw [if_pos ⟨by omega, by omega⟩, rangeD_rg]
  have s1 := fSorted_ints l1
  have s2 := fSorted_ints l2
  rw [q1] at s1
  rw [q2] at s2
  have z1 := deq_lst (l := t.map fun p => p.1.headD 0) (m := t.map fun p => p.1.headD 0)
  have z2 := deq_lst (l := rg n) (m := rg n)
  rw [decide_eq_true rfl] at z1 z2
  have e1' : eLc (iS (eV 1)) [4] (gN 4) tYesD (eCall g_is_part (aCons (eV 0) (aCons (eV 4) aNil))) [some (.int n), some (dT t), none, none, none, none] π = .ok (.lst (List.replicate t.length (.bl true)), π) := by
    rw [e1, List.map_const']
  have ef : fAll [.lst (List.replicate t.length (.bl true))] = .ok (.bl true) := by
    have : fAll [.lst (t.map fun _ => D.bl true)] = .ok (.bl (t.all fun _ => true)) := fAll_map
    rw [← List.map_const', this, List.all_eq_true.mpr fun _ _ => rfl]
  generalize (t.map fun p => p.1.headD 0) = F at e2 s1 z1
  generalize t.flatMap (·.1) = E at e3 s2
  simp [g_is_telling, gRun, sRun, ini, fs_is_telling, List.replicate, e1', ef, e2, e3, s1, s2, q3, z1, z2]
end
end Ph
end
section
set_option Elab.async false
set_option linter.all false
set_option maxRecDepth 100000
set_option exponentiation.threshold 200000
/-! Plain law, part g: a hall is made. -/
namespace Ph
open PySem PySem.Spec PyProof.Rows L2
section
variable {π : Store} {n c : Int} {k : Nat} {t : Tel} {ts : List Tel} {h : Hl} {x y : Cell} {l : List D} {d : D}
@[simp] theorem get_snoc' : (π ++ [x])[π.length]? = some x := by simp
@[simp] theorem set_snoc' : (π ++ [x]).set π.length y = π ++ [y] := by
  rw [List.set_append_right _ _ (Nat.le_refl _)]
  simp
theorem s_lam (e s : D) : lamRun fb_telling 3 [.int n] [e, s] π = g_is_telling [.int n, e] π := by
  simp [lamRun, fb_telling, List.replicate]
theorem turn_tel {m : Int} {d : List D} (h : g_is_telling [.int n, dT t] π = .ok (.bl true, π)) : turn_fw (lamRun fb_telling 3 [.int n]) (.tup d) (.int m) (dT t) π = .ok (false, π) := by
  simp [turn_fw, eSl_ap, s_lam, h]
theorem loop_tel {d : List D} : ∀ {ts : List Tel} {k : Nat} {u v : Option D}, (∀ t ∈ ts, g_is_telling [.int n, dT t] π = .ok (.bl true, π)) →
    ∃ u' v', sLoop (gT2 2 3) (fb_first_wrong 0 (lamRun fb_telling 3 [.int n])) (enumD k (ts.map dT)) [some (.tup d), some (.fn 0), u, v] π = .ok (.nx [some (.tup d), some (.fn 0), u', v'] π)
  | [], k, u, v, _ => ⟨u, v, rfl⟩
  | t :: ts, k, u, v, h => by
    obtain ⟨u', v', q⟩ := loop_tel (d := d) (ts := ts) (k := k + 1) (u := some (.int k)) (v := some (dT t)) fun t' ht => h t' (List.mem_cons_of_mem _ ht)
    refine ⟨u', v', ?_⟩
    simp only [List.map_cons, enumD, sLoop, gT2_p, Res.bind_ok, List.set_cons_succ, List.set_cons_zero, turn_fw_eq, turn_tel (h t List.mem_cons_self), Bool.false_eq_true, if_false, q]
theorem s_wrong_telling (h0 : π[0]? = some (.tab 0 q_telling)) (h : ∀ t ∈ ts, TelOk' n t) (hn0 : 0 ≤ n) (hn : n ≤ 6) : g_wrong_telling [.int n, dTs ts] π = .ok (.non, π) := by
  have e : gw_telling [.int n] (dTs ts) π = .ok (.non, π) := by
    unfold gw_telling
    rw [run_fw]
    obtain ⟨u', v', q⟩ := loop_tel (n := n) (π := π) (d := ts.map dT) (ts := ts) (k := 0) (u := none) (v := none) fun t ht => s_is_telling (h t ht) hn0 hn
    show (sLoop (gT2 2 3) (fb_first_wrong 0 (lamRun fb_telling 3 [.int n])) (enumD 0 (ts.map dT)) [some (.tup (ts.map dT)), some (.fn 0), none, none] π).bind _ = _
    rw [q]
    rfl
  have et : tabOk 0 q_telling π = .ok () := by
    unfold tabOk
    rw [h0]
    simp
  simp [g_wrong_telling, gRun, sRun, ini, fs_wrong_telling, List.replicate, eCallLam, gts, et, e]
theorem s_is_row {ds : List D} {lo hi : Int} : g_is_row [.tup ds, .int lo, .int hi] π = .ok (.bl (decide (lo ≤ ds.length ∧ (ds.length : Int) ≤ hi)), π) := by
  simp [g_is_row, gRun, sRun, ini, fs_is_row, List.replicate]
  by_cases h : lo ≤ (ds.length : Int) <;> simp [h]
theorem s_check_tellings (h0 : π[0]? = some (.tab 0 q_telling)) (H : HlOk' h) : g_check_tellings [.int h.n, dTs h.ts] π = .ok (.non, π) := by
  have e1 : g_is_row [dTs h.ts, .int 1, d_MOST_PERSONS] π = .ok (.bl true, π) := by
    show g_is_row [.tup (h.ts.map dT), .int 1, .int 3] π = _
    rw [s_is_row]
    have := H.t1
    have := H.t3
    simp
    omega
  have e2 := s_wrong_telling h0 (n := h.n) (ts := h.ts) (fun t ht => H.tel' t ht) (by have := H.n2; omega) H.n6
  simp [g_check_tellings, gRun, sRun, ini, fs_check_tellings, List.replicate, e1, e2, dNotN]
theorem s_is_cases (h2 : 2 ≤ n) (h6 : n ≤ 6) : g_is_cases [.int n] π = .ok (.bl true, π) := by
  have : g_is_between [.int n, d_FEWEST_CASES, d_MOST_CASES] π = .ok (.bl true, π) := by
    show g_is_between [.int n, .int 2, .int 6] π = _
    rw [s_is_between, decide_eq_true ⟨h2, h6⟩]
  simp [g_is_cases, gRun, sRun, ini, fs_is_cases, List.replicate, this]
/-- o.f = e, the i-th field, the object a new one -/
theorem sFld_new {ρ : En} {c i : Nat} {o e : SE} {l : List D} {d : D} (he : e ρ (π ++ [.ins c l]) = .ok (d, π ++ [.ins c l])) (ho : o ρ (π ++ [.ins c l]) = .ok (.ptr π.length, π ++ [.ins c l])) (hi : i = l.length) :
    sFldSet c i o e ρ (π ++ [.ins c l]) = .ok (.nx ρ (π ++ [.ins c (l ++ [d])])) := by
  subst hi
  simp [sFldSet, he, ho, insC, getI]
theorem s_hall_init (h0 : π[0]? = some (.tab 0 q_telling)) (H : HlOk' h) : g_Hall___init__ [.ptr π.length, .int h.n, dTs h.ts] (π ++ [.ins 0 []]) = .ok (.non, π ++ [.ins 0 [.int h.n, dTs h.ts]]) := by
  have h0' : (π ++ [.ins 0 []])[0]? = some (.tab 0 q_telling) := by
    rw [List.getElem?_append_left (List.getElem?_eq_some_iff.mp h0).1]
    exact h0
  have f1 := sFld_new (π := π) (ρ := [some (.ptr π.length), some (.int h.n), some (dTs h.ts)]) (c := 0) (i := 0) (o := eV 0) (e := eV 1) (l := []) (d := .int h.n) (by simp) (by simp) rfl
  have f2 := sFld_new (π := π) (ρ := [some (.ptr π.length), some (.int h.n), some (dTs h.ts)]) (c := 0) (i := 1) (o := eV 0) (e := eV 2) (l := [.int h.n]) (d := dTs h.ts) (by simp) (by simp) rfl
  simp only [List.nil_append, List.cons_append] at f1 f2
  simp [g_Hall___init__, gRun, sRun, ini, fs_Hall___init__, List.replicate, s_is_cases H.n2 H.n6, s_check_tellings h0' H, f1, f2]
theorem s_made (h0 : π[0]? = some (.tab 0 q_telling)) (H : HlOk' h) : g__law_made [dHL h] π = .ok (dH h, π ++ [.gone]) := by
  have e1 : dIx (dHL h) (.int 0) = some (.int h.n) := by simp [dHL]
  have e2 : dIx (dHL h) (.int 1) = some (dTs h.ts) := by simp [dHL]
  simp [g__law_made, gRun, sRun, ini, fs__law_made, List.replicate, eFrzI, eMake, e1, e2, s_hall_init h0 H, non?, dH]
end
end Ph
end
section
set_option Elab.async false
set_option linter.all false
set_option maxRecDepth 100000
set_option exponentiation.threshold 200000
/-! Plain law, part h: draws. -/
namespace Ph
open PySem PySem.Spec PyProof.Rows L2
/-- where draws come from -/
def PoolAt (np : Nat) (π : Store) : Prop := ∃ a b c : Int, π[np]? = some (.lst [.int a, .int b, .int c]) ∧ 0 ≤ a ∧ a < 2147482937 ∧ 0 ≤ b
/-- from here to there: the pool may be another, cells may be new; C: what else may be another -/
structure Fr (np : Nat) (π π' : Store) : Prop where
  len : π.length ≤ π'.length
  keep : ∀ m, m ≠ np → m < π.length → π'[m]? = π[m]?
  pool : PoolAt np π'
section
variable {np k : Nat} {π π' π'' : Store} {n c many : Int} {l : List D} {d : D} {x : Cell}
theorem Fr.refl (h : PoolAt np π) : Fr np π π := ⟨Nat.le_refl _, fun _ _ _ => rfl, h⟩
theorem Fr.trans (a : Fr np π π') (b : Fr np π' π'') : Fr np π π'' := ⟨Nat.le_trans a.len b.len, fun m h1 h2 => (b.keep m h1 (Nat.lt_of_lt_of_le h2 a.len)).trans (a.keep m h1 h2), b.pool⟩
theorem PoolAt.lt (h : PoolAt np π) : np < π.length := by
  obtain ⟨a, b, c, h, _⟩ := h
  exact (List.getElem?_eq_some_iff.mp h).1
theorem Fr.get (f : Fr np π π') {m : Nat} {x : Cell} (hm : m ≠ np) (h : π[m]? = some x) : π'[m]? = some x := by
  rw [f.keep m hm (List.getElem?_eq_some_iff.mp h).1, h]
/-- cells are added -/
theorem Fr.add (h : PoolAt np π) (xs : Store) : Fr np π (π ++ xs) := ⟨by rw [List.length_append]; omega, fun m _ hm => List.getElem?_append_left hm, by
  obtain ⟨a, b, c, e, r⟩ := h
  exact ⟨a, b, c, by rw [List.getElem?_append_left (List.getElem?_eq_some_iff.mp e).1]; exact e, r⟩⟩
theorem Fr.set {a b c : Int} (hp : np < π.length) (ha : 0 ≤ a ∧ a < 2147482937) (hb : 0 ≤ b) : Fr np π (π.set np (.lst [.int a, .int b, .int c])) := ⟨by rw [List.length_set]; exact Nat.le_refl _, fun m hm _ => List.getElem?_set_ne (Ne.symm hm), a, b, c, List.getElem?_set_self hp, ha.1, ha.2, hb⟩
@[simp] theorem sAsg_ap' {tg : STg} {a : SE} {ρ : En} : sAsg tg a ρ π = (a ρ π).bind fun p => (tg p.1 ρ p.2).bind fun q => .ok (.nx q.1 q.2) := rfl
theorem eOpL_ap {op : D → D → Option D} {a b : SE} {ρ : En} : eOpL op a b ρ π = (a ρ π).bind fun x => (b ρ x.2).bind fun y => (Res.of (op (ld y.2 x.1) (ld y.2 y.1))).bind fun z => if frz z = true then .ok (z, y.2) else .fail := rfl
theorem ld_ptr (h : π[k]? = some (.lst l)) : ld π (.ptr k) = .lst l := by
  unfold ld
  simp [h]
@[simp] theorem ld_int : ld π (.int c) = .int c := rfl
@[simp] theorem frz_int : frz (.int c) = true := rfl
@[simp] theorem frz_bl {b : Bool} : frz (.bl b) = true := rfl
theorem gSetL_ap {o i : SE} {ρ : En} : gSetL o i d ρ π = (o ρ π).bind fun p => (i ρ p.2).bind fun q => (lstC q.2 p.1).bind fun n => (int? q.1).bind fun k => (getL q.2 n).bind fun l => (Res.of (ixN l.length k)).bind fun j => .ok (ρ, q.2.set n (.lst (l.set j d))) := rfl
theorem lstC_ptr (h : π[k]? = some (.lst l)) : lstC π (.ptr k) = .ok k := by
  unfold lstC
  simp [h]
theorem getL_ptr (h : π[k]? = some (.lst l)) : getL π k = .ok l := by
  unfold getL
  simp [h]
theorem s_draw (h : PoolAt np π) (h0 : 0 < many) (hm : many < 1000000000) : ∃ k π', g__law_draw [.ptr np, .int many] π = .ok (.int k, π') ∧ 0 ≤ k ∧ k < many ∧ Fr np π π' ∧ π'.length = π.length := by
  have hl := h.lt
  obtain ⟨a, b, c, e, a0, a1, b0⟩ := h
  by_cases hb : 0 < b
  · refine ⟨b % many, π.set np (.lst [.int a, .int (b / many), .int c]), ?_, Int.emod_nonneg _ (by omega), Int.emod_lt_of_pos _ h0, .set hl ⟨a0, a1⟩ (Int.ediv_nonneg b0 (by omega)), by rw [List.length_set]⟩
    simp [g__law_draw, gRun, sRun, ini, fs__law_draw, List.replicate, eOpL_ap, ld_ptr e, hb, fDivmod, h0, hm, gPair, gSetL_ap, lstC_ptr e, getL_ptr e, ixN]
  · have hb' : b = 0 := by omega
    subst hb'
    have e1 : (π.set np (.lst [.int a, .int 0, .int (c + 1)]))[np]? = some (.lst [.int a, .int 0, .int (c + 1)]) := List.getElem?_set_self hl
    have w1 : wideM a (a % 20011 + 30011) = true := wideM_l (by omega)
    have w2 : wideM 70001 (c + 1) = true := wideM_l (by decide)
    have hz : (0 : Int) ≤ (a * (a % 20011 + 30011) + 70001 * (c + 1) + 9) % 2147482937 := Int.emod_nonneg _ (by decide)
    have hz2 : (a * (a % 20011 + 30011) + 70001 * (c + 1) + 9) % 2147482937 < 2147482937 := Int.emod_lt_of_pos _ (by decide)
    generalize hq : (a * (a % 20011 + 30011) + 70001 * (c + 1) + 9) % 2147482937 = q at hz hz2
    have e2 : (π.set np (.lst [.int q, .int 0, .int (c + 1)]))[np]? = some (.lst [.int q, .int 0, .int (c + 1)]) := List.getElem?_set_self hl
    have w3 : wideD q 128 = true := wideD_n (n := 8) (by decide) (by decide) (by decide)
    refine ⟨q / 128 % many, π.set np (.lst [.int q, .int 0, .int (c + 1)]), ?_, Int.emod_nonneg _ (by omega), Int.emod_lt_of_pos _ h0, .set hl ⟨hz, hz2⟩ (by decide), by rw [List.length_set]⟩
    simp [g__law_draw, gRun, sRun, ini, fs__law_draw, List.replicate, eOpL_ap, ld_ptr e, gSetL_ap, lstC_ptr e, getL_ptr e, ixN, ld_ptr e1, lstC_ptr e1, getL_ptr e1, fInt, dMod_i, dMul_i w1, dMul_i w2, hq, List.set_set, ld_ptr e2, dFdiv_i w3, dMod_i h0]
theorem s_pick {ds : List D} (h : PoolAt np π) (h0 : ds ≠ []) (hm : ds.length < 1000000000) : ∃ d π', g__law_pick [.ptr np, .lst ds] π = .ok (d, π') ∧ d ∈ ds ∧ Fr np π π' ∧ π'.length = π.length := by
  have hp : 0 < ds.length := List.length_pos_iff.mpr h0
  obtain ⟨k, π', e, k0, k1, f, fl⟩ := s_draw (many := ds.length) h (by omega) (by omega)
  have hk : k.toNat < ds.length := by omega
  refine ⟨ds[k.toNat], π', ?_, List.getElem_mem hk, f, fl⟩
  have ea : atI ds k = some ds[k.toNat] := by rw [atI_nat' k0 k1, List.getElem?_eq_getElem hk]
  simp [g__law_pick, gRun, sRun, ini, fs__law_pick, List.replicate, e, ea]
end
end Ph
end
section
set_option Elab.async false
set_option linter.all false
set_option maxRecDepth 100000
set_option exponentiation.threshold 200000
/-! Plain law, part i: fractions cut; partitions drawn. -/
namespace Ph
open PySem PySem.Spec PyProof.Rows L2
theorem sWhile_of {c : ST} {fb : SS} {n : Nat} {ρ : En} {π : Store} {r : Fl} (h : sWh c fb n ρ π = .ok r) : sWhile c fb ρ π = .ok r := by
  rw [sWhile_eq (n := n) (by rw [h]; exact fun z => nomatch z), h]
section
variable {np : Nat} {π π' : Store} {n c : Int} {k : Nat}
theorem cut_loop : ∀ (m : Nat) {one other : Nat} {u v : Option D}, other < m → ∃ fuel, sWh (tB (eOp dGt (eV 3) (eC (.int 0)))) (sPar 2 3 (aCons (eV 3) (aCons (eOp dMod (eFn fInt (aCons (eV 2) aNil)) (eFn fInt (aCons (eV 3) aNil))) aNil))) fuel [u, v, some (.int one), some (.int other)] π = .ok (.nx [u, v, some (.int (Nat.gcd one other : Nat)), some (.int 0)] π)
  | 0, _, _, _, _, h => absurd h (by omega)
  | m + 1, one, other, u, v, h => by
    by_cases h0 : other = 0
    · subst h0
      exact ⟨1, by simp [sWh]⟩
    · have hlt : one % other < other := Nat.mod_lt _ (by omega)
      obtain ⟨fuel, q⟩ := cut_loop m (one := other) (other := one % other) (u := u) (v := v) (by omega)
      refine ⟨fuel + 1, ?_⟩
      have hp : (0 : Int) < (other : Int) := by omega
      have e1 : Nat.gcd other (one % other) = Nat.gcd one other := by rw [Nat.gcd_comm, ← Nat.gcd_rec, Nat.gcd_comm]
      rw [e1, Int.natCast_emod] at q
      simp [sWh, hp, fInt, dMod_i hp, q, h0]
theorem s_cut {x y : Int} (h0 : 0 < y) (hy : y.natAbs < 2 ^ 9000) : g__law_cut [.int x, .int y] π = .ok (fr (Rat.divInt x y), π) := by
  have hg : 0 < x.natAbs.gcd y.natAbs := Nat.gcd_pos_of_pos_right _ (by omega)
  have hg2 : ((x.natAbs.gcd y.natAbs : Nat) : Int).natAbs < 2 ^ 9000 := by
    have : x.natAbs.gcd y.natAbs ≤ y.natAbs := Nat.gcd_le_right _ (by omega)
    omega
  have hw : ∀ z : Int, wideD z ((x.natAbs.gcd y.natAbs : Nat) : Int) = true := fun z => wideD_n (by omega) hg2 (Nat.le_refl _)
  have e1 : (Rat.divInt x y).num = x / ((x.natAbs.gcd y.natAbs : Nat) : Int) := by
    rw [Rat.num_divInt, Int.sign_eq_one_of_pos h0, Int.one_mul, Int.gcd_comm]
    rfl
  have e2 : (((Rat.divInt x y).den : Nat) : Int) = y / ((x.natAbs.gcd y.natAbs : Nat) : Int) := by
    rw [Rat.den_divInt, if_neg (by omega), Int.gcd_comm]
    have : (y.natAbs : Int) = y := by omega
    rw [Int.natCast_ediv, this]
    rfl
  obtain ⟨fuel, q⟩ := cut_loop (π := π) (y.natAbs + 1) (one := x.natAbs) (other := y.natAbs) (u := some (.int x)) (v := some (.int y)) (by omega)
  have q := sWhile_of q
  have ex : (if x < 0 then -x else x) = ((x.natAbs : Nat) : Int) := by split <;> omega
  have ey : ((y.natAbs : Nat) : Int) = y := by omega
  rw [ey] at q
  simp [g__law_cut, gRun, sRun, ini, fs__law_cut, List.replicate, fAbs, ex, q, dFdiv_i (hw _), fr, e1, e2]
end
/-! ### comprehensions that draw -/
section
variable {ρ : En} {π : Store} {t : ST} {e : SE} {it : SA} {i : Nat} {vs : List Nat} {α β : Type} {enc : α → D} {f : α → D} {g : β → D} {I : Store → Prop} {Q : β → Prop}
theorem lc_st : ∀ {xs : List α} {π : Store}, I π → (∀ x ∈ xs, ∀ π, I π → ∃ z π', e (ρ.set i (some (enc x))) π = .ok (g z, π') ∧ Q z ∧ I π') → ∃ (zs : List β) (π' : Store), lcLoop (gN i) tYesD e (xs.map enc) ρ π = .ok (zs.map g, π') ∧ zs.length = xs.length ∧ (∀ z ∈ zs, Q z) ∧ I π'
  | [], π, hI, _ => ⟨[], π, rfl, rfl, fun _ h => (nomatch h), hI⟩
  | x :: xs, π, hI, h => by
    obtain ⟨z, π1, e1, q1, I1⟩ := h x List.mem_cons_self π hI
    obtain ⟨zs, π2, e2, l2, q2, I2⟩ := lc_st (xs := xs) I1 fun y hy => h y (List.mem_cons_of_mem _ hy)
    refine ⟨z :: zs, π2, ?_, by rw [List.length_cons, List.length_cons, l2], fun u hu => ?_, I2⟩
    · simp only [List.map_cons, lcLoop, gN_ap, noX_ok, Res.bind_ok, tYesD_ap, if_true, e1, e2]
    · rcases List.mem_cons.mp hu with rfl | hu
      · exact q1
      · exact q2 u hu
theorem eLc_st {xs : List α} (hs : it ρ π = .ok (xs.map enc, π)) (hl : xs.length ≤ 100000) (hI : I π) (h : ∀ x ∈ xs, ∀ π, I π → ∃ z π', e ((wipeE ρ vs).set i (some (enc x))) π = .ok (g z, π') ∧ Q z ∧ I π') :
    ∃ (zs : List β) (π' : Store), eLc it vs (gN i) tYesD e ρ π = .ok (.lst (zs.map g), π') ∧ zs.length = xs.length ∧ (∀ z ∈ zs, Q z) ∧ I π' := by
  obtain ⟨zs, π', q, r⟩ := lc_st hI h
  refine ⟨zs, π', ?_, r⟩
  unfold eLc
  rw [hs]
  simp only [Res.bind_ok, small5, List.length_map, hl, if_true]
  rw [q]
  rfl
theorem lc_stt : ∀ {xs : List α} {π : Store}, I π → (∀ x ∈ xs, ∀ π, I π → ∃ b π', t (ρ.set i (some (enc x))) π = .ok (b, π') ∧ (b = true → e (ρ.set i (some (enc x))) π' = .ok (f x, π')) ∧ I π') → ∃ (zs : List α) (π' : Store), lcLoop (gN i) t e (xs.map enc) ρ π = .ok (zs.map f, π') ∧ zs.Sublist xs ∧ I π'
  | [], π, hI, _ => ⟨[], π, rfl, List.Sublist.slnil, hI⟩
  | x :: xs, π, hI, h => by
    obtain ⟨b, π1, e1, q1, I1⟩ := h x List.mem_cons_self π hI
    obtain ⟨zs, π2, e2, l2, I2⟩ := lc_stt (xs := xs) I1 fun y hy => h y (List.mem_cons_of_mem _ hy)
    cases b with
    | true =>
      refine ⟨x :: zs, π2, ?_, l2.cons₂ x, I2⟩
      simp only [List.map_cons, lcLoop, gN_ap, noX_ok, Res.bind_ok, if_true, e1, e2, q1 rfl]
    | false =>
      refine ⟨zs, π2, ?_, l2.cons x, I2⟩
      simp only [List.map_cons, lcLoop, gN_ap, noX_ok, Res.bind_ok, e1, e2, Bool.false_eq_true, if_false]
theorem eLc_stt {xs : List α} (hs : it ρ π = .ok (xs.map enc, π)) (hl : xs.length ≤ 100000) (hI : I π) (h : ∀ x ∈ xs, ∀ π, I π → ∃ b π', t ((wipeE ρ vs).set i (some (enc x))) π = .ok (b, π') ∧ (b = true → e ((wipeE ρ vs).set i (some (enc x))) π' = .ok (f x, π')) ∧ I π') :
    ∃ (zs : List α) (π' : Store), eLc it vs (gN i) t e ρ π = .ok (.lst (zs.map f), π') ∧ zs.Sublist xs ∧ I π' := by
  obtain ⟨zs, π', q, r⟩ := lc_stt hI h
  refine ⟨zs, π', ?_, r⟩
  unfold eLc
  rw [hs]
  simp only [Res.bind_ok, small5, List.length_map, hl, if_true]
  rw [q]
  rfl
end
/-! ### a drawn partition -/
def upto (k : Int) (m : Nat) : List Int := (List.range m).map fun i : Nat => k + (i : Int)
theorem upto_succ {k : Int} {m : Nat} : upto k (m + 1) = k :: upto (k + 1) m := by
  unfold upto
  rw [List.range_succ_eq_map, List.map_cons, List.map_map]
  congr 1
  · simp
  · refine List.map_congr_left fun i _ => ?_
    simp only [Function.comp]
    omega
theorem rg_upto {n : Int} : rg n = upto 0 n.toNat := rfl
theorem upto_snoc {k : Int} {m : Nat} : upto k (m + 1) = upto k m ++ [k + m] := by
  unfold upto
  rw [List.range_succ, List.map_append]
  rfl
/-- the rows that hold the cases below k -/
structure Rows (k : Nat) (rows : List Lot) : Prop where
  ne : ∀ r ∈ rows, r ≠ []
  asc : ∀ r ∈ rows, r.Pairwise (· < ·)
  rng : ∀ r ∈ rows, ∀ c ∈ r, 0 ≤ c ∧ c < (k : Int)
  firsts : (rows.map fun r => r.headD 0).Pairwise (· < ·)
  perm : rows.flatten.Perm (upto 0 k)
  len : rows.length ≤ k
theorem head_mem {r : Lot} (h : r ≠ []) : r.headD 0 ∈ r := by
  cases r with
  | nil => exact absurd rfl h
  | cons x r => exact List.mem_cons_self
theorem Rows.new {k : Nat} {rows : List Lot} (h : Rows k rows) : Rows (k + 1) (rows ++ [[(k : Int)]]) := by
  refine ⟨fun r hr => ?_, fun r hr => ?_, fun r hr c hc => ?_, ?_, ?_, by rw [List.length_append]; have := h.len; simp; omega⟩
  · rcases List.mem_append.mp hr with hr | hr
    · exact h.ne r hr
    · rw [List.mem_singleton.mp hr]; exact List.cons_ne_nil _ _
  · rcases List.mem_append.mp hr with hr | hr
    · exact h.asc r hr
    · rw [List.mem_singleton.mp hr]; exact List.pairwise_singleton _ _
  · rcases List.mem_append.mp hr with hr | hr
    · have := h.rng r hr c hc; omega
    · rw [List.mem_singleton.mp hr] at hc
      rw [List.mem_singleton.mp hc]
      omega
  · rw [List.map_append]
    refine List.pairwise_append.mpr ⟨h.firsts, List.pairwise_singleton _ _, fun a ha b hb => ?_⟩
    obtain ⟨r, hr, rfl⟩ := List.mem_map.mp ha
    have hb' : b = (k : Int) := by simpa using hb
    rw [hb']
    exact (h.rng r hr _ (head_mem (h.ne r hr))).2
  · rw [List.flatten_append, upto_snoc]
    have : (0 : Int) + (k : Int) = k := by omega
    rw [this]
    exact h.perm.append_right _
theorem flatten_set {x : Int} : ∀ {rows : List Lot} {j : Nat} (hj : j < rows.length), ((rows.set j (rows[j] ++ [x])).flatten).Perm (rows.flatten ++ [x])
  | r :: rows, 0, _ => by
    simp only [List.set_cons_zero, List.getElem_cons_zero, List.flatten_cons, List.append_assoc]
    exact List.Perm.append_left _ List.perm_append_comm
  | r :: rows, j + 1, hj => by
    simp only [List.set_cons_succ, List.getElem_cons_succ, List.flatten_cons, List.append_assoc]
    exact List.Perm.append_left _ (flatten_set (rows := rows) (j := j) (by simpa using hj))
theorem Rows.grow {k j : Nat} {rows : List Lot} (h : Rows k rows) (hj : j < rows.length) : Rows (k + 1) (rows.set j (rows[j] ++ [(k : Int)])) := by
  have hm : rows[j] ∈ rows := List.getElem_mem hj
  have key : ∀ r ∈ rows.set j (rows[j] ++ [(k : Int)]), r ∈ rows ∨ r = rows[j] ++ [(k : Int)] := fun r hr => List.mem_or_eq_of_mem_set hr
  refine ⟨fun r hr => ?_, fun r hr => ?_, fun r hr c hc => ?_, ?_, ?_, by rw [List.length_set]; have := h.len; omega⟩
  · rcases key r hr with hr | rfl
    · exact h.ne r hr
    · simp
  · rcases key r hr with hr | rfl
    · exact h.asc r hr
    · refine List.pairwise_append.mpr ⟨h.asc _ hm, List.pairwise_singleton _ _, fun a ha b hb => ?_⟩
      rw [List.mem_singleton.mp hb]
      exact (h.rng _ hm a ha).2
  · rcases key r hr with hr | rfl
    · have := h.rng r hr c hc; omega
    · rcases List.mem_append.mp hc with hc | hc
      · have := h.rng _ hm c hc; omega
      · rw [List.mem_singleton.mp hc]; omega
  · have e : (rows.set j (rows[j] ++ [(k : Int)])).map (fun r => r.headD 0) = rows.map fun r => r.headD 0 := by
      rw [List.map_set]
      have hne := h.ne _ hm
      have e2 : (rows[j] ++ [(k : Int)]).headD 0 = (rows.map fun r => r.headD 0)[j]'(by simpa using hj) := by
        rw [List.getElem_map]
        cases q : rows[j] with
        | nil => exact absurd q hne
        | cons x r => rfl
      rw [e2, List.set_getElem_self]
    rw [e]
    exact h.firsts
  · refine (flatten_set hj).trans ?_
    rw [upto_snoc]
    have : (0 : Int) + (k : Int) = k := by omega
    rw [this]
    exact h.perm.append_right _
end Ph
end
section
set_option Elab.async false
set_option linter.all false
set_option maxRecDepth 100000
set_option exponentiation.threshold 200000
/-! Plain law, part j: a drawn partition, a drawn hall. -/
namespace Ph
open PySem PySem.Spec PyProof.Rows L2
section
variable {np k : Nat} {π π' : Store} {n c : Int} {l m : Lot} {rows : List Lot} {d : D} {ds : List D}
@[simp] theorem ld_lst : ld π (.lst ds) = .lst ds := rfl
@[simp] theorem ld_tup : ld π (.tup ds) = .tup ds := rfl
@[simp] theorem ld_L : ld π (dL l) = dL l := rfl
theorem frzL_ints : ∀ {l : List Int}, frzL (l.map D.int) = true
  | [] => rfl
  | x :: l => by simp only [List.map_cons, frzL, frz_int, Bool.true_and]; exact frzL_ints
@[simp] theorem frz_L : frz (dL l) = true := frzL_ints
theorem eFnL_ap {g : List D → Res D} {as : SA} {ρ : En} : eFnL g as ρ π = (as ρ π).bind fun x => (g (x.1.map (ld x.2))).bind fun z => if frz z = true then .ok (z, x.2) else .fail := rfl
theorem fitsL_Ls : ∀ {rows : List Lot}, fitsL (rows.map dL) 39 = true
  | [] => rfl
  | r :: rows => by simp only [List.map_cons, fitsL, fits_L, Bool.true_and]; exact fitsL_Ls
theorem dNe_rows : dNe (.lst (rows.map dL)) (.lst []) = some (.bl (!decide (rows = []))) := by
  have h : fits (.lst (rows.map dL)) 40 = true := fitsL_Ls
  have h2 : fits (.lst []) 40 = true := rfl
  simp only [dNe, h, h2, Bool.and_self, Bool.or_true, if_true, deq]
  congr 2
  cases rows <;> simp [deqL]
theorem dAdd_L (h : l.length + m.length ≤ 100000) : dAdd (dL l) (dL m) = some (dL (l ++ m)) := by
  have : (l.map D.int).length + (m.map D.int).length ≤ 100000 := by simpa using h
  simp only [dL, dAdd, this, if_true, List.map_append]
theorem eApp_ap {o e : SE} {ρ : En} : eApp o e ρ π = (o ρ π).bind fun p => (lstC p.2 p.1).bind fun n => (e ρ p.2).bind fun q => (getL q.2 n).bind fun l => if l.length < 100000 then .ok (.non, q.2.set n (.lst (l ++ [q.1]))) else .fail := rfl
theorem eNewL_ap {as : SA} {ρ : En} : eNewL as ρ π = (as ρ π).bind fun x => if x.1.length ≤ 100000 then .ok (.ptr x.2.length, x.2 ++ [.lst x.1]) else .fail := rfl
/-- where the rows stand -/
structure RowsAt (np R k : Nat) (π π1 : Store) (rows : List Lot) : Prop where
  fr : Fr np π π1
  len : π1.length = R + 1
  at_ : π1[R]? = some (.lst (rows.map dL))
  rows : Rows k rows
theorem RowsAt.set {R k' : Nat} {π1 : Store} {rows' : List Lot} (hR : R = π.length) (hne : np ≠ R) (h : RowsAt np R k π π1 rows) (h' : Rows k' rows') : RowsAt np R k' π (π1.set R (.lst (rows'.map dL))) rows' := by
  have hl : R < π1.length := by rw [h.len]; omega
  refine ⟨⟨by rw [List.length_set]; exact h.fr.len, fun m hm h2 => ?_, ?_⟩, by rw [List.length_set]; exact h.len, List.getElem?_set_self hl, h'⟩
  · rw [List.getElem?_set_ne (by omega)]
    exact h.fr.keep m hm h2
  · obtain ⟨a, b, c, e, r⟩ := h.fr.pool
    exact ⟨a, b, c, by rw [List.getElem?_set_ne (Ne.symm hne)]; exact e, r⟩
theorem RowsAt.draw {R : Nat} {π1 π2 : Store} (hR : R = π.length) (hne : np ≠ R) (h : RowsAt np R k π π1 rows) (f : Fr np π1 π2) (fl : π2.length = π1.length) : RowsAt np R k π π2 rows :=
  ⟨h.fr.trans f, by rw [fl]; exact h.len, by rw [f.keep R (Ne.symm hne) (by rw [h.len]; omega)]; exact h.at_, h.rows⟩
theorem parted_turn {R : Nat} {π1 : Store} {u4 u5 : Option D} (hR : R = π.length) (hne : np ≠ R) (h : RowsAt np R k π π1 rows) (hk : k < 1000) :
    ∃ v4 v5 π2 rows', ((sSeq (sSet 4 (eCall g__law_draw (aCons (eV 0) (aCons (eC (.int 3)) aNil))))
    (sIf (tAnd (tB (eOpL dNe (eV 2) (eFn fLst aNil))) (tB (eOp dGt (eV 4) (eC (.int 0))))) (sSeq (sSet 5 (eCall g__law_draw (aCons (eV 0) (aCons (eFnL fLen (aCons (eV 2) aNil)) aNil))))
    (sAsg (gSetL (eV 2) (eV 5)) (eOp dAdd (eOpL dIx (eV 2) (eV 5)) (eFn fTup (aCons (eV 3) aNil))))) (sExpr (eApp (eV 2) (eFn fTup (aCons (eV 3) aNil))))))) [some (.ptr np), some (.int n), some (.ptr R), some (.int k), u4, u5] π1 = .ok (.nx [some (.ptr np), some (.int n), some (.ptr R), some (.int k), v4, v5] π2) ∧ RowsAt np R (k + 1) π π2 rows' := by
  obtain ⟨way, π2, e1, w0, w1, f1, l1⟩ := s_draw (many := 3) h.fr.pool (by decide) (by decide)
  have h1 := h.draw hR hne f1 l1
  have hlen := h.rows.len
  have new : ∀ v5, ∃ π3 rows', (Res.ok (Fl.nx [some (.ptr np), some (.int n), some (.ptr R), some (.int k), some (.int way), v5] (π2.set R (.lst (rows.map dL ++ [dL [(k : Int)]])))) : Res Fl) = .ok (.nx [some (.ptr np), some (.int n), some (.ptr R), some (.int k), some (.int way), v5] π3) ∧ RowsAt np R (k + 1) π π3 rows' := fun v5 => by
    refine ⟨_, rows ++ [[(k : Int)]], rfl, ?_⟩
    have := h1.set hR hne (rows' := rows ++ [[(k : Int)]]) h.rows.new
    rw [List.map_append] at this
    exact this
  have ek : ∀ {u : Option D}, (Res.ok (D.tup [.int k]) : Res D) = .ok (dL [(k : Int)]) := fun {u} => rfl
  have hl' : (rows.map dL).length < 100000 := by rw [List.length_map]; omega
  by_cases hr : rows = []
  · subst hr
    obtain ⟨π3, rows', e, R'⟩ := new u5
    refine ⟨some (.int way), u5, π3, rows', ?_, R'⟩
    have at1 := h1.at_
    have d1 : dNe (.lst []) (.lst []) = some (.bl false) := by have := dNe_rows (rows := []); simpa using this
    simp at at1
    simp [e1, eOpL_ap, ld_ptr at1, d1, eApp_ap, lstC_ptr at1, getL_ptr at1]
    simpa [dL] using e
  · by_cases hw : way > 0
    · have hpos : 0 < rows.length := List.length_pos_iff.mpr hr
      obtain ⟨j, π3, e2, j0, j1, f2, l2⟩ := s_draw (many := rows.length) h1.fr.pool (by omega) (by omega)
      have h2 := h1.draw hR hne f2 l2
      have hj : j.toNat < rows.length := by omega
      have hj' : j = ((j.toNat : Nat) : Int) := by omega
      have at1 := h1.at_
      have at2 := h2.at_
      have ed : dIx (.lst (rows.map dL)) (.int j) = some (dL rows[j.toNat]) := by
        show atI (rows.map dL) j = _
        rw [atI_nat' j0 (by rw [List.length_map]; exact j1), List.getElem?_map, List.getElem?_eq_getElem hj]
        rfl
      have hrl : rows[j.toNat].length ≤ 1000 := by
        have a1 := asc_len (h.rows.asc _ (List.getElem_mem hj)) (h.rows.rng _ (List.getElem_mem hj))
        omega
      have ea : dAdd (dL rows[j.toNat]) (.tup [.int k]) = some (dL (rows[j.toNat] ++ [(k : Int)])) := dAdd_L (m := [(k : Int)]) (by simp; omega)
      have ex : ixN rows.length j = some j.toNat := by
        unfold ixN
        simp [j0, j1]
      refine ⟨some (.int way), some (.int j), _, _, ?_, h2.set hR hne (rows' := rows.set j.toNat (rows[j.toNat] ++ [(k : Int)])) (h.rows.grow hj)⟩
      simp [e1, eOpL_ap, ld_ptr at1, dNe_rows, hr, hw, eFnL_ap, e2, ld_ptr at2, ed, ea, gSetL_ap, lstC_ptr at2, getL_ptr at2, ex, at1, at2, List.map_set]
    · obtain ⟨π3, rows', e, R'⟩ := new u5
      refine ⟨some (.int way), u5, π3, rows', ?_, R'⟩
      have at1 := h1.at_
      simp [e1, eOpL_ap, ld_ptr at1, dNe_rows, hr, hw, eApp_ap, lstC_ptr at1, getL_ptr at1, hl', at1]
      have hl2 : rows.length < 100000 := by omega
      simpa [dL, hl2] using e
theorem parted_loop {R : Nat} (hR : R = π.length) (hne : np ≠ R) : ∀ (m k : Nat) {π1 : Store} {rows : List Lot} {u3 u4 u5 : Option D}, k + m ≤ 1000 → RowsAt np R k π π1 rows →
    ∃ v3 v4 v5 π2 rows', sLoop (gN 3) ((sSeq (sSet 4 (eCall g__law_draw (aCons (eV 0) (aCons (eC (.int 3)) aNil))))
    (sIf (tAnd (tB (eOpL dNe (eV 2) (eFn fLst aNil))) (tB (eOp dGt (eV 4) (eC (.int 0))))) (sSeq (sSet 5 (eCall g__law_draw (aCons (eV 0) (aCons (eFnL fLen (aCons (eV 2) aNil)) aNil))))
    (sAsg (gSetL (eV 2) (eV 5)) (eOp dAdd (eOpL dIx (eV 2) (eV 5)) (eFn fTup (aCons (eV 3) aNil))))) (sExpr (eApp (eV 2) (eFn fTup (aCons (eV 3) aNil))))))) ((upto k m).map D.int) [some (.ptr np), some (.int n), some (.ptr R), u3, u4, u5] π1 = .ok (.nx [some (.ptr np), some (.int n), some (.ptr R), v3, v4, v5] π2) ∧ RowsAt np R (k + m) π π2 rows'
  | 0, k, π1, rows, u3, u4, u5, _, h => ⟨u3, u4, u5, π1, rows, rfl, h⟩
  | m + 1, k, π1, rows, u3, u4, u5, hm, h => by
    obtain ⟨v4, v5, π2, rows2, e1, h1⟩ := parted_turn (n := n) (u4 := u4) (u5 := u5) hR hne h (by omega)
    obtain ⟨w3, w4, w5, π3, rows3, e2, h2⟩ := parted_loop hR hne m (k + 1) (u3 := some (.int k)) (u4 := v4) (u5 := v5) (by omega) h1
    refine ⟨w3, w4, w5, π3, rows3, ?_, by rw [show k + (m + 1) = k + 1 + m by omega]; exact h2⟩
    have e3 : ((k + 1 : Nat) : Int) = (k : Int) + 1 := by omega
    rw [e3] at e2
    rw [upto_succ, List.map_cons]
    unfold sLoop
    simp only [gN_ap, Res.bind_ok, List.set_cons_succ, List.set_cons_zero]
    rw [e1]
    exact e2
theorem s_parted (hp : PoolAt np π) (h0 : 0 ≤ n) (hn : n ≤ 1000) : ∃ rows π', g__law_parted [.ptr np, .int n] π = .ok (.ptr π.length, π') ∧ RowsAt np π.length n.toNat π π' rows := by
  have hne : np ≠ π.length := by have := hp.lt; omega
  have h1 : RowsAt np π.length 0 π (π ++ [.lst []]) [] := ⟨.add hp _, by simp, by simp, ⟨fun _ h => (nomatch h), fun _ h => (nomatch h), fun _ h => (nomatch h), List.Pairwise.nil, List.Perm.refl _, Nat.le_refl _⟩⟩
  obtain ⟨v3, v4, v5, π2, rows, e, h2⟩ := parted_loop (n := n) rfl hne n.toNat 0 (u3 := none) (u4 := none) (u5 := none) (by omega) h1
  rw [Nat.zero_add] at h2
  refine ⟨rows, π2, ?_, h2⟩
  have er : rng1 [.int n] = .ok ((upto 0 n.toNat).map D.int) := by
    show (if n ≤ 1000000 ∧ -1000000 ≤ n then Res.ok (rangeD 0 n) else .fail) = _
    rw [if_pos ⟨by omega, by omega⟩, rangeD_rg, rg_upto]
  have e' : ∀ x, ((0 : Nat) : Int) = x → x = 0 := fun x h => h.symm
  rw [show ((0 : Nat) : Int) = 0 from rfl] at e
  simp [g__law_parted, gRun, sRun, ini, fs__law_parted, List.replicate, eNewL_ap, er, e]
end
end Ph
end
section
set_option Elab.async false
set_option linter.all false
set_option maxRecDepth 100000
set_option exponentiation.threshold 200000
/-! Plain law, part k: a drawn hall. -/
namespace Ph
open PySem PySem.Spec PyProof.Rows L2
/-! ### chances of weights -/
def wts (own : List Int) : List Rat := own.map fun w => Rat.divInt w own.sum
/-- weights that were drawn -/
def IsW (w : Int) : Prop := 1 ≤ w ∧ w ≤ 4
theorem sum_w : ∀ {own : List Int}, (∀ w ∈ own, IsW w) → (own.length : Int) ≤ own.sum ∧ own.sum ≤ 4 * own.length
  | [], _ => ⟨Int.le_refl _, Int.le_refl _⟩
  | w :: own, h => by
    have h1 := h w List.mem_cons_self
    have ih := sum_w (own := own) fun v hv => h v (List.mem_cons_of_mem _ hv)
    unfold IsW at h1
    rw [List.sum_cons, List.length_cons]
    omega
theorem foldl_div {S : Int} : ∀ {l : List Int} {s : Rat}, (l.map fun w => Rat.divInt w S).foldl (· + ·) s = s + (l.sum : Rat) / (S : Rat)
  | [], s => by
    show s = s + ((0 : Int) : Rat) / (S : Rat)
    rw [Rat.intCast_zero, Rat.div_def, Rat.zero_mul, Rat.add_zero]
  | w :: l, s => by
    rw [List.map_cons, List.foldl_cons, foldl_div, List.sum_cons, Rat.divInt_eq_div, Rat.intCast_add, Rat.add_assoc]
    congr 1
    rw [Rat.div_def, Rat.div_def, Rat.div_def, Rat.add_mul]
theorem wts_one {own : List Int} (h : own.sum ≠ 0) : sumR (wts own) = 1 := by
  unfold sumR wts
  rw [foldl_div, Rat.zero_add]
  have : (own.sum : Rat) ≠ 0 := fun z => h (by exact_mod_cast z)
  rw [Rat.div_def, Rat.mul_inv_cancel _ this]
theorem wts_ok {n : Int} {lot : Lot} {own : List Int} (hr : LotOk n lot) (hn : n ≤ 6) (hne : lot ≠ []) (hl : own.length = lot.length) (hw : ∀ w ∈ own, IsW w) : PartOk n (lot, wts own) := by
  have l6 := hr.len hn
  have lp : 0 < lot.length := List.length_pos_iff.mpr hne
  have hs := sum_w hw
  have s0 : 0 < own.sum := by omega
  refine ⟨hr.rng, hr.asc, hne, by simp [wts, hl], fun r h => ?_, fun r h => ?_, wts_one (by omega)⟩
  · obtain ⟨w, hw', rfl⟩ := List.mem_map.mp h
    have := (hw w hw').1
    rw [Rat.divInt_eq_div, Rat.div_def]
    exact Rat.mul_pos (Rat.intCast_pos.mpr (by omega)) (Rat.inv_pos.mpr (Rat.intCast_pos.mpr s0))
  · obtain ⟨w, hw', rfl⟩ := List.mem_map.mp h
    have h1 := hw w hw'
    unfold IsW at h1
    constructor
    · rw [Rat.num_divInt, Int.sign_eq_one_of_pos s0, Int.one_mul]
      refine Nat.lt_of_le_of_lt (Int.natAbs_ediv_le_natAbs _ _) ?_
      have : (2 : Nat) ^ 8 = 256 := by decide
      omega
    · rw [Rat.den_divInt, if_neg (by omega)]
      refine Nat.lt_of_le_of_lt (Nat.div_le_self _ _) ?_
      have : (2 : Nat) ^ 8 = 256 := by decide
      omega
/-! ### a telling of rows -/
theorem disj_of {α : Type} {R : α → α → Prop} (hs : ∀ x y, R x y → R y x) : ∀ {l : List α}, l.Pairwise R → ∀ x ∈ l, ∀ y ∈ l, x = y ∨ R x y
  | [], _, x, hx, _, _ => nomatch hx
  | a :: l, h, x, hx, y, hy => by
    obtain ⟨h1, h2⟩ := List.pairwise_cons.mp h
    rcases List.mem_cons.mp hx with ex | hx'
    · rcases List.mem_cons.mp hy with ey | hy'
      · exact .inl (ex.trans ey.symm)
      · rw [ex]; exact .inr (h1 y hy')
    · rcases List.mem_cons.mp hy with ey | hy'
      · rw [ey]; exact .inr (hs _ _ (h1 x hx'))
      · exact disj_of hs h2 x hx' y hy'
theorem tel_of {n : Int} {rows : List Lot} {t : Tel} (h0 : 0 ≤ n) (hn : n ≤ 6) (hr : Rows n.toNat rows) (ht : t.map (·.1) = rows) (hp : ∀ p ∈ t, PartOk n p) : TelOk' n t := by
  have hfm : t.flatMap (·.1) = rows.flatten := by rw [← ht]; rfl
  have hnd : rows.flatten.Nodup := hr.perm.nodup_iff.mpr ((rg_upto (n := n) ▸ rg_asc).imp fun h => by omega)
  have hpw := (List.pairwise_flatten.mp hnd).2
  rw [← ht, List.pairwise_map] at hpw
  have hlen : t.length = rows.length := by rw [← ht, List.length_map]
  refine ⟨⟨hp, fun c h1 h2 => ?_, fun p hp' q hq c hc1 hc2 => ?_, by have := hr.len; omega⟩, ?_, by rw [hfm]; exact hr.perm⟩
  · have : c ∈ rows.flatten := hr.perm.mem_iff.mpr (by rw [← rg_upto]; exact mem_rg.mpr ⟨h1, h2⟩)
    obtain ⟨r, hr1, hr2⟩ := List.mem_flatten.mp this
    rw [← ht] at hr1
    obtain ⟨p, hp1, rfl⟩ := List.mem_map.mp hr1
    exact ⟨p, hp1, hr2⟩
  · rcases disj_of (R := fun p q : Part => ∀ x ∈ p.1, ∀ y ∈ q.1, x ≠ y) (fun p q h x hx y hy => Ne.symm (h y hy x hx)) hpw p hp' q hq with z | z
    · exact z
    · exact absurd rfl (z c hc1 c hc2)
  · have : (t.map fun p => p.1.headD 0) = rows.map fun r => r.headD 0 := by rw [← ht, List.map_map]; rfl
    rw [this]
    exact hr.firsts.imp fun h => Int.le_of_lt h
section
variable {np k : Nat} {π π' : Store} {n c : Int} {l m : Lot} {rows : List Lot} {d : D} {ds : List D} {t : Tel}
theorem dAdd_t {a b : List D} (h : a.length + b.length ≤ 100000) : dAdd (.tup a) (.tup b) = some (.tup (a ++ b)) := if_pos h
theorem sum_cut {own : List Int} (hs : 0 < own.sum) (hb : own.sum < 1000000) (hl : own.length ≤ 6) {ρ : En} (h9 : gt ρ 9 = .ok (.lst (own.map D.int))) (h9' : ∀ x, gt ((wipeE ρ [11]).set 11 (some x)) 9 = .ok (.lst (own.map D.int))) (h11 : ∀ x, gt ((wipeE ρ [11]).set 11 (some x)) 11 = .ok x) :
    eLc (iS (eV 9)) [11] (gN 11) tYesD (eCall g__law_cut (aCons (eV 11) (aCons (eFn fSum (aCons (eV 9) aNil)) aNil))) ρ π = .ok (.lst ((wts own).map fr), π) := by
  unfold wts
  rw [List.map_map]
  refine eLc_all (xs := own) (enc := D.int) (f := fun w => fr (Rat.divInt w own.sum)) (by simp [h9]) (by omega) fun w hw => ?_
  have e20 : (2 : Nat) ^ 20 = 1048576 := by decide
  have hsz0 : own.sum.natAbs < 2 ^ 20 := by omega
  have hsz : own.sum.natAbs < 2 ^ 9000 := Nat.lt_of_lt_of_le hsz0 (Nat.pow_le_pow_right (by decide) (by decide))
  simp [h9', h11, fSum, intsOf_map, s_cut hs hsz]
end
end Ph
end
section
set_option Elab.async false
set_option linter.all false
set_option maxRecDepth 100000
set_option exponentiation.threshold 200000
/-! Plain law, part l: a drawn hall. -/
namespace Ph
open PySem PySem.Spec PyProof.Rows L2
section
variable {np k : Nat} {π π' : Store} {n c most p : Int} {l m lot : Lot} {rows : List Lot} {d : D} {ds : List D} {t : Tel} {ts : List Tel} {hv own : List Int} {odd : Bool}
/-- the same cells, but for the pool -/
structure Fl_ (np : Nat) (π π' : Store) : Prop where
  fr : Fr np π π'
  len : π'.length = π.length
theorem Fl_.refl (h : PoolAt np π) : Fl_ np π π := ⟨.refl h, rfl⟩
theorem Fl_.trans {π'' : Store} (a : Fl_ np π π') (b : Fl_ np π' π'') : Fl_ np π π'' := ⟨a.fr.trans b.fr, b.len.trans a.len⟩
theorem s_draw' (h : PoolAt np π) {many : Int} (h0 : 0 < many) (hm : many < 1000000000) : ∃ k π', g__law_draw [.ptr np, .int many] π = .ok (.int k, π') ∧ 0 ≤ k ∧ k < many ∧ Fl_ np π π' := by
  obtain ⟨k, π', e, a, b, f, l⟩ := s_draw h h0 hm
  exact ⟨k, π', e, a, b, f, l⟩
abbrev rowE (np : Nat) (most n : Int) (ts : List Tel) (hv : List Int) (odd : Bool) (p : Int) (t : Tel) (u8 u9 : Option D) : En := [some (.ptr np), some (.int most), some (.int n), some (dTs ts), some (.lst (hv.map D.int)), some (.bl odd), some (.int p), some (dT t), u8, u9, none, none]
/-- the weights of a hall -/
structure HvOk (n : Int) (hv : List Int) : Prop where
  len : (hv.length : Int) = n
  w : ∀ w ∈ hv, IsW w
theorem hv_at (h : HvOk n hv) (h0 : 0 ≤ c) (h1 : c < n) : ∃ w, dIx (.lst (hv.map D.int)) (.int c) = some (.int w) ∧ IsW w := by
  have hc : c.toNat < hv.length := by have := h.len; omega
  refine ⟨hv[c.toNat], ?_, h.w _ (List.getElem_mem hc)⟩
  show atI (hv.map D.int) c = _
  rw [atI_nat' h0 (by rw [List.length_map]; have := h.len; omega), List.getElem?_map, List.getElem?_eq_getElem hc]
  rfl
theorem own_draw (hp : PoolAt np π) (H : HvOk n hv) (hr : LotOk n lot) (hn : n ≤ 6) {u9 : Option D} :
    ∃ (own : List Int) (π' : Store), eLc (iS (eV 8)) [10] (gN 10) tYesD (eIf (tAnd (tB (eV 5)) (tB (eOp dEq (eCall g__law_draw (aCons (eV 0) (aCons (eC (.int 3)) aNil))) (eC (.int 0))))) (eOp dAdd (eC (.int 1)) (eCall g__law_draw (aCons (eV 0) (aCons (eC (.int 3)) aNil)))) (eOp dIx (eV 4) (eV 10))) (rowE np most n ts hv odd p t (some (dL lot)) u9) π = .ok (.lst (own.map D.int), π') ∧
      own.length = lot.length ∧ (∀ w ∈ own, IsW w) ∧ Fl_ np π π' := by
  refine eLc_st (xs := lot) (enc := D.int) (g := D.int) (I := fun π1 => Fl_ np π π1) (by simp [rowE]) (by have := hr.len hn; omega) (.refl hp) fun c hc π1 I1 => ?_
  obtain ⟨w, ew, hw⟩ := hv_at H (hr.rng c hc).1 (hr.rng c hc).2
  cases odd with
  | false => exact ⟨w, π1, by simp [rowE, wipeE, ew], hw, I1⟩
  | true =>
    obtain ⟨k, π2, e2, k0, k1, f2⟩ := s_draw' (many := 3) I1.fr.pool (by decide) (by decide)
    by_cases hk : k = 0
    · obtain ⟨j, π3, e3, j0, j1, f3⟩ := s_draw' (many := 3) f2.fr.pool (by decide) (by decide)
      refine ⟨1 + j, π3, by simp [rowE, wipeE, e2, hk, e3], ⟨by omega, by omega⟩, (I1.trans f2).trans f3⟩
    · exact ⟨w, π2, by simp [rowE, wipeE, e2, hk, ew], hw, I1.trans f2⟩
noncomputable def fbRow : SS := (sSeq (sSet 9 (eLc (iS (eV 8)) [10] (gN 10) tYesD (eIf (tAnd (tB (eV 5)) (tB (eOp dEq (eCall g__law_draw (aCons (eV 0) (aCons (eC (.int 3)) aNil))) (eC (.int 0))))) (eOp dAdd (eC (.int 1)) (eCall g__law_draw (aCons (eV 0) (aCons (eC (.int 3)) aNil)))) (eOp dIx (eV 4) (eV 10)))))
    (sSet 7 (eOp dAdd (eV 7) (eFn fTup (aCons (eFn fTup (aCons (eV 8) (aCons (eFn fTuple (aCons (eLc (iS (eV 9)) [11] (gN 11) tYesD (eCall g__law_cut (aCons (eV 11) (aCons (eFn fSum (aCons (eV 9) aNil)) aNil)))) aNil)) aNil))) aNil)))))
theorem row_turn (hp : PoolAt np π) (H : HvOk n hv) (hr : LotOk n lot) (hn : n ≤ 6) (hne : lot ≠ []) (ht : t.length ≤ 1000) {u9 : Option D} :
    ∃ q π' v9, fbRow (rowE np most n ts hv odd p t (some (dL lot)) u9) π = .ok (.nx (rowE np most n ts hv odd p (t ++ [q]) (some (dL lot)) v9) π') ∧ q.1 = lot ∧ PartOk n q ∧ Fl_ np π π' := by
  obtain ⟨own, π', e1, l1, w1, f1⟩ := own_draw (most := most) (ts := ts) (odd := odd) (p := p) (t := t) (u9 := u9) hp H hr hn
  have l6 := hr.len hn
  have lp : 0 < lot.length := List.length_pos_iff.mpr hne
  have hs := sum_w w1
  have e2 := sum_cut (π := π') (own := own) (ρ := rowE np most n ts hv odd p t (some (dL lot)) (some (.lst (own.map D.int)))) (by omega) (by omega) (by omega) (by simp [rowE]) (by simp [rowE, wipeE]) (by simp [rowE, wipeE])
  refine ⟨(lot, wts own), π', some (.lst (own.map D.int)), ?_, rfl, wts_ok hr hn hne l1 w1, f1⟩
  have ea : dAdd (dT t) (.tup [.tup [dL lot, .tup ((wts own).map fr)]]) = some (dT (t ++ [(lot, wts own)])) := by
    show dAdd (.tup (t.map dP)) (.tup [dP (lot, wts own)]) = _
    rw [dAdd_t (by simp; omega)]
    simp [dT]
  unfold fbRow
  simp only [sSeq_ap, sSet_ap, e1, Res.bind_ok]
  simp only [rowE, List.set_cons_succ, List.set_cons_zero] at e2 ⊢
  simp [e2, fTuple_l, ea]
theorem row_loop (H : HvOk n hv) (hn : n ≤ 6) : ∀ {rows : List Lot} {t : Tel} {π : Store} {u8 u9 : Option D}, PoolAt np π → (∀ r ∈ rows, LotOk n r ∧ r ≠ []) → t.length + rows.length ≤ 1000 →
    ∃ t' π' v8 v9, sLoop (gN 8) fbRow (rows.map dL) (rowE np most n ts hv odd p t u8 u9) π = .ok (.nx (rowE np most n ts hv odd p (t ++ t') v8 v9) π') ∧ t'.map (·.1) = rows ∧ (∀ q ∈ t', PartOk n q) ∧ Fl_ np π π'
  | [], t, π, u8, u9, hp, _, _ => ⟨[], π, u8, u9, by simp, rfl, fun _ h => (nomatch h), .refl hp⟩
  | r :: rows, t, π, u8, u9, hp, hr, hl => by
    rw [List.length_cons] at hl
    obtain ⟨q, π1, v9, e1, q1, q2, f1⟩ := row_turn (most := most) (ts := ts) (odd := odd) (p := p) (t := t) (u9 := u9) hp H (hr r List.mem_cons_self).1 hn (hr r List.mem_cons_self).2 (by omega)
    obtain ⟨t', π2, w8, w9, e2, r1, r2, f2⟩ := row_loop (rows := rows) (t := t ++ [q]) (u8 := some (dL r)) (u9 := v9) H hn f1.fr.pool (fun r hr' => hr r (List.mem_cons_of_mem _ hr')) (by simp; omega)
    refine ⟨q :: t', π2, w8, w9, ?_, by rw [List.map_cons, r1, q1], fun x hx => ?_, f1.trans f2⟩
    · rw [List.map_cons]
      unfold sLoop
      simp only [gN_ap, Res.bind_ok]
      have es : (rowE np most n ts hv odd p t u8 u9).set 8 (some (dL r)) = rowE np most n ts hv odd p t (some (dL r)) u9 := rfl
      rw [es, e1]
      simp only [Res.bind_ok]
      rw [e2, List.append_assoc]
      rfl
    · rcases List.mem_cons.mp hx with rfl | hx
      · exact q2
      · exact r2 x hx
/-- a person's telling -/
noncomputable def fbTel : SS := (sSeq (sSet 7 (eFn fTup aNil)) (sSeq (sFor (iS (eFrz (eCall g__law_parted (aCons (eV 0) (aCons (eV 2) aNil))))) (gN 8) fbRow) (sSet 3 (eOp dAdd (eV 3) (eFn fTup (aCons (eV 7) aNil))))))
abbrev telE (np : Nat) (most n : Int) (ts : List Tel) (hv : List Int) (odd : Bool) (u6 u7 u8 u9 : Option D) : En := [some (.ptr np), some (.int most), some (.int n), some (dTs ts), some (.lst (hv.map D.int)), some (.bl odd), u6, u7, u8, u9, none, none]
theorem tel_turn (hp : PoolAt np π) (H : HvOk n hv) (h0 : 0 ≤ n) (hn : n ≤ 6) (ht : ts.length ≤ 1000) {u7 u8 u9 : Option D} :
    ∃ t π' v7 v8 v9, fbTel (telE np most n ts hv odd (some (.int p)) u7 u8 u9) π = .ok (.nx (telE np most n (ts ++ [t]) hv odd (some (.int p)) v7 v8 v9) π') ∧ TelOk' n t ∧ Fr np π π' := by
  obtain ⟨rows, π1, e1, R⟩ := s_parted hp h0 (by omega)
  have hnp := hp.lt
  have f1 : Fr np π (π1.set π.length .gone) := by
    refine ⟨by rw [List.length_set]; exact R.fr.len, fun m hm h2 => ?_, ?_⟩
    · rw [List.getElem?_set_ne (by omega)]
      exact R.fr.keep m hm h2
    · obtain ⟨a, b, c, e, r⟩ := R.fr.pool
      exact ⟨a, b, c, by rw [List.getElem?_set_ne (by omega)]; exact e, r⟩
  have hl := R.rows.len
  obtain ⟨t', π2, v8, v9, e2, r1, r2, f2⟩ := row_loop (np := np) (most := most) (n := n) (ts := ts) (hv := hv) (odd := odd) (p := p) H hn (rows := rows) (t := []) (u8 := u8) (u9 := u9) f1.pool (fun r hr => ⟨⟨fun c hc => by have := R.rows.rng r hr c hc; omega, R.rows.asc r hr⟩, R.rows.ne r hr⟩) (by simp; omega)
  refine ⟨t', π2, some (dT t'), v8, v9, ?_, tel_of h0 hn R.rows r1 r2, f1.trans f2.fr⟩
  have ef : eFrz (eCall g__law_parted (aCons (eV 0) (aCons (eV 2) aNil))) [some (.ptr np), some (.int most), some (.int n), some (dTs ts), some (.lst (hv.map D.int)), some (.bl odd), some (.int p), some (.tup []), u8, u9, none, none] π = .ok (.lst (rows.map dL), π1.set π.length .gone) := by
    have a := R.at_
    simp [eFrz, e1, a]
  have ea : dAdd (dTs ts) (.tup [dT t']) = some (dTs (ts ++ [t'])) := by
    show dAdd (.tup (ts.map dT)) (.tup [dT t']) = _
    rw [dAdd_t (by simp; omega)]
    simp [dTs]
  have e2' : sLoop (gN 8) fbRow (rows.map dL) [some (.ptr np), some (.int most), some (.int n), some (dTs ts), some (.lst (hv.map D.int)), some (.bl odd), some (.int p), some (.tup []), u8, u9, none, none] (π1.set π.length .gone) = .ok (.nx (rowE np most n ts hv odd p t' v8 v9) π2) := e2
  unfold fbTel
  simp [telE, ef, e2', rowE, ea]
theorem tel_loop (H : HvOk n hv) (h0 : 0 ≤ n) (hn : n ≤ 6) : ∀ {ps : List Int} {ts : List Tel} {π : Store} {u6 u7 u8 u9 : Option D}, PoolAt np π → (∀ t ∈ ts, TelOk' n t) → ts.length + ps.length ≤ 1000 →
    ∃ ts' π' v6 v7 v8 v9, sLoop (gN 6) fbTel (ps.map D.int) (telE np most n ts hv odd u6 u7 u8 u9) π = .ok (.nx (telE np most n ts' hv odd v6 v7 v8 v9) π') ∧ ts'.length = ts.length + ps.length ∧ (∀ t ∈ ts', TelOk' n t) ∧ Fr np π π'
  | [], ts, π, u6, u7, u8, u9, hp, ht, _ => ⟨ts, π, u6, u7, u8, u9, rfl, by simp, ht, .refl hp⟩
  | p :: ps, ts, π, u6, u7, u8, u9, hp, ht, hl => by
    rw [List.length_cons] at hl
    obtain ⟨t, π1, w7, w8, w9, e1, q1, f1⟩ := tel_turn (most := most) (odd := odd) (p := p) (ts := ts) (u7 := u7) (u8 := u8) (u9 := u9) hp H h0 hn (by omega)
    obtain ⟨ts', π2, v6, v7, v8, v9, e2, r1, r2, f2⟩ := tel_loop (ps := ps) (ts := ts ++ [t]) (u6 := some (.int p)) (u7 := w7) (u8 := w8) (u9 := w9) H h0 hn f1.pool (fun x hx => by
      rcases List.mem_append.mp hx with hx | hx
      · exact ht x hx
      · rw [List.mem_singleton.mp hx]; exact q1) (by simp; omega)
    refine ⟨ts', π2, v6, v7, v8, v9, ?_, by rw [r1]; simp; omega, r2, f1.trans f2⟩
    rw [List.map_cons]
    unfold sLoop
    simp only [gN_ap, Res.bind_ok]
    have es : (telE np most n ts hv odd u6 u7 u8 u9).set 6 (some (.int p)) = telE np most n ts hv odd (some (.int p)) u7 u8 u9 := rfl
    rw [es, e1]
    simp only [Res.bind_ok]
    exact e2
theorem fs_hall_eq : fs__law_hall = (sSeq (sPar 2 3 (aCons (eOp dAdd (eC (.int 2)) (eCall g__law_draw (aCons (eV 0) (aCons (eOp dSub (eV 1) (eC (.int 1))) aNil)))) (aCons (eFn fTup aNil) aNil)))
    (sSeq (sSet 4 (eLc (iR rng1 (aCons (eV 2) aNil)) [10] (gN 10) tYesD (eOp dAdd (eC (.int 1)) (eCall g__law_draw (aCons (eV 0) (aCons (eC (.int 4)) aNil))))))
    (sSeq (sSet 5 (eOp dEq (eCall g__law_draw (aCons (eV 0) (aCons (eC (.int 2)) aNil))) (eC (.int 0))))
    (sSeq (sFor (iR rng1 (aCons (eCall g__law_pick (aCons (eV 0) (aCons (eFn fLst (aCons (eC (.int 1)) (aCons (eC (.int 2)) (aCons (eC (.int 2)) (aCons (eC (.int 3)) aNil))))) aNil))) aNil)) (gN 6) fbTel)
    (sRet (eFn fTup (aCons (eV 2) (aCons (eV 3) aNil)))))))) := rfl
theorem rng1_i (h : n ≤ 1000000) (h0 : 0 ≤ n) : rng1 [.int n] = .ok ((rg n).map D.int) := by
  show (if n ≤ 1000000 ∧ -1000000 ≤ n then Res.ok (rangeD 0 n) else .fail) = _
  rw [if_pos ⟨by omega, by omega⟩, rangeD_rg]
theorem s_hall (hp : PoolAt np π) (hm : 2 ≤ most) (hm6 : most ≤ 6) : ∃ h π', g__law_hall [.ptr np, .int most] π = .ok (dHL h, π') ∧ HlOk' h ∧ h.n ≤ most ∧ Fr np π π' := by
  obtain ⟨k, π1, e1, k0, k1, f1⟩ := s_draw' (many := most - 1) hp (by omega) (by omega)
  have hn2 : 2 ≤ 2 + k := by omega
  have hn6 : 2 + k ≤ 6 := by omega
  obtain ⟨hv, π2, e2, l2, w2, f2⟩ := eLc_st (ρ := [some (.ptr np), some (.int most), some (.int (2 + k)), some (.tup []), none, none, none, none, none, none, none, none]) (π := π1) (it := iR rng1 (aCons (eV 2) aNil)) (vs := [10]) (i := 10) (e := eOp dAdd (eC (.int 1)) (eCall g__law_draw (aCons (eV 0) (aCons (eC (.int 4)) aNil)))) (xs := rg (2 + k)) (enc := D.int) (g := D.int) (Q := IsW) (I := fun π2 => Fl_ np π1 π2)
    (by simp [rng1_i (show 2 + k ≤ 1000000 by omega) (by omega)]) (by rw [rg_len]; omega) (.refl f1.fr.pool) fun c hc π2 I2 => by
      obtain ⟨j, π3, e3, j0, j1, f3⟩ := s_draw' (many := 4) I2.fr.pool (by decide) (by decide)
      exact ⟨1 + j, π3, by simp [wipeE, e3], ⟨by omega, by omega⟩, I2.trans f3⟩
  have H : HvOk (2 + k) hv := ⟨by rw [l2, rg_len]; omega, w2⟩
  obtain ⟨j, π3, e3, j0, j1, f3⟩ := s_draw' (many := 2) f2.fr.pool (by decide) (by decide)
  obtain ⟨d, π4, e4, d4, f4, l4⟩ := s_pick (np := np) (π := π3) (ds := [.int 1, .int 2, .int 2, .int 3]) f3.fr.pool (by simp) (by simp)
  obtain ⟨np', hnp', n1, n3⟩ : ∃ q : Int, d = .int q ∧ 1 ≤ q ∧ q ≤ 3 := by
    simp only [List.mem_cons, List.not_mem_nil, or_false] at d4
    rcases d4 with rfl | rfl | rfl | rfl
    · exact ⟨1, rfl, by decide, by decide⟩
    · exact ⟨2, rfl, by decide, by decide⟩
    · exact ⟨2, rfl, by decide, by decide⟩
    · exact ⟨3, rfl, by decide, by decide⟩
  subst hnp'
  obtain ⟨ts, π5, v6, v7, v8, v9, e5, l5, t5, f5⟩ := tel_loop (np := np) (most := most) (odd := decide (j = 0)) H (by omega) hn6 (ps := rg np') (ts := []) (π := π4) (u6 := none) (u7 := none) (u8 := none) (u9 := none) f4.pool (fun _ h => (nomatch h)) (by rw [rg_len]; simp; omega)
  have e5' : sLoop (gN 6) fbTel ((rg np').map D.int) [some (.ptr np), some (.int most), some (.int (2 + k)), some (.tup []), some (.lst (hv.map D.int)), some (.bl (decide (j = 0))), none, none, none, none, none, none] π4 = .ok (.nx (telE np most (2 + k) ts hv (decide (j = 0)) v6 v7 v8 v9) π5) := e5
  rw [rg_len] at l5
  simp at l5
  refine ⟨⟨2 + k, ts⟩, π5, ?_, ⟨⟨hn2, hn6, by show 1 ≤ ts.length; omega, by show ts.length ≤ 3; omega, fun t ht => (t5 t ht).toTelOk⟩, t5⟩, by show 2 + k ≤ most; omega, (((f1.fr.trans f2.fr).trans f3.fr).trans f4).trans f5⟩
  have er := rng1_i (n := np') (by omega) (by omega)
  simp only [g__law_hall, gRun, sRun, ini, fs_hall_eq, List.length_cons, List.length_nil, if_true, List.map_cons, List.map_nil, List.replicate, Nat.reduceSub, Nat.reduceAdd, List.cons_append, List.nil_append]
  simp [e1, e2, e3, e4, er, e5', telE, dHL]
end
end Ph
end
section
set_option Elab.async false
set_option linter.all false
set_option maxRecDepth 100000
set_option exponentiation.threshold 200000
/-! Plain law, part m: the piece of a case among those that can be. -/
namespace Ph
open PySem PySem.Spec PyProof.Rows L2
/-- y hangs to the case c by ties among those that can be -/
inductive Conn (h : Hl) (can : Lot) (c : Int) : Int → Prop where
  | refl : Conn h can c c
  | step {x y p : Int} : Conn h can c x → IsP h p → y ∈ seesBy h can p x → Conn h can c y
def fresh (h : Hl) (can : Lot) (here : Int) (L : List Int) (p : Int) : List Int := (seesBy h can p here).filter fun y => !decide (y ∈ L)
def stepP (h : Hl) (can : Lot) (here : Int) (L : List Int) (p : Int) : List Int := L ++ fresh h can here L p
def stepAll (h : Hl) (can : Lot) (here : Int) (L : List Int) : List Int := (rg h.ts.length).foldl (stepP h can here) L
def bfs (h : Hl) (can : Lot) : Nat → List Int → Nat → List Int
  | 0, L, _ => L
  | f + 1, L, i => match L[i]? with
    | none => L
    | some here => bfs h can f (stepAll h can here L) (i + 1)
/-- the piece, as the program finds it -/
def found (h : Hl) (can : Lot) (c : Int) : List Int := bfs h can 7 [c] 0
def piece (h : Hl) (can : Lot) (c : Int) : Lot := sortI (found h can c)
structure LI (h : Hl) (can : Lot) (c : Int) (L : List Int) : Prop where
  nd : L.Nodup
  rng : ∀ x ∈ L, IsC' h x
  con : ∀ x ∈ L, Conn h can c x
section
variable {h : Hl} {can : Lot} {c here p x : Int} {L L' : List Int} {i f : Nat} {π : Store}
theorem nd_len (hn : h.n ≤ 6) (n1 : L.Nodup) (n2 : ∀ x ∈ L, IsC' h x) : L.length ≤ 6 := by
  have pm : (sortI L).Perm L := sortI_perm _
  have nd : (sortI L).Nodup := pm.nodup_iff.mpr n1
  have hs : (sortI L).Pairwise (· ≤ ·) := sortI_sorted _
  have h1 := asc_len (l := sortI L) (a := 0) (b := h.n) ((hs.and nd).imp fun ⟨h1, h2⟩ => by omega) fun x hx => n2 x (pm.mem_iff.mp hx)
  rw [pm.length_eq] at h1
  omega
theorem LI.stepP (H : HlOk h) (hl : LI h can c L) (hh : here ∈ L) (hp : IsP h p) : LI h can c (stepP h can here L p) := by
  have hr := sees_ok (can := can) H hp (hl.rng here hh)
  refine ⟨?_, fun x hx => ?_, fun x hx => ?_⟩
  · refine List.nodup_append.mpr ⟨hl.nd, (hr.asc.imp fun h => by omega : (seesBy h can p here).Nodup).filter _, fun a ha b hb e => ?_⟩
    subst e
    have := (List.mem_filter.mp hb).2
    simp [ha] at this
  · rcases List.mem_append.mp hx with hx | hx
    · exact hl.rng x hx
    · exact hr.rng x (List.mem_filter.mp hx).1
  · rcases List.mem_append.mp hx with hx | hx
    · exact hl.con x hx
    · exact .step (hl.con here hh) hp (List.mem_filter.mp hx).1
theorem stepP_sub : ∀ x ∈ L, x ∈ stepP h can here L p := fun x hx => List.mem_append.mpr (.inl hx)
theorem LI.fold (H : HlOk h) : ∀ {ps : List Int} {L : List Int}, LI h can c L → here ∈ L → (∀ p ∈ ps, IsP h p) → LI h can c (ps.foldl (Ph.stepP h can here) L) ∧ L <+: ps.foldl (Ph.stepP h can here) L ∧ ∀ p ∈ ps, ∀ y ∈ seesBy h can p here, y ∈ ps.foldl (Ph.stepP h can here) L
  | [], L, hl, _, _ => ⟨hl, List.prefix_refl _, fun _ h => (nomatch h)⟩
  | p :: ps, L, hl, hh, hp => by
    have h1 := hl.stepP H hh (hp p List.mem_cons_self)
    obtain ⟨a, b, d⟩ := LI.fold H (ps := ps) h1 (stepP_sub _ hh) fun q hq => hp q (List.mem_cons_of_mem _ hq)
    refine ⟨a, (List.prefix_append _ _).trans b, fun q hq y hy => ?_⟩
    rcases List.mem_cons.mp hq with rfl | hq
    · refine b.subset ?_
      by_cases hy' : y ∈ L
      · exact stepP_sub y hy'
      · exact List.mem_append.mpr (.inr (List.mem_filter.mpr ⟨hy, by simp [hy']⟩))
    · exact d q hq y hy
theorem isP_rg : p ∈ rg h.ts.length ↔ IsP h p := mem_rg
theorem LI.all (H : HlOk h) (hl : LI h can c L) (hh : here ∈ L) : LI h can c (stepAll h can here L) ∧ L <+: stepAll h can here L ∧ ∀ p, IsP h p → ∀ y ∈ seesBy h can p here, y ∈ stepAll h can here L := by
  obtain ⟨a, b, d⟩ := LI.fold H (ps := rg h.ts.length) hl hh fun p hp => isP_rg.mp hp
  exact ⟨a, b, fun p hp => d p (isP_rg.mpr hp)⟩
theorem bfs_spec (H : HlOk h) : ∀ {f : Nat} {L : List Int} {i : Nat}, LI h can c L → i ≤ L.length → 6 < f + i → (∀ j x, j < i → L[j]? = some x → ∀ p, IsP h p → ∀ y ∈ seesBy h can p x, y ∈ L) →
    LI h can c (bfs h can f L i) ∧ L <+: bfs h can f L i ∧ ∀ x ∈ bfs h can f L i, ∀ p, IsP h p → ∀ y ∈ seesBy h can p x, y ∈ bfs h can f L i
  | 0, L, i, hl, hi, hf, hc => by
    have := nd_len H.n6 hl.nd hl.rng
    omega
  | f + 1, L, i, hl, hi, hf, hc => by
    unfold bfs
    cases e : L[i]? with
    | none =>
      have hge : L.length ≤ i := List.getElem?_eq_none_iff.mp e
      refine ⟨hl, List.prefix_refl _, fun x hx p hp y hy => ?_⟩
      have hx' : x ∈ L := hx
      obtain ⟨j, hj, ej⟩ := List.getElem_of_mem hx'
      exact hc j x (by omega) (by rw [List.getElem?_eq_getElem hj, ej]) p hp y hy
    | some here =>
      obtain ⟨hlt, eh⟩ := List.getElem?_eq_some_iff.mp e
      have hh : here ∈ L := List.mem_of_getElem? e
      obtain ⟨a, b, d⟩ := hl.all H hh
      have hle : i + 1 ≤ (stepAll h can here L).length := Nat.le_trans (by omega) b.length_le
      obtain ⟨a2, b2, d2⟩ := bfs_spec H (f := f) (L := stepAll h can here L) (i := i + 1) a hle (by omega) fun j x hj ex p hp y hy => by
        have hjl : j < L.length := by omega
        have ex' : L[j]? = some x := by
          obtain ⟨t, ht⟩ := b
          rw [← ht, List.getElem?_append_left hjl] at ex
          exact ex
        by_cases hji : j = i
        · subst hji
          rw [e] at ex'
          cases ex'
          exact d p hp y hy
        · exact b.subset (hc j x (by omega) ex' p hp y hy)
      exact ⟨a2, b.trans b2, d2⟩
theorem found_spec (H : HlOk h) (hc : IsC' h c) : LI h can c (found h can c) ∧ c ∈ found h can c ∧ ∀ x ∈ found h can c, ∀ p, IsP h p → ∀ y ∈ seesBy h can p x, y ∈ found h can c := by
  have h0 : LI h can c [c] := ⟨by simp, fun x hx => by rw [List.mem_singleton.mp hx]; exact hc, fun x hx => by rw [List.mem_singleton.mp hx]; exact .refl⟩
  obtain ⟨a, b, d⟩ := bfs_spec H (f := 7) (i := 0) h0 (Nat.zero_le _) (by omega) fun j _ hj => absurd hj (Nat.not_lt_zero _)
  exact ⟨a, b.subset List.mem_cons_self, d⟩
theorem mem_found (H : HlOk h) (hc : IsC' h c) : x ∈ found h can c ↔ Conn h can c x := by
  obtain ⟨a, b, d⟩ := found_spec (can := can) H hc
  refine ⟨a.con x, fun z => ?_⟩
  induction z with
  | refl => exact b
  | step z hp hy ih => exact d _ ih _ hp _ hy
theorem piece_ok (H : HlOk h) (hc : IsC' h c) : LotOk h.n (piece h can c) ∧ ∀ x, x ∈ piece h can c ↔ Conn h can c x := by
  obtain ⟨a, _, _⟩ := found_spec (can := can) H hc
  have pm : (piece h can c).Perm (found h can c) := sortI_perm _
  have nd : (piece h can c).Nodup := pm.nodup_iff.mpr a.nd
  refine ⟨⟨fun x hx => a.rng x (pm.mem_iff.mp hx), ?_⟩, fun x => by rw [pm.mem_iff]; exact mem_found H hc⟩
  have hs : (piece h can c).Pairwise (· ≤ ·) := sortI_sorted _
  exact (hs.and nd).imp fun ⟨h1, h2⟩ => by omega
/-! ### the program -/
/-- the two cells of the search -/
abbrev cellsL (L : List Int) : Store := [.dct (L.map Sum.inl), .lst (L.map D.int)]
@[simp] theorem get2_0 {a b : Cell} : (π ++ [a, b])[π.length]? = some a := by simp
@[simp] theorem get2_1 {a b : Cell} : (π ++ [a, b])[π.length + 1]? = some b := by simp
@[simp] theorem set2_0 {a b x : Cell} : (π ++ [a, b]).set π.length x = π ++ [x, b] := by
  rw [List.set_append_right _ _ (Nat.le_refl _), Nat.sub_self]
  rfl
@[simp] theorem set2_1 {a b x : Cell} : (π ++ [a, b]).set (π.length + 1) x = π ++ [a, x] := by
  rw [List.set_append_right _ _ (by omega), show π.length + 1 - π.length = 1 by omega]
  rfl
theorem hasKey_i : hasKey (L.map Sum.inl) (.inl x) = decide (x ∈ L) := by
  unfold hasKey
  induction L with
  | nil => simp
  | cons y L ih =>
    rw [List.map_cons, List.any_cons, ih, Bool.eq_iff_iff, Bool.or_eq_true, decide_eq_true_eq, decide_eq_true_eq, decide_eq_true_eq, List.mem_cons]
    constructor
    · rintro (e | e)
      · exact .inl (by cases e; rfl)
      · exact .inr e
    · rintro (e | e)
      · exact .inl (by rw [e])
      · exact .inr e
theorem keysD_i : ∀ {L : List Int}, keysD (L.map D.int) = some (L.map Sum.inl)
  | [] => rfl
  | x :: L => by simp [keysD, keyD, keysD_i]
theorem mergeKs_i : ∀ {M L : List Int}, M.Nodup → (∀ x ∈ M, x ∉ L) → mergeKs (L.map Sum.inl) (M.map Sum.inl) = (L ++ M).map Sum.inl
  | [], L, _, _ => by simp [mergeKs]
  | x :: M, L, hn, hd => by
    obtain ⟨h1, h2⟩ := List.nodup_cons.mp hn
    have hx := hd x List.mem_cons_self
    have e : putKs (L.map Sum.inl) (.inl x) = (L ++ [x]).map Sum.inl := by
      unfold putKs
      rw [hasKey_i, decide_eq_false hx]
      simp
    have ih := mergeKs_i (M := M) (L := L ++ [x]) h2 fun y hy => by
      intro z
      rcases List.mem_append.mp z with z | z
      · exact hd y (List.mem_cons_of_mem _ hy) z
      · rw [List.mem_singleton.mp z] at hy
        exact h1 hy
    unfold mergeKs at ih ⊢
    rw [List.map_cons, List.foldl_cons, e, ih, List.append_assoc]
    rfl
theorem keysI_i : ∀ {L : List Int}, keysI (L.map Sum.inl) = some L
  | [] => rfl
  | x :: L => by simp [keysI, keysI_i]
theorem s_persons_of (H : HlOk h) : g_persons_of [dH h] π = .ok (dL (rg h.ts.length), π) := by
  have h3 := H.t3
  have e1 : fLen [dTs h.ts] = .ok (.int h.ts.length) := by simp [dTs]
  have e := eLc_all (ρ := [some (dH h), none]) (π := π) (it := iR rng1 (aCons (eFn fLen (aCons (eUnS (dFld 0 1) (eV 0)) aNil)) aNil)) (vs := [1]) (i := 1) (e := eV 1) (xs := rg h.ts.length) (enc := D.int) (f := D.int) (by simp [e1, rng1_i (n := h.ts.length) (by omega) (by omega)]) (by rw [rg_len]; omega) fun c hc => by simp [wipeE]
  simp [g_persons_of, gRun, sRun, ini, fs_persons_of, List.replicate, e, fTuple_l]
  rfl
abbrev pcE (h : Hl) (can : Lot) (c : Int) (R : Nat) (i : Int) (u6 u7 u8 : Option D) : En := [some (dH h), some (dL can), some (.int c), some (.ptr R), some (.ptr (R + 1)), some (.int i), u6, u7, u8, none]
noncomputable def fbPc : SS := (sSeq (sSet 8 (eLc (iS (eCall g_sees_by (aCons (eV 0) (aCons (eV 1) (aCons (eV 7) (aCons (eV 6) aNil)))))) [9] (gN 9) (tDin true (eV 9) (eV 3)) (eV 9)))
    (sSeq (sExpr (eExt (eV 4) (eV 8)))
    (sExpr (eUpdDc 9 (eV 3) (iS (eV 8))))))
theorem pc_turn (H : HlOk h) (hl : LI h can c L) (hh : here ∈ L) (hp : IsP h p) {i : Int} {u8 : Option D} :
    fbPc (pcE h can c π.length i (some (.int here)) (some (.int p)) u8) (π ++ cellsL L) = .ok (.nx (pcE h can c π.length i (some (.int here)) (some (.int p)) (some (.lst ((fresh h can here L p).map D.int)))) (π ++ cellsL (stepP h can here L p))) := by
  have hr := sees_ok (can := can) H hp (hl.rng here hh)
  have l6 := hr.len H.n6
  have L6 := nd_len H.n6 hl.nd hl.rng
  have hsee := s_sees_by (can := can) (π := π ++ cellsL L) H hp (hl.rng here hh)
  have e := eLc_pure (ρ := pcE h can c π.length i (some (.int here)) (some (.int p)) u8) (π := π ++ cellsL L) (it := iS (eCall g_sees_by (aCons (eV 0) (aCons (eV 1) (aCons (eV 7) (aCons (eV 6) aNil)))))) (vs := [9]) (i := 9) (t := tDin true (eV 9) (eV 3)) (e := eV 9) (xs := seesBy h can p here) (enc := D.int) (f := D.int) (keep := fun y => !decide (y ∈ L))
    (by simp [hsee]) (by omega) fun y hy => by
      refine ⟨?_, fun _ => by simp [wipeE]⟩
      simp [tDin, wipeE, dctC, getD_, keyD, hasKey_i]
  have hfl : (fresh h can here L p).length ≤ 6 := Nat.le_trans (List.length_filter_le _ _) l6
  have hb1 : L.length + (fresh h can here L p).length ≤ 100000 := by omega
  have hm := mergeKs_i (M := fresh h can here L p) (L := L) ((hr.asc.imp fun h => by omega : (seesBy h can p here).Nodup).filter _) fun x hx z => by
    have := (List.mem_filter.mp hx).2
    simp [z] at this
  have e' : eLc (iS (eCall g_sees_by (aCons (eV 0) (aCons (eV 1) (aCons (eV 7) (aCons (eV 6) aNil)))))) [9] (gN 9) (tDin true (eV 9) (eV 3)) (eV 9) (pcE h can c π.length i (some (.int here)) (some (.int p)) u8) (π ++ cellsL L) = .ok (.lst ((fresh h can here L p).map D.int), π ++ cellsL L) := e
  unfold fbPc
  simp only [sSeq_ap, sSet_ap, e', Res.bind_ok]
  simp [eExt, eUpdDc, lstC, getL, dctC, getD_, keysD_i, hb1, hm, stepP]
theorem pc_loop (H : HlOk h) : ∀ {ps : List Int} {L : List Int} {i : Int} {u7 u8 : Option D}, LI h can c L → here ∈ L → (∀ p ∈ ps, IsP h p) →
    ∃ v7 v8, sLoop (gN 7) fbPc (ps.map D.int) (pcE h can c π.length i (some (.int here)) u7 u8) (π ++ cellsL L) = .ok (.nx (pcE h can c π.length i (some (.int here)) v7 v8) (π ++ cellsL (ps.foldl (stepP h can here) L)))
  | [], L, i, u7, u8, _, _, _ => ⟨u7, u8, rfl⟩
  | p :: ps, L, i, u7, u8, hl, hh, hp => by
    have e1 := pc_turn (π := π) H hl hh (hp p List.mem_cons_self) (i := i) (u8 := u8)
    obtain ⟨v7, v8, e2⟩ := pc_loop H (ps := ps) (L := stepP h can here L p) (i := i) (u7 := some (.int p)) (u8 := some (.lst ((fresh h can here L p).map D.int))) (hl.stepP H hh (hp p List.mem_cons_self)) (stepP_sub _ hh) fun q hq => hp q (List.mem_cons_of_mem _ hq)
    refine ⟨v7, v8, ?_⟩
    rw [List.map_cons]
    unfold sLoop
    simp only [gN_ap, Res.bind_ok]
    have es : (pcE h can c π.length i (some (.int here)) u7 u8).set 7 (some (.int p)) = pcE h can c π.length i (some (.int here)) (some (.int p)) u8 := rfl
    rw [es, e1]
    exact e2
noncomputable def fbWh : SS := (sSeq (sPar 6 5 (aCons (eOpL dIx (eV 4) (eV 5)) (aCons (eOp dAdd (eV 5) (eC (.int 1))) aNil))) (sFor (iS (eCall g_persons_of (aCons (eV 0) aNil))) (gN 7) fbPc))
theorem bfs_end (H : HlOk h) : ∀ {f : Nat} {L : List Int} {i : Nat} {u6 u7 u8 : Option D}, LI h can c L → i ≤ L.length → 6 < f + i →
    ∃ i' v6 v7 v8, sWh (tB (eOp dLt (eV 5) (eFnL fLen (aCons (eV 4) aNil)))) fbWh (f + 1) (pcE h can c π.length i u6 u7 u8) (π ++ cellsL L) = .ok (.nx (pcE h can c π.length i' v6 v7 v8) (π ++ cellsL (bfs h can f L i)))
  | 0, L, i, u6, u7, u8, hl, hi, hf => by
    have := nd_len H.n6 hl.nd hl.rng
    omega
  | f + 1, L, i, u6, u7, u8, hl, hi, hf => by
    have at1 : (π ++ cellsL L)[π.length + 1]? = some (.lst (L.map D.int)) := by simp
    have at1' : ld (π ++ cellsL L) (.ptr (π.length + 1)) = .lst (L.map D.int) := ld_ptr at1
    have et : (tB (eOp dLt (eV 5) (eFnL fLen (aCons (eV 4) aNil)))) (pcE h can c π.length i u6 u7 u8) (π ++ cellsL L) = .ok (decide (i < L.length), π ++ cellsL L) := by
      simp [eFnL_ap, at1']
    unfold bfs
    rw [sWh, et]
    simp only [Res.bind_ok]
    cases e : L[i]? with
    | none =>
      have hge : L.length ≤ i := List.getElem?_eq_none_iff.mp e
      have : ¬ (i < L.length) := by omega
      refine ⟨i, u6, u7, u8, ?_⟩
      rw [decide_eq_false this]
      simp
    | some here =>
      obtain ⟨hlt, eh⟩ := List.getElem?_eq_some_iff.mp e
      have hh : here ∈ L := List.mem_of_getElem? e
      obtain ⟨a, b, d⟩ := hl.all H hh
      have hle : i + 1 ≤ (stepAll h can here L).length := Nat.le_trans (by omega) b.length_le
      obtain ⟨v7, v8, e2⟩ := pc_loop (π := π) H (ps := rg h.ts.length) (L := L) (i := (i : Int) + 1) (u7 := u7) (u8 := u8) hl hh fun p hp => isP_rg.mp hp
      obtain ⟨i', w6, w7, w8, e3⟩ := bfs_end H (f := f) (L := stepAll h can here L) (i := i + 1) (u6 := some (.int here)) (u7 := v7) (u8 := v8) a hle (by omega)
      refine ⟨i', w6, w7, w8, ?_⟩
      have ei : dIx (.lst (L.map D.int)) (.int i) = some (.int here) := by
        show atI (L.map D.int) i = _
        rw [atI_nat' (by omega) (by rw [List.length_map]; omega), List.getElem?_map, Int.toNat_natCast, e]
        rfl
      have eb : fbWh (pcE h can c π.length i u6 u7 u8) (π ++ cellsL L) = .ok (.nx (pcE h can c π.length ((i : Int) + 1) (some (.int here)) v7 v8) (π ++ cellsL (stepAll h can here L))) := by
        have e2' : sLoop (gN 7) fbPc ((rg h.ts.length).map D.int) [some (dH h), some (dL can), some (.int c), some (.ptr π.length), some (.ptr (π.length + 1)), some (.int ((i : Int) + 1)), some (.int here), u7, u8, none] (π ++ cellsL L) = .ok (.nx (pcE h can c π.length ((i : Int) + 1) (some (.int here)) v7 v8) (π ++ cellsL (stepAll h can here L))) := e2
        unfold fbWh
        simp only [sSeq_ap, sPar_ap, aCons_ap, aNil_ap, eOpL_ap, eOp_ap, eV_ap, eC_ap, gt_s, gt_0, Res.bind_ok, at1', ld_int, ei, Res.of_some, frz_int, if_true, dAdd_i, List.set_cons_succ, List.set_cons_zero, sFor_ap, iS_ap, eCall_ap, s_persons_of H, seq?_L]
        exact e2'
      rw [decide_eq_true hlt]
      simp only [if_true, eb, Res.bind_ok]
      have e4 : ((i + 1 : Nat) : Int) = (i : Int) + 1 := by omega
      rw [e4] at e3
      exact e3
theorem s_piece_in (H : HlOk h) (hc : IsC' h c) : g_piece_in [dH h, dL can, .int c] π = .ok (dL (piece h can c), π ++ cellsL (found h can c)) := by
  have h0 : LI h can c [c] := ⟨by simp, fun x hx => by rw [List.mem_singleton.mp hx]; exact hc, fun x hx => by rw [List.mem_singleton.mp hx]; exact .refl⟩
  obtain ⟨i', v6, v7, v8, e⟩ := bfs_end (π := π) H (f := 7) (i := 0) (u6 := none) (u7 := none) (u8 := none) h0 (Nat.zero_le _) (by omega)
  have e := sWhile_of e
  have hfs : fs_piece_in = (sSeq (sAsg (gT3 3 4 5) (eFn fTup (aCons (eDisp1 2) (aCons (eNewL (aCons (eV 2) aNil)) (aCons (eC (.int 0)) aNil))))) (sSeq (sWhile (tB (eOp dLt (eV 5) (eFnL fLen (aCons (eV 4) aNil)))) fbWh) (sRet (eFn fTuple (aCons (eSortD (eV 3)) aNil))))) := rfl
  have L6 := nd_len H.n6 (found_spec (can := can) H hc).1.nd (found_spec (can := can) H hc).1.rng
  have ec : found h can c = bfs h can 7 [c] 0 := rfl
  rw [← ec] at e
  have e' : sWhile (tB (eOp dLt (eV 5) (eFnL fLen (aCons (eV 4) aNil)))) fbWh [some (dH h), some (dL can), some (.int c), some (.ptr π.length), some (.ptr (π.length + 1)), some (.int 0), none, none, none, none] (π ++ [.dct [Sum.inl c], .lst [.int c]]) = .ok (.nx (pcE h can c π.length i' v6 v7 v8) (π ++ cellsL (found h can c))) := e
  have hlt : (found h can c).length < 64 := by omega
  simp only [g_piece_in, gRun, sRun, ini, hfs, List.length_cons, List.length_nil, if_true, List.map_cons, List.map_nil, List.replicate, Nat.reduceSub, Nat.reduceAdd, List.cons_append, List.nil_append]
  simp [eDisp1, eNewL_ap, keyD, gT3, e', eSortD, dctC, getD_, keysI_i, hlt, fTuple_l]
  rfl
end
end Ph
end
section
set_option Elab.async false
set_option linter.all false
set_option maxRecDepth 100000
set_option exponentiation.threshold 200000
/-! Plain law, part n: how a meeting begins; a drawn lot; a drawn deed. -/
namespace Ph
open PySem PySem.Spec PyProof.Rows L2
inductive Deed where
  | say (p : Int) (l : Lot)
  | tell (l : Lot)
def dD : Deed → D
  | .say p l => .tup [.str "say", .int p, dL l]
  | .tell l => .tup [.str "tell", dL l]
def DeedOk (h : Hl) : Deed → Prop
  | .say p l => IsP h p ∧ LotOk h.n l
  | .tell l => LotOk h.n l
section
variable {h : Hl} {can l : Lot} {c p x : Int} {np : Nat} {π : Store}
theorem fTupleRg_i {n : Int} (h0 : 0 ≤ n) (hn : n ≤ 1000) : fTupleRg [.int n] = .ok (dL (rg n)) := by
  show (if n ≤ 100000 ∧ -100000 ≤ n then Res.ok (D.tup (rangeD 0 n)) else .fail) = _
  rw [if_pos ⟨by omega, by omega⟩, rangeD_rg]
  rfl
theorem hl_0 : dIx (dHL h) (.int 0) = some (.int h.n) := rfl
theorem hl_1 : dIx (dHL h) (.int 1) = some (dTs h.ts) := rfl
theorem s_begun (hp : PoolAt np π) : ∃ h c π', g__law_begun [.ptr np] π = .ok (.tup [dHL h, .int c, dL (rg h.n)], π') ∧ HlOk' h ∧ IsC' h c ∧ Fr np π π' := by
  obtain ⟨h, π1, e1, H, hm, f1⟩ := s_hall (most := 5) hp (by decide) (by decide)
  have h2 := H.n2
  have h6 := H.n6
  obtain ⟨k, π2, e2, k0, k1, f2⟩ := s_draw' (many := h.n) f1.pool (by omega) (by omega)
  refine ⟨h, k, π2, ?_, H, ⟨k0, k1⟩, f1.trans f2.fr⟩
  simp [g__law_begun, gRun, sRun, ini, fs__law_begun, List.replicate, e1, hl_0, e2, fTupleRg_i (n := h.n) (by omega) (by omega)]
theorem s_lot (hp : PoolAt np π) (H : HlOk h) : ∃ l π', g__law_lot [.ptr np, dHL h] π = .ok (dL l, π') ∧ LotOk h.n l ∧ Fl_ np π π' := by
  have h2 := H.n2
  have h6 := H.n6
  obtain ⟨zs, π', e, hs, f⟩ := eLc_stt (ρ := [some (.ptr np), some (dHL h), none]) (π := π) (it := iR rng1 (aCons (eOp dIx (eV 1) (eC (.int 0))) aNil)) (vs := [2]) (i := 2) (t := tB (eOp dEq (eCall g__law_draw (aCons (eV 0) (aCons (eC (.int 2)) aNil))) (eC (.int 0)))) (e := eV 2) (xs := rg h.n) (enc := D.int) (f := D.int) (I := fun π1 => Fl_ np π π1)
    (by simp [hl_0, rng1_i (show h.n ≤ 1000000 by omega) (by omega)]) (by rw [rg_len]; omega) (.refl hp) fun c hc π1 I1 => by
      obtain ⟨j, π3, e3, j0, j1, f3⟩ := s_draw' (many := 2) I1.fr.pool (by decide) (by decide)
      exact ⟨decide (j = 0), π3, by simp [wipeE, e3], fun _ => by simp [wipeE], I1.trans f3⟩
  refine ⟨zs, π', ?_, ⟨fun c hc => mem_rg.mp (hs.subset hc), rg_asc.sublist hs⟩, f⟩
  simp [g__law_lot, gRun, sRun, ini, fs__law_lot, List.replicate, e, fTuple_l]
  rfl
theorem keysOf_1 : ∀ {l : List Int}, keysOf (l.map fun k => .tup [.int k, .int 1]) = some l
  | [] => rfl
  | x :: l => by simp [keysOf, keysOf_1 (l := l)]
theorem dedup_aux : ∀ {ns acc : List Int}, acc.Nodup → (ns.foldl putI acc).Nodup ∧ (∀ x, x ∈ ns.foldl putI acc ↔ x ∈ acc ∨ x ∈ ns) ∧ (ns.foldl putI acc).length ≤ acc.length + ns.length
  | [], acc, h => ⟨h, fun x => by simp, by simp⟩
  | y :: ns, acc, h => by
    rw [List.foldl_cons]
    by_cases hy : y ∈ acc
    · have e : putI acc y = acc := by
        unfold putI
        rw [if_pos (by simpa using hy)]
      rw [e]
      obtain ⟨a, b, d⟩ := dedup_aux (ns := ns) h
      refine ⟨a, fun x => ?_, by rw [List.length_cons]; omega⟩
      rw [b, List.mem_cons]
      constructor
      · rintro (q | q)
        · exact .inl q
        · exact .inr (.inr q)
      · rintro (q | rfl | q)
        · exact .inl q
        · exact .inl hy
        · exact .inr q
    · have e : putI acc y = acc ++ [y] := by
        unfold putI
        rw [if_neg (by simpa using hy)]
      rw [e]
      obtain ⟨a, b, d⟩ := dedup_aux (ns := ns) (acc := acc ++ [y]) (List.nodup_append.mpr ⟨h, by simp, fun u hu v hv => by
        rw [List.mem_singleton.mp hv]
        exact fun z => hy (z ▸ hu)⟩)
      refine ⟨a, fun x => ?_, by rw [List.length_append, List.length_singleton] at d; rw [List.length_cons]; omega⟩
      rw [b, List.mem_append, List.mem_singleton, List.mem_cons, or_assoc]
theorem sdk_lot {n : Int} (hl : LotOk n l) (hn : n ≤ 6) (hc : 0 ≤ c ∧ c < n) : ∃ m, fSdk [.lst ((l ++ [c]).map fun k => .tup [.int k, .int 1])] = .ok (.lst (m.map D.int)) ∧ LotOk n m := by
  obtain ⟨a, b, d⟩ := dedup_aux (ns := l ++ [c]) (acc := []) List.nodup_nil
  have l6 := hl.len hn
  have hlen : (dedupI (l ++ [c])).length < 64 := by
    have : (dedupI (l ++ [c])).length ≤ 0 + (l ++ [c]).length := d
    rw [List.length_append, List.length_singleton] at this
    omega
  refine ⟨sortI (dedupI (l ++ [c])), ?_, ?_, ?_⟩
  · show ((Res.of (keysOf ((l ++ [c]).map fun k => D.tup [.int k, .int 1]))).bind fun ns => if (dedupI ns).length < 64 then Res.ok (D.lst ((sortI (dedupI ns)).map D.int)) else .fail) = _
    rw [keysOf_1]
    simp only [Res.of_some, Res.bind_ok, hlen, if_true]
  · intro x hx
    have hx : x ∈ dedupI (l ++ [c]) := (sortI_perm _).mem_iff.mp hx
    rcases (b x).mp hx with q | q
    · cases q
    · rcases List.mem_append.mp q with q | q
      · exact hl.rng x q
      · rw [List.mem_singleton.mp q]; exact hc
  · have nd : (sortI (dedupI (l ++ [c]))).Nodup := (sortI_perm _).nodup_iff.mpr a
    have hs : (sortI (dedupI (l ++ [c]))).Pairwise (· ≤ ·) := sortI_sorted _
    exact (hs.and nd).imp fun ⟨h1, h2⟩ => by omega
theorem fLen_Ts : fLen [dTs h.ts] = .ok (.int h.ts.length) := by simp [dTs]
theorem s_deed (hp : PoolAt np π) (H : HlOk h) (hc : IsC' h c) : ∃ d π', g__law_deed [.ptr np, dHL h, .int c] π = .ok (dD d, π') ∧ DeedOk h d ∧ Fl_ np π π' := by
  have h6 := H.n6
  have t1 := H.t1
  have t3 := H.t3
  obtain ⟨l, π1, e1, hl, f1⟩ := s_lot hp H
  obtain ⟨k, π2, e2, k0, k1, f2⟩ := s_draw' (many := 3) f1.fr.pool (by decide) (by decide)
  by_cases hk : 0 < k
  · obtain ⟨p, π3, e3, p0, p1, f3⟩ := s_draw' (many := h.ts.length) f2.fr.pool (by omega) (by omega)
    refine ⟨.say p l, π3, ?_, ⟨⟨p0, p1⟩, hl⟩, (f1.trans f2).trans f3⟩
    simp [g__law_deed, gRun, sRun, ini, fs__law_deed, List.replicate, e1, e2, hk, hl_1, fLen_Ts, e3]
    rfl
  · obtain ⟨j, π3, e3, j0, j1, f3⟩ := s_draw' (many := 4) f2.fr.pool (by decide) (by decide)
    by_cases hj : j = 0
    · refine ⟨.tell l, π3, ?_, hl, (f1.trans f2).trans f3⟩
      simp [g__law_deed, gRun, sRun, ini, fs__law_deed, List.replicate, e1, e2, hk, e3, hj]
      rfl
    · obtain ⟨m, em, hm⟩ := sdk_lot hl h6 hc
      have l6 := hl.len h6
      have ea : dAdd (dL l) (.tup [.int c]) = some (dL (l ++ [c])) := by
        show dAdd (.tup (l.map D.int)) (.tup [.int c]) = _
        rw [dAdd_t (by simp; omega)]
        simp [dL]
      have e4 := eLc_all (ρ := [some (.ptr np), some (dHL h), some (.int c), some (dL l), none]) (π := π3) (it := iS (eOp dAdd (eV 3) (eFn fTup (aCons (eV 2) aNil)))) (vs := [4]) (i := 4) (e := eFn fTup (aCons (eV 4) (aCons (eC (.int 1)) aNil))) (xs := l ++ [c]) (enc := D.int) (f := fun k => .tup [.int k, .int 1])
        (by simp [ea]) (by simp; omega) fun k hk => by simp [wipeE]
      refine ⟨.tell m, π3, ?_, hm, (f1.trans f2).trans f3⟩
      simp only [List.map_append, List.map_cons, List.map_nil] at em e4
      simp [g__law_deed, gRun, sRun, ini, fs__law_deed, List.replicate, e1, e2, hk, e3, hj, e4, em, fTuple_l]
      rfl
end
end Ph
end
section
set_option Elab.async false
set_option linter.all false
set_option maxRecDepth 100000
set_option exponentiation.threshold 200000
/-! Plain law, part o: deeds looked at. -/
namespace Ph
open PySem PySem.Spec PyProof.Rows L2
section
variable {h : Hl} {can l : Lot} {c p x : Int} {np : Nat} {π : Store} {a b d : D}
theorem sz_say : t_SIZES "say" = some (.int 3) := rfl
theorem sz_tell : t_SIZES "tell" = some (.int 2) := rfl
theorem sz_Tell : t_SIZES "Tell" = none := rfl
@[simp] theorem say_say : dEq (.str "say") (.str "say") = some (.bl true) := rfl
@[simp] theorem tell_say : dEq (.str "tell") (.str "say") = some (.bl false) := rfl
theorem hf_say3 : g_has_form [.tup [.str "say", a, b]] π = .ok (.bl true, π) := by
  simp [g_has_form, gRun, sRun, ini, fs_has_form, List.replicate, g_is_string, fs_is_string, dInTab, dIxTab, sz_say]
theorem hf_tell2 : g_has_form [.tup [.str "tell", a]] π = .ok (.bl true, π) := by
  simp [g_has_form, gRun, sRun, ini, fs_has_form, List.replicate, g_is_string, fs_is_string, dInTab, dIxTab, sz_tell]
theorem hf_say2 : g_has_form [.tup [.str "say", a]] π = .ok (.bl false, π) := by
  simp [g_has_form, gRun, sRun, ini, fs_has_form, List.replicate, g_is_string, fs_is_string, dInTab, dIxTab, sz_say]
theorem hf_say4 : g_has_form [.tup [.str "say", a, b, d]] π = .ok (.bl false, π) := by
  simp [g_has_form, gRun, sRun, ini, fs_has_form, List.replicate, g_is_string, fs_is_string, dInTab, dIxTab, sz_say]
theorem hf_tell3 : g_has_form [.tup [.str "tell", a, b]] π = .ok (.bl false, π) := by
  simp [g_has_form, gRun, sRun, ini, fs_has_form, List.replicate, g_is_string, fs_is_string, dInTab, dIxTab, sz_tell]
theorem hf_tell1 : g_has_form [.tup [.str "tell"]] π = .ok (.bl false, π) := by
  simp [g_has_form, gRun, sRun, ini, fs_has_form, List.replicate, g_is_string, fs_is_string, dInTab, dIxTab, sz_tell]
theorem hf_Tell : g_has_form [.tup [.str "Tell", a]] π = .ok (.bl false, π) := by
  simp [g_has_form, gRun, sRun, ini, fs_has_form, List.replicate, g_is_string, fs_is_string, dInTab, dIxTab, sz_Tell]
theorem hf_5 : g_has_form [.tup [.int 5, a]] π = .ok (.bl false, π) := by
  simp [g_has_form, gRun, sRun, ini, fs_has_form, List.replicate, g_is_string, fs_is_string]
theorem hf_nil : g_has_form [.tup []] π = .ok (.bl false, π) := by
  simp [g_has_form, gRun, sRun, ini, fs_has_form, List.replicate]
theorem hf_non : g_has_form [.non] π = .ok (.bl false, π) := by
  simp [g_has_form, gRun, sRun, ini, fs_has_form, List.replicate]
theorem hf_str : g_has_form [.str "tell"] π = .ok (.bl false, π) := by
  simp [g_has_form, gRun, sRun, ini, fs_has_form, List.replicate]
theorem hf_lst {ds : List D} : g_has_form [.lst ds] π = .ok (.bl false, π) := by
  simp [g_has_form, gRun, sRun, ini, fs_has_form, List.replicate]
theorem s_is_person (hd : plainD d = true) : g_is_person [dH h, d] π = .ok (.bl (btw 0 (h.ts.length - 1) d), π) := by
  have e1 : dFld 0 1 (dH h) π = some (dTs h.ts) := rfl
  simp [g_is_person, gRun, sRun, ini, fs_is_person, List.replicate, fLen_Ts, s_is_between' hd, e1]
theorem s_is_case (hd : plainD d = true) : g_is_case [dH h, d] π = .ok (.bl (btw 0 (h.n - 1) d), π) := by
  have e1 : dFld 0 0 (dH h) π = some (.int h.n) := rfl
  simp [g_is_case, gRun, sRun, ini, fs_is_case, List.replicate, s_is_between' hd, e1]
theorem s_check_case (hc : IsC' h c) : g_check_case [dH h, .int c] π = .ok (.non, π) := by
  have : btw 0 (h.n - 1) (.int c) = true := decide_eq_true ⟨hc.1, by have := hc.2; omega⟩
  simp [g_check_case, gRun, sRun, ini, fs_check_case, List.replicate, s_is_case (h := h) (d := .int c) rfl, this]
theorem s_check_person (hp : IsP h p) : g_check_person [dH h, .int p] π = .ok (.non, π) := by
  have : btw 0 (h.ts.length - 1) (.int p) = true := decide_eq_true ⟨hp.1, by have := hp.2; omega⟩
  simp [g_check_person, gRun, sRun, ini, fs_check_person, List.replicate, s_is_person (h := h) (d := .int p) rfl, this]
theorem s_is_lot (e : g_is_lot_of [.int h.n, d] π = .ok (.bl x', π)) : g_is_lot [dH h, d] π = .ok (.bl x', π) := by
  have e1 : dFld 0 0 (dH h) π = some (.int h.n) := rfl
  simp [g_is_lot, gRun, sRun, ini, fs_is_lot, List.replicate, e, e1]
theorem s_check_lot (H : HlOk h) (hl : LotOk h.n l) : g_check_lot [dH h, dL l] π = .ok (.non, π) := by
  simp [g_check_lot, gRun, sRun, ini, fs_check_lot, List.replicate, s_is_lot (h := h) (s_is_lot_ok (π := π) hl H.n6)]
theorem ix_m1_3 : atI [a, b, d] (-1) = some d := rfl
theorem ix_m1_2 : atI [a, b] (-1) = some b := rfl
theorem s_check_deed {d : Deed} (H : HlOk h) (hd : DeedOk h d) : g_check_deed [dH h, dD d] π = .ok (.non, π) := by
  cases d with
  | say p l =>
    obtain ⟨hp, hl⟩ := hd
    have : btw 0 (h.ts.length - 1) (.int p) = true := decide_eq_true ⟨hp.1, by have := hp.2; omega⟩
    simp [dD, g_check_deed, gRun, sRun, ini, fs_check_deed, List.replicate, hf_say3, s_is_person (h := h) (d := .int p) rfl, this, ix_m1_3, s_is_lot (h := h) (s_is_lot_ok (π := π) hl H.n6)]
  | tell l =>
    simp [dD, g_check_deed, gRun, sRun, ini, fs_check_deed, List.replicate, hf_tell2, ix_m1_2, s_is_lot (h := h) (s_is_lot_ok (π := π) hd H.n6)]
end
end Ph
end
section
set_option Elab.async false
set_option linter.all false
set_option maxRecDepth 100000
set_option exponentiation.threshold 200000
/-! Plain law, part p: meetings. -/
namespace Ph
open PySem PySem.Spec PyProof.Rows L2
def behindDeed (h : Hl) (can : Lot) (c : Int) : Deed → Lot
  | .say p l => behindSaying h can c p l
  | .tell l => common can l
section
variable {h : Hl} {can l : Lot} {c p x : Int} {np km kp : Nat} {π : Store} {a b : D} {d : Deed} {ds : List Deed} {past : List D}
theorem s_check_hall : g_check_hall [dH h] π = .ok (.non, π) := by
  have e : dIsC 0 [1] (dH h) π = some (.bl true) := rfl
  simp [g_check_hall, gRun, sRun, ini, fs_check_hall, List.replicate, e]
theorem s_cases_of (H : HlOk h) : g_cases_of [dH h] π = .ok (dL (rg h.n), π) := by
  have h2 := H.n2
  have h6 := H.n6
  have e1 : dFld 0 0 (dH h) π = some (.int h.n) := rfl
  have e := eLc_all (ρ := [some (dH h), none]) (π := π) (it := iR rng1 (aCons (eUnS (dFld 0 0) (eV 0)) aNil)) (vs := [1]) (i := 1) (e := eV 1) (xs := rg h.n) (enc := D.int) (f := D.int) (by simp [e1, rng1_i (n := h.n) (by omega) (by omega)]) (by rw [rg_len]; omega) fun c hc => by simp [wipeE]
  simp [g_cases_of, gRun, sRun, ini, fs_cases_of, List.replicate, e, fTuple_l]
  rfl
abbrev mcell (h : Hl) (c : Int) (ds : List Deed) (can : Lot) (kp : Nat) : Cell := .ins 1 [dH h, .int c, .tup (ds.map dD), dL can, .ptr kp]
theorem s_meet_init (H : HlOk h) (hc : IsC' h c) : g_Meeting___init__ [.ptr π.length, dH h, .int c] (π ++ [.ins 1 []]) = .ok (.non, π ++ [mcell h c [] (rg h.n) (π.length + 1), .lst []]) := by
  have f1 := sFld_new (π := π) (ρ := [some (.ptr π.length), some (dH h), some (.int c)]) (c := 1) (i := 0) (o := eV 0) (e := eV 1) (l := []) (d := dH h) (by simp) (by simp) rfl
  have f2 := sFld_new (π := π) (ρ := [some (.ptr π.length), some (dH h), some (.int c)]) (c := 1) (i := 1) (o := eV 0) (e := eV 2) (l := [dH h]) (d := .int c) (by simp) (by simp) rfl
  have f3 := sFld_new (π := π) (ρ := [some (.ptr π.length), some (dH h), some (.int c)]) (c := 1) (i := 2) (o := eV 0) (e := eFn fTup aNil) (l := [dH h, .int c]) (d := .tup []) (by simp) (by simp) rfl
  have f4 := sFld_new (π := π) (ρ := [some (.ptr π.length), some (dH h), some (.int c)]) (c := 1) (i := 3) (o := eV 0) (e := eCall g_cases_of (aCons (eV 1) aNil)) (l := [dH h, .int c, .tup []]) (d := dL (rg h.n)) (by simp [s_cases_of H]) (by simp) rfl
  have f5 : sFldSet 1 4 (eV 0) (eNewL aNil) [some (.ptr π.length), some (dH h), some (.int c)] (π ++ [.ins 1 [dH h, .int c, .tup [], dL (rg h.n)]]) = .ok (.nx [some (.ptr π.length), some (dH h), some (.int c)] (π ++ [mcell h c [] (rg h.n) (π.length + 1), .lst []])) := by
    simp [sFldSet, eNewL_ap, insC, getI]
  simp only [List.nil_append, List.cons_append] at f1 f2 f3 f4
  simp [g_Meeting___init__, gRun, sRun, ini, fs_Meeting___init__, List.replicate, s_check_hall, s_check_case hc, f1, f2, f3, f4, f5]
/-! ### reasons, and what is behind a deed -/
/-- the first reason against a deed -/
def reasonOf (h : Hl) (can : Lot) (c : Int) : Deed → Str
  | .say _ _ => ""
  | .tell l => if c ∈ l then (if (found h can c).all (fun x => decide (x ∈ l)) = true then "known" else "") else "false"
theorem reason_tell : reasonOf h can c (.tell l) = if c ∈ l then (if (found h can c).all (fun x => decide (x ∈ l)) = true then ("known" : Str) else ("" : Str)) else ("false" : Str) := rfl
theorem known_ne : ("known" : Str) ≠ "" := by decide
theorem false_ne : ("false" : Str) ≠ "" := by decide
theorem common_self {l m : Lot} : common l m = l ↔ ∀ x ∈ l, x ∈ m := by
  unfold common
  rw [List.filter_eq_self]
  simp
theorem s_reason (H : HlOk h) (hc : IsC' h c) (hk : LotOk h.n can) (hd : DeedOk h d) : ∃ ex, g_reason_against [dH h, dL can, .int c, dD d] π = .ok (if reasonOf h can c d = "" then .non else .str (reasonOf h can c d), π ++ ex) := by
  cases d with
  | say p l =>
    refine ⟨[], ?_⟩
    simp [dD, g_reason_against, gRun, sRun, ini, fs_reason_against, List.replicate, reasonOf]
  | tell l =>
    by_cases hm : c ∈ l
    · have hp := piece_ok (can := can) H hc
      have e1 := s_piece_in (π := π) (can := can) H hc
      have e2 := s_common_of (l := piece h can c) (m := l) (π := π ++ cellsL (found h can c)) (hp.1.len H.n6)
      have he : common (piece h can c) l = piece h can c ↔ (found h can c).all (fun x => decide (x ∈ l)) = true := by
        rw [common_self, List.all_eq_true]
        constructor
        · intro z x hx
          exact decide_eq_true (z x ((sortI_perm _).mem_iff.mpr hx))
        · intro z x hx
          exact of_decide_eq_true (z x ((sortI_perm _).mem_iff.mp hx))
      refine ⟨cellsL (found h can c), ?_⟩
      by_cases he' : common (piece h can c) l = piece h can c
      · have er : reasonOf h can c (.tell l) = "known" := by
          rw [reason_tell, if_pos hm, if_pos (he.mp he')]
        rw [er, if_neg known_ne]
        simp [dD, g_reason_against, gRun, sRun, ini, fs_reason_against, List.replicate, hm, e1, e2, he', dEq_L]
        rfl
      · have er : reasonOf h can c (.tell l) = "" := by
          rw [reason_tell, if_pos hm, if_neg fun z => he' (he.mpr z)]
        rw [er, if_pos rfl]
        simp [dD, g_reason_against, gRun, sRun, ini, fs_reason_against, List.replicate, hm, e1, e2, he', dEq_L]
    · refine ⟨[], ?_⟩
      have er : reasonOf h can c (.tell l) = "false" := by rw [reason_tell, if_neg hm]
      rw [er, if_neg false_ne]
      simp [dD, g_reason_against, gRun, sRun, ini, fs_reason_against, List.replicate, hm]
      rfl
theorem reason_in (hr : reasonOf h can c d = "") : ∀ l, d = .tell l → c ∈ l := fun l e => by
  subst e
  by_cases hm : c ∈ l
  · exact hm
  · rw [reason_tell, if_neg hm] at hr
    exact absurd hr false_ne
theorem behind_ok (hk : LotOk h.n can) : LotOk h.n (behindDeed h can c d) := by
  cases d with
  | say p l => exact hk.filter _
  | tell l => exact hk.filter _
theorem behind_self (hm : c ∈ can) (ht : ∀ l, d = .tell l → c ∈ l) : c ∈ behindDeed h can c d := by
  cases d with
  | say p l => exact List.mem_filter.mpr ⟨hm, decide_eq_true rfl⟩
  | tell l => exact List.mem_filter.mpr ⟨hm, decide_eq_true (ht l rfl)⟩
theorem s_behind_deed (H : HlOk h) (hk : LotOk h.n can) (hm : c ∈ can) (hd : DeedOk h d) : g_behind_deed [dH h, dL can, .int c, dD d] π = .ok (dL (behindDeed h can c d), π) := by
  cases d with
  | say p l => simp [dD, g_behind_deed, gRun, sRun, ini, fs_behind_deed, List.replicate, s_behind_saying (lot := l) H hd.1 hk hm, behindDeed]
  | tell l => simp [dD, g_behind_deed, gRun, sRun, ini, fs_behind_deed, List.replicate, s_common_of (l := can) (m := l) (hk.len H.n6), behindDeed]
/-! ### a meeting in the store -/
structure MtAt (h : Hl) (c : Int) (km kp : Nat) (ds : List Deed) (can : Lot) (past : List D) (π : Store) : Prop where
  m : π[km]? = some (mcell h c ds can kp)
  p : π[kp]? = some (.lst past)
  ne : km ≠ kp
  ok : ∀ d ∈ ds, DeedOk h d
  cok : LotOk h.n can
  cin : c ∈ can
  len : past.length ≤ ds.length
theorem MtAt.f0 (M : MtAt h c km kp ds can past π) : dFld 1 0 (.ptr km) π = some (dH h) := by simp [dFld, M.m]
theorem MtAt.f1 (M : MtAt h c km kp ds can past π) : dFld 1 1 (.ptr km) π = some (.int c) := by simp [dFld, M.m]
theorem MtAt.f2 (M : MtAt h c km kp ds can past π) : dFld 1 2 (.ptr km) π = some (.tup (ds.map dD)) := by simp [dFld, M.m]
theorem MtAt.f3 (M : MtAt h c km kp ds can past π) : dFld 1 3 (.ptr km) π = some (dL can) := by simp [dFld, M.m]
theorem MtAt.f4 (M : MtAt h c km kp ds can past π) : dFld 1 4 (.ptr km) π = some (.ptr kp) := by simp [dFld, M.m]
theorem MtAt.cls (M : MtAt h c km kp ds can past π) : cls? 1 π (.ptr km) = .ok () := by simp [cls?, clsD, M.m]
theorem MtAt.keep {π' : Store} (M : MtAt h c km kp ds can past π) (k1 : π'[km]? = π[km]?) (k2 : π'[kp]? = π[kp]?) : MtAt h c km kp ds can past π' := ⟨k1.trans M.m, k2.trans M.p, M.ne, M.ok, M.cok, M.cin, M.len⟩
theorem MtAt.ext (M : MtAt h c km kp ds can past π) (ex : Store) : MtAt h c km kp ds can past (π ++ ex) := M.keep (List.getElem?_append_left (List.getElem?_eq_some_iff.mp M.m).1) (List.getElem?_append_left (List.getElem?_eq_some_iff.mp M.p).1)
theorem MtAt.fr (M : MtAt h c km kp ds can past π) {π' : Store} (f : Fr np π π') (h1 : km ≠ np) (h2 : kp ≠ np) : MtAt h c km kp ds can past π' := M.keep (f.keep _ h1 (List.getElem?_eq_some_iff.mp M.m).1) (f.keep _ h2 (List.getElem?_eq_some_iff.mp M.p).1)
theorem s_left_open (M : MtAt h c km kp ds can past π) : g_Meeting_left_open [.ptr km] π = .ok (dL can, π) := by
  simp [g_Meeting_left_open, gRun, sRun, ini, fs_Meeting_left_open, List.replicate, M.f3]
theorem MtAt.isC (M : MtAt h c km kp ds can past π) : IsC' h c := M.cok.rng c M.cin
theorem s_sees (M : MtAt h c km kp ds can past π) (H : HlOk h) (hp : IsP h p) : g_Meeting_sees [.ptr km, .int p] π = .ok (dL (seesBy h can p c), π) := by
  simp [g_Meeting_sees, gRun, sRun, ini, fs_Meeting_sees, List.replicate, M.f0, M.f1, M.f3, s_check_person hp, s_sees_by (can := can) H hp M.isC]
theorem s_says (M : MtAt h c km kp ds can past π) (H : HlOk h) (hp : IsP h p) (hl : LotOk h.n l) : g_Meeting_says [.ptr km, .int p, dL l] π = .ok (fr (saysBy h can p c l), π) := by
  simp [g_Meeting_says, gRun, sRun, ini, fs_Meeting_says, List.replicate, M.f0, M.f1, M.f3, s_check_person hp, s_check_lot H hl, s_says_by (lot := l) H hp M.isC M.cin]
def toldD (h : Hl) (can : Lot) (c : Int) (l : Lot) : D := .lst [dL can, .lst ((rg h.ts.length).map fun p => dL (seesBy h can p c)), .lst ((rg h.ts.length).map fun p => fr (saysBy h can p c l))]
theorem s_told (M : MtAt h c km kp ds can past π) (H : HlOk h) (hl : LotOk h.n l) : g__law_told [.ptr km, dHL h, dL l] π = .ok (toldD h can c l, π) := by
  have h3 := H.t3
  have er := rng1_i (n := h.ts.length) (by omega) (by omega)
  have e1 := eLc_all (ρ := [some (.ptr km), some (dHL h), some (dL l), none, none]) (π := π) (it := iR rng1 (aCons (eFn fLen (aCons (eOp dIx (eV 1) (eC (.int 1))) aNil)) aNil)) (vs := [4]) (i := 4) (e := eMeth 1 g_Meeting_sees (eV 0) (aCons (eV 4) aNil)) (xs := rg h.ts.length) (enc := D.int) (f := fun p => dL (seesBy h can p c))
    (by simp [hl_1, fLen_Ts, er]) (by rw [rg_len]; omega) fun p hp => by simp [wipeE, eMeth, M.cls, s_sees M H (mem_rg.mp hp)]
  have e2 := eLc_all (ρ := [some (.ptr km), some (dHL h), some (dL l), some (.lst ((rg h.ts.length).map fun p => dL (seesBy h can p c))), none]) (π := π) (it := iR rng1 (aCons (eFn fLen (aCons (eOp dIx (eV 1) (eC (.int 1))) aNil)) aNil)) (vs := [4]) (i := 4) (e := eMeth 1 g_Meeting_says (eV 0) (aCons (eV 4) (aCons (eV 2) aNil))) (xs := rg h.ts.length) (enc := D.int) (f := fun p => fr (saysBy h can p c l))
    (by simp [hl_1, fLen_Ts, er]) (by rw [rg_len]; omega) fun p hp => by simp [wipeE, eMeth, M.cls, s_says M H (mem_rg.mp hp) hl]
  have e3 : eMeth 1 g_Meeting_left_open (eV 0) aNil [some (.ptr km), some (dHL h), some (dL l), some (.lst ((rg h.ts.length).map fun p => dL (seesBy h can p c))), none] π = .ok (dL can, π) := by simp [eMeth, M.cls, s_left_open M]
  simp [g__law_told, gRun, sRun, ini, fs__law_told, List.replicate, e1, e2, e3, toldD]
/-! ### do -/
theorem s_do (M : MtAt h c km kp ds can past π) (H : HlOk h) (hd : DeedOk h d) (hl : ds.length ≤ 1000) :
    ∃ π', π.length ≤ π'.length ∧ (∀ m, m ≠ km → m ≠ kp → m < π.length → π'[m]? = π[m]?) ∧
    ((reasonOf h can c d = "" ∧ g_Meeting_do [.ptr km, dD d] π = .ok (.non, π') ∧ MtAt h c km kp (ds ++ [d]) (behindDeed h can c d) (past ++ [dL can]) π') ∨
     (reasonOf h can c d ≠ "" ∧ g_Meeting_do [.ptr km, dD d] π = .xc 7 (.str (reasonOf h can c d)) π' ∧ MtAt h c km kp ds can past π')) := by
  obtain ⟨ex, er⟩ := s_reason (π := π) H M.isC M.cok hd
  have ec := s_check_deed (π := π) H hd
  have M1 := M.ext ex
  by_cases hr : reasonOf h can c d = ""
  · rw [if_pos hr] at er
    have ht := reason_in hr
    have lm : km < (π ++ ex).length := (List.getElem?_eq_some_iff.mp M1.m).1
    have lp : kp < (π ++ ex).length := (List.getElem?_eq_some_iff.mp M1.p).1
    obtain ⟨π1, h1⟩ : ∃ π1, π1 = (π ++ ex).set kp (.lst (past ++ [dL can])) := ⟨_, rfl⟩
    have m1 : π1[km]? = some (mcell h c ds can kp) := by rw [h1, List.getElem?_set_ne (Ne.symm M.ne)]; exact M1.m
    have p1 : π1[kp]? = some (.lst (past ++ [dL can])) := by rw [h1, List.getElem?_set_self lp]
    have l1 : π1.length = (π ++ ex).length := by rw [h1, List.length_set]
    obtain ⟨π2, h2⟩ : ∃ π2, π2 = π1.set km (mcell h c ds (behindDeed h can c d) kp) := ⟨_, rfl⟩
    have m2 : π2[km]? = some (mcell h c ds (behindDeed h can c d) kp) := by rw [h2, List.getElem?_set_self (by omega)]
    have l2 : π2.length = (π ++ ex).length := by rw [h2, List.length_set, l1]
    obtain ⟨π3, h3⟩ : ∃ π3, π3 = π2.set km (mcell h c (ds ++ [d]) (behindDeed h can c d) kp) := ⟨_, rfl⟩
    have eb := s_behind_deed (π := π1) H M.cok M.cin hd
    have ea : dAdd (.tup (ds.map dD)) (.tup [dD d]) = some (.tup ((ds ++ [d]).map dD)) := by
      rw [dAdd_t (by simp; omega)]
      simp
    refine ⟨π3, by rw [h3, List.length_set, l2, List.length_append]; omega, fun m h4 h5 h6 => ?_, .inl ⟨hr, ?_, ⟨?_, ?_, M.ne, fun x hx => ?_, behind_ok M.cok, behind_self M.cin ht, ?_⟩⟩⟩
    · rw [h3, List.getElem?_set_ne (Ne.symm h4), h2, List.getElem?_set_ne (Ne.symm h4), h1, List.getElem?_set_ne (Ne.symm h5), List.getElem?_append_left h6]
    · have e1 : eApp (eUnS (dFld 1 4) (eV 0)) (eUnS (dFld 1 3) (eV 0)) [some (.ptr km), some (dD d), some .non] (π ++ ex) = .ok (.non, π1) := by
        have hlen := M.len
        have : past.length < 100000 := by omega
        simp [eApp_ap, M1.f4, M1.f3, lstC_ptr M1.p, getL_ptr M1.p, this, h1]
      have e2 : sFldSet 1 3 (eV 0) (eCall g_behind_deed (aCons (eUnS (dFld 1 0) (eV 0)) (aCons (eUnS (dFld 1 3) (eV 0)) (aCons (eUnS (dFld 1 1) (eV 0)) (aCons (eV 1) aNil))))) [some (.ptr km), some (dD d), some .non] π1 = .ok (.nx [some (.ptr km), some (dD d), some .non] π2) := by
        simp [sFldSet, dFld, m1, eb, insC, getI, h2]
      have e3 : sFldSet 1 2 (eV 0) (eOp dAdd (eUnS (dFld 1 2) (eV 0)) (eFn fTup (aCons (eV 1) aNil))) [some (.ptr km), some (dD d), some .non] π2 = .ok (.nx [some (.ptr km), some (dD d), some .non] π3) := by
        simp [sFldSet, dFld, m2, ea, insC, getI, h3, mcell]
      simp [g_Meeting_do, gRun, sRun, ini, fs_Meeting_do, List.replicate, M.f0, M.f1, M.f3, ec, er, dNotN, e1, e2, e3]
    · rw [h3, List.getElem?_set_self (by omega)]
    · rw [h3, List.getElem?_set_ne M.ne, h2, List.getElem?_set_ne M.ne]; exact p1
    · rcases List.mem_append.mp hx with hx | hx
      · exact M.ok x hx
      · rw [List.mem_singleton.mp hx]; exact hd
    · have := M.len
      simp
      omega
  · rw [if_neg hr] at er
    refine ⟨π ++ ex, by rw [List.length_append]; omega, fun m _ _ h6 => List.getElem?_append_left h6, .inr ⟨hr, ?_, M1⟩⟩
    generalize reasonOf h can c d = s at er ⊢
    simp [g_Meeting_do, gRun, sRun, ini, fs_Meeting_do, List.replicate, M.f0, M.f1, M.f3, ec, er, dNotN]
theorem s_barred (M : MtAt h c km kp ds can past π) (H : HlOk h) (hd : DeedOk h d) (hl : ds.length ≤ 1000) :
    ∃ π', g__law_barred [.ptr km, dD d] π = .ok (.str (reasonOf h can c d), π') ∧ π.length ≤ π'.length ∧ (∀ m, m ≠ km → m ≠ kp → m < π.length → π'[m]? = π[m]?) ∧
    ((reasonOf h can c d = "" ∧ MtAt h c km kp (ds ++ [d]) (behindDeed h can c d) (past ++ [dL can]) π') ∨ (reasonOf h can c d ≠ "" ∧ MtAt h c km kp ds can past π')) := by
  obtain ⟨π', h1, h2, ⟨r, e, M'⟩ | ⟨r, e, M'⟩⟩ := s_do M H hd hl
  · refine ⟨π', ?_, h1, h2, .inl ⟨r, M'⟩⟩
    rw [r]
    simp [g__law_barred, gRun, sRun, ini, fs__law_barred, List.replicate, sTry, hs__law_barred, eMeth, M.cls, e]
  · refine ⟨π', ?_, h1, h2, .inr ⟨r, M'⟩⟩
    simp [g__law_barred, gRun, sRun, ini, fs__law_barred, List.replicate, sTry, hs__law_barred, eMeth, M.cls, e]
/-- the store in a turn of the law -/
structure WS (np km kp : Nat) (h : Hl) (c : Int) (ds : List Deed) (can : Lot) (past : List D) (π : Store) : Prop where
  pool : PoolAt np π
  mt : MtAt h c km kp ds can past π
  tab : π[0]? = some (.tab 0 q_telling)
  n0 : 0 ≠ np
  k0 : 0 ≠ km
  p0 : 0 ≠ kp
  nk : np ≠ km
  nq : np ≠ kp
theorem WS.fr (W : WS np km kp h c ds can past π) {π' : Store} (f : Fr np π π') : WS np km kp h c ds can past π' :=
  ⟨f.pool, W.mt.fr f (Ne.symm W.nk) (Ne.symm W.nq), f.get W.n0 W.tab, W.n0, W.k0, W.p0, W.nk, W.nq⟩
/-- a drawn deed, done or barred -/
theorem WS.bar (W : WS np km kp h c ds can past π) (H : HlOk h) (hd : DeedOk h d) (hl : ds.length ≤ 1000) :
    ∃ π', g__law_barred [.ptr km, dD d] π = .ok (.str (reasonOf h can c d), π') ∧ ((reasonOf h can c d = "" ∧ WS np km kp h c (ds ++ [d]) (behindDeed h can c d) (past ++ [dL can]) π') ∨ (reasonOf h can c d ≠ "" ∧ WS np km kp h c ds can past π')) := by
  obtain ⟨π2, e2, h1, h2, M2⟩ := s_barred W.mt H hd hl
  have np1 := W.pool.lt
  have lt0 : 0 < π.length := (List.getElem?_eq_some_iff.mp W.tab).1
  have p2 : PoolAt np π2 := by
    obtain ⟨x, y, z, e, r⟩ := W.pool
    exact ⟨x, y, z, by rw [h2 np W.nk W.nq np1]; exact e, r⟩
  have t2 : π2[0]? = some (.tab 0 q_telling) := by rw [h2 0 W.k0 W.p0 lt0]; exact W.tab
  refine ⟨π2, e2, ?_⟩
  rcases M2 with ⟨r, M2⟩ | ⟨r, M2⟩
  · exact .inl ⟨r, p2, M2, t2, W.n0, W.k0, W.p0, W.nk, W.nq⟩
  · exact .inr ⟨r, p2, M2, t2, W.n0, W.k0, W.p0, W.nk, W.nq⟩
end
end Ph
end
section
set_option Elab.async false
set_option linter.all false
set_option maxRecDepth 100000
set_option exponentiation.threshold 200000
/-! Plain law, part q: repr of what is told. -/
namespace Ph
open PySem PySem.Spec PyProof.Rows L2
/-- data whose repr is short: at most k items, at most j tuples and lists deep -/
structure Sh (k j : Nat) (d : D) : Prop where
  ok : d.okP = true
  sho : d.toP.showable = true
  dic : d.toP.hasDict = false
  dep : d.toP.depth ≤ j
  lea : d.toP.leavesShort 1921 = true
  blk : d.toP.bulk ≤ k
structure ShL (k j : Nat) (l : List D) : Prop where
  ok : D.okPs l = true
  sho : PyData.showableAll (D.toPs l) = true
  dic : PyData.hasDictAll (D.toPs l) = false
  dep : PyData.depthAll (D.toPs l) ≤ j
  lea : PyData.leavesShortAll 1921 (D.toPs l) = true
  blk : PyData.bulkAll (D.toPs l) ≤ l.length * (k + 1)
section
variable {k j n : Nat} {d : D} {l : List D} {α : Type} {f : α → D} {xs : List α}
theorem Sh.mono (h : Sh k j d) {k' j' : Nat} (hk : k ≤ k') (hj : j ≤ j') : Sh k' j' d := ⟨h.ok, h.sho, h.dic, Nat.le_trans h.dep hj, h.lea, Nat.le_trans h.blk hk⟩
theorem shL : ∀ {l : List D}, (∀ d ∈ l, Sh k j d) → ShL k j l
  | [], _ => ⟨rfl, rfl, rfl, Nat.zero_le _, rfl, Nat.zero_le _⟩
  | d :: l, h => by
    have a := h d List.mem_cons_self
    have b := shL (l := l) fun x hx => h x (List.mem_cons_of_mem _ hx)
    refine ⟨?_, ?_, ?_, ?_, ?_, ?_⟩
    · simp only [D.okPs, a.ok, b.ok, Bool.and_self]
    · simp only [D.toPs, PyData.showableAll, a.sho, b.sho, Bool.and_self]
    · simp only [D.toPs, PyData.hasDictAll, a.dic, b.dic, Bool.or_self]
    · simp only [D.toPs, PyData.depthAll]
      exact Nat.max_le.mpr ⟨a.dep, b.dep⟩
    · simp only [D.toPs, PyData.leavesShortAll, a.lea, b.lea, Bool.and_self]
    · have h1 := a.blk
      have h2 := b.blk
      simp only [D.toPs, PyData.bulkAll, List.length_cons, Nat.add_mul, Nat.one_mul]
      omega
theorem sh_tup (h : ∀ d ∈ l, Sh k j d) (hl : l.length ≤ n) : Sh (n * (k + 1)) (j + 1) (.tup l) := by
  have a := shL h
  have hb := Nat.mul_le_mul_right (k + 1) hl
  refine ⟨by simp only [D.okP]; exact a.ok, by simp only [D.toP, PyData.showable]; exact a.sho, by simp only [D.toP, PyData.hasDict]; exact a.dic, ?_, by simp only [D.toP, PyData.leavesShort]; exact a.lea, ?_⟩
  · have := a.dep
    simp only [D.toP, PyData.depth]
    omega
  · have := a.blk
    simp only [D.toP, PyData.bulk]
    omega
theorem sh_lst (h : ∀ d ∈ l, Sh k j d) (hl : l.length ≤ n) : Sh (n * (k + 1)) (j + 1) (.lst l) := by
  have a := shL h
  have hb := Nat.mul_le_mul_right (k + 1) hl
  refine ⟨by simp only [D.okP]; exact a.ok, by simp only [D.toP, PyData.showable]; exact a.sho, by simp only [D.toP, PyData.hasDict]; exact a.dic, ?_, by simp only [D.toP, PyData.leavesShort]; exact a.lea, ?_⟩
  · have := a.dep
    simp only [D.toP, PyData.depth]
    omega
  · have := a.blk
    simp only [D.toP, PyData.bulk]
    omega
theorem sh_int {i : Int} (h : i.natAbs < 2 ^ 1900) : Sh 0 0 (.int i) := by
  have hl : i.natAbs.log2 < 1920 := by
    by_cases h0 : i.natAbs = 0
    · rw [h0]; decide
    · exact Nat.lt_of_lt_of_le ((Nat.log2_lt h0).mpr h) (by decide)
  refine ⟨rfl, decide_eq_true hl, rfl, Nat.le_refl _, decide_eq_true ?_, Nat.le_refl _⟩
  show (PySem.Str.ofString (toString i)).length ≤ 1921
  rw [PySem.ofString_length]
  exact PySem.int_text_length_le (k := 1920) (by decide) hl
theorem sh_say : Sh 3 0 (.str "say") := ⟨rfl, rfl, rfl, Nat.le_refl _, by decide +kernel, by decide +kernel⟩
theorem sh_tell : Sh 4 0 (.str "tell") := ⟨rfl, rfl, rfl, Nat.le_refl _, by decide +kernel, by decide +kernel⟩
theorem sh_fr {r : Rat} (h : Sm 1800 r) : Sh 2 1 (fr r) := by
  have p : (2 : Nat) ^ 1800 ≤ 2 ^ 1900 := Nat.pow_le_pow_right (by decide) (by decide)
  refine sh_tup (k := 0) (j := 0) (n := 2) (fun d hd => ?_) (by simp)
  simp only [List.mem_cons, List.not_mem_nil, or_false] at hd
  rcases hd with rfl | rfl
  · exact sh_int (Nat.lt_of_lt_of_le h.1 p)
  · exact sh_int (Nat.lt_of_lt_of_le h.2 p)
theorem small_nat {i : Int} (h0 : 0 ≤ i) (h : i ≤ 1000) : i.natAbs < 2 ^ 1900 := by
  have : (2 : Nat) ^ 10 ≤ 2 ^ 1900 := Nat.pow_le_pow_right (by decide) (by decide)
  have e : (2 : Nat) ^ 10 = 1024 := by decide
  omega
theorem sh_lot {h : Hl} {l : Lot} (hl : LotOk h.n l) (hn : h.n ≤ 6) : Sh 6 1 (dL l) := by
  refine sh_tup (k := 0) (j := 0) (n := 6) (fun d hd => ?_) (by simpa using hl.len hn)
  obtain ⟨c, hc, rfl⟩ := List.mem_map.mp hd
  exact sh_int (small_nat (hl.rng c hc).1 (by have := (hl.rng c hc).2; omega))
theorem sh_deed {h : Hl} {d : Deed} (H : HlOk h) (hd : DeedOk h d) : Sh 21 2 (dD d) := by
  have t3 := H.t3
  cases d with
  | say p l =>
    refine sh_tup (k := 6) (j := 1) (n := 3) (fun d hd' => ?_) (by simp)
    simp only [List.mem_cons, List.not_mem_nil, or_false] at hd'
    rcases hd' with rfl | rfl | rfl
    · exact sh_say.mono (by decide) (by decide)
    · exact (sh_int (small_nat hd.1.1 (by have := hd.1.2; omega))).mono (by decide) (by decide)
    · exact sh_lot hd.2 H.n6
  | tell l =>
    refine sh_tup (k := 6) (j := 1) (n := 3) (fun d hd' => ?_) (by simp)
    simp only [List.mem_cons, List.not_mem_nil, or_false] at hd'
    rcases hd' with rfl | rfl
    · exact sh_tell.mono (by decide) (by decide)
    · exact sh_lot hd H.n6
theorem sh_deeds {h : Hl} {ds : List Deed} (H : HlOk h) (hd : ∀ d ∈ ds, DeedOk h d) (hl : ds.length ≤ 20) : Sh 440 3 (.tup (ds.map dD)) := by
  refine sh_tup (k := 21) (j := 2) (n := 20) (fun d hd' => ?_) (by simpa using hl)
  obtain ⟨x, hx, rfl⟩ := List.mem_map.mp hd'
  exact sh_deed H (hd x hx)
theorem sh_told {h : Hl} {can l : Lot} {c : Int} (H : HlOk h) (hc : IsC' h c) (hk : LotOk h.n can) : Sh 66 3 (toldD h can c l) := by
  have t3 := H.t3
  refine sh_lst (k := 21) (j := 2) (n := 3) (fun d hd' => ?_) (by simp)
  simp only [List.mem_cons, List.not_mem_nil, or_false] at hd'
  rcases hd' with rfl | rfl | rfl
  · exact (sh_lot hk H.n6).mono (by decide) (by decide)
  · refine sh_lst (k := 6) (j := 1) (n := 3) (fun d hd => ?_) (by rw [List.length_map, rg_len]; omega)
    obtain ⟨p, hp, rfl⟩ := List.mem_map.mp hd
    exact sh_lot (sees_ok H (mem_rg.mp hp) hc) H.n6
  · refine sh_lst (k := 6) (j := 1) (n := 3) (fun d hd => ?_) (by rw [List.length_map, rg_len]; omega)
    obtain ⟨p, hp, rfl⟩ := List.mem_map.mp hd
    exact (sh_fr ((says_sm H (mem_rg.mp hp) hc).mono (by decide))).mono (by decide) (by decide)
/-- repr(d) is a text -/
theorem s_repr (h : Sh 8000 100 d) : fRepr [d] = .ok (.str d.toP.shown) := by
  refine if_pos ⟨h.ok, h.sho, h.dic, Nat.le_trans h.dep (by decide), ?_⟩
  have h1 := PyData.shown_le_bulk 1921 (by decide) d.toP h.lea
  have h2 := h.blk
  have h3 : (1921 + 2) * d.toP.bulk ≤ (1921 + 2) * 8000 := Nat.mul_le_mul_left _ h2
  rw [sizeLine_eq]
  omega
end
end Ph
end
section
set_option Elab.async false
set_option linter.all false
set_option maxRecDepth 100000
set_option exponentiation.threshold 200000
/-! Plain law, the law's own sums and sights. -/
namespace Ph
open PySem PySem.Spec PyProof.Rows L2
section
variable {h : Hl} {can l lot : Lot} {c p x : Int} {np km kp n m : Nat} {π : Store} {a b : Rat} {d : Deed}
theorem s_lplus (ha : Sm n a) (hb : Sm m b) (h : n + m ≤ 9000) : g__law_plus [fr a, fr b] π = .ok (fr (a + b), π) := by
  have hn : ∀ {p q : Int}, p.natAbs < 2 ^ n → q.natAbs < 2 ^ m → wideM p q = true := fun h1 h2 => wideM_n h1 h2 (by omega)
  have hn' : ∀ {p q : Int}, p.natAbs < 2 ^ m → q.natAbs < 2 ^ n → wideM p q = true := fun h1 h2 => wideM_n h1 h2 (by omega)
  have d1 := den_pos' a
  have d2 := den_pos' b
  have hd : ((a.den : Int) * (b.den : Int)).natAbs < 2 ^ 9000 := by
    rw [Int.natAbs_mul]
    exact Nat.lt_of_lt_of_le (Nat.mul_lt_mul'' ha.2 hb.2) (by rw [← Nat.pow_add]; exact Nat.pow_le_pow_right (by decide) h)
  have e : Rat.divInt (a.num * b.den + b.num * a.den) ((a.den : Int) * (b.den : Int)) = a + b := by
    rw [Rat.add_def', ← Int.natCast_mul, Rat.divInt_ofNat]
  simp [g__law_plus, gRun, sRun, ini, fs__law_plus, fr, dMul_i (hn (p := a.num) (q := (b.den : Int)) ha.1 hb.2), dMul_i (hn' (p := b.num) (q := (a.den : Int)) hb.1 ha.2), dMul_i (hn (p := (a.den : Int)) (q := (b.den : Int)) ha.2 hb.2)]
  rw [s_cut (Int.mul_pos d1 d2) hd, e]
  rfl
theorem s_lover (ha : Sm n a) (hb : Sm m b) (h0 : 0 < b) (h : n + m ≤ 9000) : g__law_over [fr a, fr b] π = .ok (fr (a / b), π) := by
  have hn : ∀ {p q : Int}, p.natAbs < 2 ^ n → q.natAbs < 2 ^ m → wideM p q = true := fun h1 h2 => wideM_n h1 h2 (by omega)
  have d1 := den_pos' a
  have d2 : 0 < b.num := by
    have := (Rat.num_nonneg (q := b)).mpr (Rat.le_of_lt h0)
    have h1 : b.num ≠ 0 := fun z => by
      rw [Rat.num_eq_zero] at z
      rw [z] at h0
      exact Rat.lt_irrefl h0
    omega
  have hd : ((a.den : Int) * b.num).natAbs < 2 ^ 9000 := by
    rw [Int.natAbs_mul]
    exact Nat.lt_of_lt_of_le (Nat.mul_lt_mul'' ha.2 hb.1) (by rw [← Nat.pow_add]; exact Nat.pow_le_pow_right (by decide) h)
  have e : Rat.divInt (a.num * b.den) ((a.den : Int) * b.num) = a / b := by
    rw [← Rat.divInt_mul_divInt, Rat.num_divInt_den, Rat.div_def, Rat.inv_def]
  simp [g__law_over, gRun, sRun, ini, fs__law_over, fr, dMul_i (hn (p := a.num) (q := (b.den : Int)) ha.1 hb.2), dMul_i (hn (p := (a.den : Int)) (q := b.num) ha.2 hb.1)]
  rw [s_cut (Int.mul_pos d1 d2) hd, e]
  rfl
theorem lsum_loop {k : Nat} : ∀ {l : List Rat} {s : Rat} {m : Nat} {u v : Option D}, (∀ r ∈ l, Sm k r) → Sm m s → m + (l.length + 1) * (k + 1) ≤ 9000 →
    ∃ v', sLoop (gN 2) (sSet 1 (eCall g__law_plus (aCons (eV 1) (aCons (eV 2) aNil)))) (l.map fr) [u, some (fr s), v] π = .ok (.nx [u, some (fr (l.foldl (· + ·) s)), v'] π)
  | [], s, m, u, v, _, _, _ => ⟨v, rfl⟩
  | x :: l, s, m, u, v, hl, h, hb => by
    have hx := hl x List.mem_cons_self
    rw [List.length_cons, Nat.add_mul] at hb
    have hb' : m + k ≤ 9000 := by omega
    obtain ⟨v', q⟩ := lsum_loop (l := l) (s := s + x) (m := m + k + 1) (u := u) (v := some (fr x)) (fun r hr => hl r (List.mem_cons_of_mem _ hr)) (h.add hx) (by omega)
    refine ⟨v', ?_⟩
    rw [List.map_cons]
    unfold sLoop
    simp [s_lplus h hx hb', q]
theorem s_lsum {k : Nat} {l : List Rat} (hl : ∀ r ∈ l, Sm k r) (hb : (l.length + 2) * (k + 1) ≤ 9000) : g__law_sum [.lst (l.map fr)] π = .ok (fr (sumR l), π) := by
  have hb' : 1 + (l.length + 1) * (k + 1) ≤ 9000 := by
    rw [Nat.add_mul] at hb ⊢
    omega
  obtain ⟨v', q⟩ := lsum_loop (π := π) (u := some (.lst (l.map fr))) (v := none) hl Sm.zero hb'
  have ez : D.tup [.int 0, .int 1] = fr 0 := rfl
  simp [g__law_sum, gRun, sRun, ini, fs__law_sum, ez, List.replicate, q]
  rfl
theorem s_lpart (H : HlOk h) (hp : IsP h p) (hc : IsC' h c) : g__law_part [dHL h, .int p, .int c] π = .ok (dP (partAt h p c), π) := by
  have hs := (telAt_ok H hp).short
  have e := eLc_pure (ρ := [some (dHL h), some (.int p), some (.int c), none]) (π := π) (it := iS (eOp dIx (eOp dIx (eV 0) (eC (.int 1))) (eV 1))) (i := 3) (vs := [3]) (t := tB (eOp (dIn false) (eV 2) (eOp dIx (eV 3) (eC (.int 0))))) (e := eV 3) (xs := telAt h p) (enc := dP) (f := dP) (keep := fun q => decide (c ∈ q.1))
    (by simp [hl_1, dTs_at hp, dT]) (by omega) (fun q hq => by simp [wipeE])
  have hne : (telAt h p).filter (fun q => decide (c ∈ q.1)) ≠ [] := fun z => by
    have q := partAt_mem H hp hc
    have : partAt h p c ∈ (telAt h p).filter fun q => decide (c ∈ q.1) := List.mem_filter.mpr ⟨q.1, decide_eq_true q.2⟩
    rw [z] at this
    cases this
  simp only [g__law_part, gRun, sRun, ini, fs__law_part, List.length_cons, List.length_nil, if_true, List.map_cons, List.map_nil, List.replicate, Nat.reduceSub, Nat.reduceAdd, List.cons_append, List.nil_append, sRet_ap, eOp_ap, e, Res.bind_ok, eC_ap, dIx_l]
  unfold partAt
  cases ef : (telAt h p).filter fun q => decide (c ∈ q.1) with
  | nil => exact absurd ef hne
  | cons r rs => simp
theorem s_ltold (H : HlOk h) (hp : IsP h p) (hc : IsC' h c) : g__law_told_chance [dHL h, .int p, .int c] π = .ok (fr (toldOf h p c), π) := by
  have q := partAt_mem H hp hc
  have hi : (partAt h p c).1.idxOf c < (partAt h p c).1.length := List.idxOf_lt_length_of_mem q.2
  have hl := (part_ok H hp hc).len
  have e : dIx (dF (partAt h p c).2) (.int ((partAt h p c).1.idxOf c : Nat)) = some (fr (toldOf h p c)) := by
    show atI ((partAt h p c).2.map fr) _ = _
    rw [atI_nat' (by omega) (by rw [List.length_map]; omega), List.getElem?_map]
    unfold toldOf
    rw [List.getD_eq_getElem?_getD]
    have : (((partAt h p c).1.idxOf c : Nat) : Int).toNat < (partAt h p c).2.length := by omega
    rw [List.getElem?_eq_getElem this]
    simp [hl, hi]
  simp [g__law_told_chance, gRun, sRun, ini, fs__law_told_chance, s_lpart H hp hc, List.replicate, dTIdx_L q.2, e]
theorem s_lsees (H : HlOk h) (hp : IsP h p) (hc : IsC' h c) : g__law_sees [dHL h, dL can, .int p, .int c] π = .ok (dL (seesBy h can p c), π) := by
  have hs := (seen_ok H hp hc).len H.n6
  have e := eLc_pure (ρ := [some (dHL h), some (dL can), some (.int p), some (.int c), none]) (π := π) (it := iS (eOp dIx (eCall g__law_part (aCons (eV 0) (aCons (eV 2) (aCons (eV 3) aNil)))) (eC (.int 0)))) (i := 4) (vs := [4]) (t := tB (eOp (dIn false) (eV 4) (eV 1))) (e := eV 4) (xs := seenBy h p c) (enc := D.int) (f := D.int) (keep := fun c => decide (c ∈ can))
    (by simp [s_lpart H hp hc]; rfl) (by omega) (fun q hq => by simp [wipeE])
  simp [g__law_sees, gRun, sRun, ini, fs__law_sees, List.replicate, e, fTuple_l]
  rfl
theorem s_lsays (H : HlOk h) (hp : IsP h p) (hc : IsC' h c) (hm : c ∈ can) : g__law_says [dHL h, dL can, .int p, .int c, dL lot] π = .ok (fr (saysBy h can p c lot), π) := by
  have hr := sees_ok (can := can) H hp hc
  have hn : seesBy h can p c ≠ [] := fun z => by
    have := sees_self H hp hc hm
    rw [z] at this
    cases this
  have hl := hr.len H.n6
  have es := s_lsees (π := π) (can := can) H hp hc
  unfold saysBy
  generalize seesBy h can p c = l at hr hn hl es ⊢
  have hl2 : (l.filter fun c => decide (c ∈ lot)).length ≤ 6 := Nat.le_trans (List.length_filter_le _ _) hl
  have sm : ∀ m : Lot, (∀ c ∈ m, c ∈ l) → ∀ r ∈ m.map (toldOf h p), Sm 8 r := fun m hm r hr' => by
    obtain ⟨c, hc, rfl⟩ := List.mem_map.mp hr'
    exact told_sm H hp (hr.rng c (hm c hc))
  have ps : ∀ m : Lot, (∀ c ∈ m, c ∈ l) → ∀ r ∈ m.map (toldOf h p), 0 < r := fun m hm r hr' => by
    obtain ⟨c, hc, rfl⟩ := List.mem_map.mp hr'
    exact told_pos H hp (hr.rng c (hm c hc))
  have s1 := sm l fun _ z => z
  have s2 := sm (l.filter fun c => decide (c ∈ lot)) fun c z => (List.mem_filter.mp z).1
  have p1 : 0 < sumR (l.map (toldOf h p)) := sumR_pos (ps l fun _ z => z) (by simpa using hn)
  have e1 : ∀ {w : Option D} {v : Option D}, eLc (iS (eV 5)) [7] (gN 7) tYesD (eCall g__law_told_chance (aCons (eV 0) (aCons (eV 2) (aCons (eV 7) aNil)))) [some (dHL h), some (dL can), some (.int p), some (.int c), some (dL lot), some (dL l), w, v] π = .ok (.lst ((l.map (toldOf h p)).map fr), π) := fun {w v} => by
    rw [List.map_map]
    exact eLc_all (xs := l) (enc := D.int) (f := fun c => fr (toldOf h p c)) (by simp) (by omega) fun c hc => by simp [wipeE, s_ltold H hp (hr.rng c hc)]
  have e2 : ∀ {w : Option D} {v : Option D}, eLc (iS (eV 5)) [7] (gN 7) (tB (eOp (dIn false) (eV 7) (eV 4))) (eCall g__law_told_chance (aCons (eV 0) (aCons (eV 2) (aCons (eV 7) aNil)))) [some (dHL h), some (dL can), some (.int p), some (.int c), some (dL lot), some (dL l), w, v] π = .ok (.lst (((l.filter fun c => decide (c ∈ lot)).map (toldOf h p)).map fr), π) := fun {w v} => by
    rw [List.map_map]
    exact eLc_pure (xs := l) (enc := D.int) (f := fun c => fr (toldOf h p c)) (keep := fun c => decide (c ∈ lot)) (by simp) (by omega) fun c hc => by simp [wipeE, s_ltold H hp (hr.rng c hc)]
  have b1 := sumR_sm s1 (by rw [List.length_map]; exact hl)
  have b2 := sumR_sm s2 (by rw [List.length_map]; exact hl2)
  have q1 := s_lsum (π := π) s1 (by rw [List.length_map]; omega)
  have q2 := s_lsum (π := π) s2 (by rw [List.length_map]; omega)
  have q3 := s_lover (π := π) b2 b1 p1 (by omega)
  unfold chanceIn
  simp only [g__law_says, gRun, sRun, ini, fs__law_says, List.length_cons, List.length_nil, if_true, List.map_cons, List.map_nil, List.replicate, Nat.reduceSub, Nat.reduceAdd, List.cons_append, List.nil_append, sSeq_ap, sSet_ap, eCall_ap, aCons_ap, aNil_ap, eV_ap, gt_s, gt_0, es, e1, e2, Res.bind_ok, q1, q2, q3, List.set_cons_succ, List.set_cons_zero, sRet_ap]
  rfl
theorem s_ldue (H : HlOk h) (hk : LotOk h.n can) (hm : c ∈ can) : g__law_due [dHL h, .int c, dL can, dL lot] π = .ok (toldD h can c lot, π) := by
  have h3 := H.t3
  have hc := hk.rng c hm
  have er := rng1_i (n := h.ts.length) (by omega) (by omega)
  have e1 := eLc_all (ρ := [some (dHL h), some (.int c), some (dL can), some (dL lot), none, none]) (π := π) (it := iR rng1 (aCons (eFn fLen (aCons (eOp dIx (eV 0) (eC (.int 1))) aNil)) aNil)) (vs := [5]) (i := 5) (e := eCall g__law_sees (aCons (eV 0) (aCons (eV 2) (aCons (eV 5) (aCons (eV 1) aNil))))) (xs := rg h.ts.length) (enc := D.int) (f := fun p => dL (seesBy h can p c))
    (by simp [hl_1, fLen_Ts, er]) (by rw [rg_len]; omega) fun p hp => by simp [wipeE, s_lsees (can := can) H (mem_rg.mp hp) hc]
  have e2 := eLc_all (ρ := [some (dHL h), some (.int c), some (dL can), some (dL lot), some (.lst ((rg h.ts.length).map fun p => dL (seesBy h can p c))), none]) (π := π) (it := iR rng1 (aCons (eFn fLen (aCons (eOp dIx (eV 0) (eC (.int 1))) aNil)) aNil)) (vs := [5]) (i := 5) (e := eCall g__law_says (aCons (eV 0) (aCons (eV 2) (aCons (eV 5) (aCons (eV 1) (aCons (eV 3) aNil)))))) (xs := rg h.ts.length) (enc := D.int) (f := fun p => fr (saysBy h can p c lot))
    (by simp [hl_1, fLen_Ts, er]) (by rw [rg_len]; omega) fun p hp => by simp [wipeE, s_lsays (can := can) (lot := lot) H (mem_rg.mp hp) hc hm]
  simp [g__law_due, gRun, sRun, ini, fs__law_due, List.replicate, e1, e2, toldD]
end
end Ph
end
section
set_option Elab.async false
set_option linter.all false
set_option maxRecDepth 100000
set_option exponentiation.threshold 200000
/-! Plain law: meetings compared; what was done, step by step. -/
namespace Ph
open PySem PySem.Spec PyProof.Rows L2
/-! ### == of data with itself -/
mutual
theorem deq_refl : ∀ (d : D) (n : Nat), fits d n = true → deq d d = true
  | .non, _, _ => rfl
  | .bl b, _, _ => by simp [deq]
  | .int i, _, _ => by simp [deq]
  | .str s, _, _ => by simp [deq]
  | .tup l, n, h => by
    cases n with
    | zero => simp [fits] at h
    | succ n => simp only [deq]; exact deqL_refl l n (by simpa [fits] using h)
  | .lst l, n, h => by
    cases n with
    | zero => simp [fits] at h
    | succ n => simp only [deq]; exact deqL_refl l n (by simpa [fits] using h)
  | .obj c l, n, h => by simp [fits] at h
  | .dic, n, h => by simp [fits] at h
  | .ptup l, n, h => by simp [fits] at h
  | .ptr _, n, h => by simp [fits] at h
  | .fn a, n, h => by simp [fits] at h
  | .scr l, n, h => by simp [fits] at h
theorem deqL_refl : ∀ (l : List D) (n : Nat), fitsL l n = true → deqL l l = true
  | [], _, _ => rfl
  | d :: l, n, h => by
    simp only [fitsL, Bool.and_eq_true] at h
    simp only [deqL, deq_refl d n h.1, deqL_refl l n h.2, Bool.and_self]
end
section
variable {π : Store} {ρ : En} {n : Nat} {d e : D} {l : List D} {α : Type} {f : α → D} {xs : List α} {ts : List Tel} {t : Tel} {q : Part} {dd : Deed} {ds : List Deed} {r : List Rat}
theorem dEq_self (h : fits d 40 = true) : dEq d d = some (.bl true) := by
  unfold dEq
  rw [h, deq_refl d 40 h]
  simp
theorem fitsL_map : ∀ {xs : List α}, (∀ x ∈ xs, fits (f x) n = true) → fitsL (xs.map f) n = true
  | [], _ => rfl
  | x :: xs, h => by
    simp only [List.map_cons, fitsL, h x List.mem_cons_self, Bool.true_and]
    exact fitsL_map fun y hy => h y (List.mem_cons_of_mem _ hy)
theorem fits_dF : fits (dF r) (n + 2) = true := by
  show fitsL (r.map fr) (n + 1) = true
  exact fitsL_map fun x _ => fits_fr
theorem fits_dP : fits (dP q) (n + 3) = true := by
  show fitsL [dL q.1, dF q.2] (n + 2) = true
  simp only [fitsL, fits_L (n := n + 1), fits_dF, Bool.and_self]
theorem fits_dT : fits (dT t) (n + 4) = true := fitsL_map fun x _ => fits_dP
theorem fits_dTs : fits (dTs ts) (n + 5) = true := fitsL_map fun x _ => fits_dT
theorem str_say : PyData.strOk ("say" : Str) = true := by decide +kernel
theorem str_tell : PyData.strOk ("tell" : Str) = true := by decide +kernel
theorem fits_dD : fits (dD dd) (n + 2) = true := by
  cases dd with
  | say p l =>
    show fitsL [.str "say", .int p, dL l] (n + 1) = true
    simp [fitsL, fits, str_say]
  | tell l =>
    show fitsL [.str "tell", dL l] (n + 1) = true
    simp [fitsL, fits, str_tell]
theorem fits_ds : fits (.tup (ds.map dD)) (n + 3) = true := fitsL_map (n := n + 2) fun x _ => fits_dD
theorem fits_dsl : fits (.lst (ds.map dD)) (n + 3) = true := fitsL_map (n := n + 2) fun x _ => fits_dD
theorem dNe_log : dNe (.lst (ds.map dD)) (.lst []) = some (.bl (!decide (ds = []))) := by
  have h : fits (.lst (ds.map dD)) 40 = true := fits_dsl (n := 37)
  have h2 : fits (.lst []) 40 = true := rfl
  simp only [dNe, h, h2, Bool.and_self, Bool.or_true, if_true, deq]
  congr 2
  cases ds <;> simp [deqL]
end
section
variable {h : Hl} {can can0 l : Lot} {c p x : Int} {np km kp kl ks : Nat} {π : Store} {a b : D} {d : Deed} {ds : List Deed} {past : List D} {ps : List Lot}
theorem s_led (M : MtAt h c km kp ds can past π) : g_led_by [.ptr km] π = .ok (.tup [.int h.n, dTs h.ts, .int c, .tup (ds.map dD)], π) := by
  simp [g_led_by, gRun, sRun, ini, fs_led_by, List.replicate, M.f0, M.f1, M.f2]
theorem s_meq {km2 kp2 : Nat} {past2 : List D} {can2 : Lot} (M : MtAt h c km kp ds can past π) (M2 : MtAt h c km2 kp2 ds can2 past2 π) : g_Meeting___eq__ [.ptr km, .ptr km2] π = .ok (.bl true, π) := by
  have e1 : dIsC 1 [0] (.ptr km2) π = some (.bl true) := by simp [dIsC, clsD, M2.m]
  have hf : fits (.tup [.int h.n, dTs h.ts, .int c, .tup (ds.map dD)]) 40 = true := by
    show fitsL [.int h.n, dTs h.ts, .int c, .tup (ds.map dD)] 39 = true
    have f1 : fits (dTs h.ts) 39 = true := fits_dTs (n := 34)
    have f2 : fits (.tup (ds.map dD)) 39 = true := fits_ds (n := 36)
    simp only [fitsL, fits_i, f1, f2, Bool.and_self]
  have e2 := dEq_self hf
  simp [g_Meeting___eq__, gRun, sRun, ini, fs_Meeting___eq__, List.replicate, e1, s_led M, s_led M2, e2]
inductive Run (h : Hl) (c : Int) : Lot → List Deed → Lot → Prop where
  | nil {a : Lot} : Run h c a [] a
  | cons {a b : Lot} {d : Deed} {ds : List Deed} : reasonOf h a c d = "" → DeedOk h d → Run h c (behindDeed h a c d) ds b → Run h c a (d :: ds) b
theorem Run.snoc {a b : Lot} {ds : List Deed} (r : Run h c a ds b) (h1 : reasonOf h b c d = "") (h2 : DeedOk h d) : Run h c a (ds ++ [d]) (behindDeed h b c d) := by
  induction r with
  | nil => exact .cons h1 h2 .nil
  | cons x y _ ih => exact .cons x y (ih h1)
end
end Ph
end
section
set_option Elab.async false
set_option linter.all false
set_option maxRecDepth 100000
/-! Plain law: what repr shows of numbers, tuples and lists tells them apart. -/
namespace Ph
open PySem PySem.Spec PyProof.Rows L2
/-- the signs -/
def sg (s : Str) : List Nat := s.cps.toList
theorem sg_app (a b : Str) : sg (a ++ b) = sg a ++ sg b := cps_toList_append a b
theorem sg_of (s : String) : sg (Str.ofString s) = s.toList.map Char.toNat := signs_ofString s
theorem sg_cs : sg (Str.ofString ", ") = [44, 32] := by rw [sg_of]; rfl
theorem sg_e : sg (Str.ofString "") = [] := by rw [sg_of]; rfl
theorem sg_emp : sg Str.empty = [] := rfl
theorem sg_inj {a b : Str} (h : sg a = sg b) : a = b := by
  obtain ⟨a⟩ := a
  obtain ⟨b⟩ := b
  have : a = b := Array.toList_inj.mp h
  rw [this]
theorem nat_repr_inj {a b : Nat} (h : a.repr = b.repr) : a = b := by
  have e : (Nat.toDigits 10 a) = Nat.toDigits 10 b := by
    have := congrArg String.toList h
    rwa [Nat.toList_repr, Nat.toList_repr] at this
  rw [← Nat.ofDigitChars_toDigits (b := 10) (n := a) (by decide) (by decide), e, Nat.ofDigitChars_toDigits (by decide) (by decide)]
theorem minus_repr {m n : Nat} (h : "-" ++ m.repr = n.repr) : False := by
  have e := congrArg String.toList h
  rw [String.toList_append, Nat.toList_repr, Nat.toList_repr] at e
  have hm : '-' ∈ Nat.toDigits 10 n := by rw [← e]; simp
  have := Nat.isDigit_of_mem_toDigits (b := 10) (by decide) (by decide) hm
  exact absurd this (by decide)
theorem minus_inj {m n : Nat} (h : "-" ++ m.repr = "-" ++ n.repr) : m = n := by
  have e := congrArg String.toList h
  rw [String.toList_append, String.toList_append] at e
  have e2 : m.repr.toList = n.repr.toList := by simpa using e
  exact nat_repr_inj (String.toList_inj.mp e2)
theorem int_repr_inj {i j : Int} (h : toString i = toString j) : i = j := by
  rw [Int.toString_eq_repr, Int.toString_eq_repr, Int.repr_eq_if, Int.repr_eq_if] at h
  split at h
  · split at h
    · have := nat_repr_inj h
      omega
    · exact (minus_repr h.symm).elim
  · split at h
    · exact (minus_repr h).elim
    · have := minus_inj h
      omega
def dgt (n : Nat) : Bool := decide (n = 45) || (decide (48 ≤ n) && decide (n ≤ 57))
theorem int_dgt (i : Int) : ∀ n ∈ sg (Str.ofString (toString i)), dgt n = true := by
  intro n hn
  rw [sg_of] at hn
  obtain ⟨c, hc, rfl⟩ := List.mem_map.mp hn
  rcases int_sign i c hc with h | rfl
  · have h1 : 48 ≤ c.toNat ∧ c.toNat ≤ 57 := by
      unfold Char.isDigit at h
      simp only [Bool.and_eq_true, decide_eq_true_eq] at h
      have a1 : (48 : UInt32).toNat ≤ c.val.toNat := UInt32.le_iff_toNat_le.mp h.1
      have a2 : c.val.toNat ≤ (57 : UInt32).toNat := UInt32.le_iff_toNat_le.mp h.2
      exact ⟨a1, a2⟩
    simp [dgt, h1]
  · rfl
theorem int_ne (i : Int) : sg (Str.ofString (toString i)) ≠ [] := by
  rw [sg_of]
  intro h
  have h : (toString i).toList = [] := by simpa using h
  rw [Int.toString_eq_repr, Int.repr_eq_if] at h
  split at h
  · rw [Nat.toList_repr] at h
    exact absurd h Nat.toDigits_ne_nil
  · rw [String.toList_append] at h
    simp at h
/-- what may follow -/
def Beh (r : List Nat) : Prop := ∀ n ∈ r.head?, dgt n = false
theorem span_eq {p : Nat → Bool} : ∀ {a b r s : List Nat}, (∀ n ∈ a, p n = true) → (∀ n ∈ b, p n = true) → (∀ n ∈ r.head?, p n = false) → (∀ n ∈ s.head?, p n = false) → a ++ r = b ++ s → a = b ∧ r = s
  | [], [], _, _, _, _, _, _, h => ⟨rfl, h⟩
  | [], y :: b, r, s, _, hb, hr, _, h => by
    have h : r = y :: (b ++ s) := h
    subst h
    have := hr y (by simp)
    rw [hb y (by simp)] at this
    cases this
  | x :: a, [], r, s, ha, _, _, hs, h => by
    have h : x :: (a ++ r) = s := h
    subst h
    have := hs x (by simp)
    rw [ha x (by simp)] at this
    cases this
  | x :: a, y :: b, r, s, ha, hb, hr, hs, h => by
    rw [List.cons_append, List.cons_append] at h
    obtain ⟨rfl, h2⟩ := List.cons.inj h
    obtain ⟨rfl, rfl⟩ := span_eq (fun n hn => ha n (List.mem_cons_of_mem _ hn)) (fun n hn => hb n (List.mem_cons_of_mem _ hn)) hr hs h2
    exact ⟨rfl, rfl⟩
mutual
/-- numbers, tuples and lists -/
def itP : PyData → Bool
  | .int _ => true
  | .list xs => itPs xs
  | .tuple xs => itPs xs
  | _ => false
def itPs : List PyData → Bool
  | [] => true
  | x :: xs => itP x && itPs xs
end
/-- what follows an element -/
def tlS (e : Nat) : List PyData → List Nat
  | [] => [e]
  | x :: r => 44 :: 32 :: (sg x.shown ++ tlS e r)
theorem tlS_beh {e : Nat} (he : dgt e = false) (l : List PyData) (r : List Nat) : Beh (tlS e l ++ r) := by
  cases l with
  | nil => intro n hn; simp [tlS] at hn; subst hn; exact he
  | cons x l => intro n hn; simp [tlS] at hn; subst hn; rfl
theorem join_tl (e : Nat) : ∀ (x : PyData) (xs : List PyData), sg (Str.join ", " (PyData.shownAll (x :: xs))) ++ [e] = sg x.shown ++ tlS e xs
  | x, [] => by
    simp only [PyData.shownAll, join_one, tlS]
  | x, y :: r => by
    have ih := join_tl e y r
    simp only [PyData.shownAll] at ih ⊢
    rw [join_cons_cons, sg_app, sg_app, List.append_assoc, List.append_assoc, ih, sg_cs]
    rfl
theorem sg_join2 (t u : Str) (us : List Str) : sg (Str.join ", " (t :: u :: us)) = sg t ++ ([44, 32] ++ sg (Str.join ", " (u :: us))) := by
  rw [join_cons_cons, sg_app, sg_app, sg_cs, List.append_assoc]
theorem sg_join1 (t : Str) : sg (Str.join ", " [t]) = sg t := by rw [join_one]
def mid (l : List Str) : List Nat := if l = [] then [] else [44, 32] ++ sg (Str.join ", " l)
theorem sg_joinc (t : Str) (l : List Str) : sg (Str.join ", " (t :: l)) = sg t ++ mid l := by
  cases l with
  | nil => rw [sg_join1]; simp [mid]
  | cons u us => rw [sg_join2]; simp [mid]
theorem mid_c (t : Str) (l : List Str) : mid (t :: l) = [44, 32] ++ (sg t ++ mid l) := by
  unfold mid
  rw [if_neg (by simp), sg_joinc]
  rfl
theorem tf_mid : ∀ (ts : List Str) (acc : Str) (k : Nat), sg (textFrom (k + 1) acc ts) = sg acc ++ mid ts
  | [], acc, k => by
    unfold textFrom
    simp [mid]
  | t :: ts, acc, k => by
    unfold textFrom
    rw [tf_mid ts _ (k + 1), mid_c, sg_app, sg_app]
    have e0 : (if k + 1 > 0 then ", " else "" : String) = ", " := rfl
    rw [e0, sg_cs]
    simp only [List.append_assoc]
theorem listText_eq (ts : List Str) (acc : Str) : sg (textFrom 0 acc ts) = sg acc ++ sg (Str.join ", " ts) := by
  cases ts with
  | nil =>
    unfold textFrom
    rw [join_nil, sg_emp, List.append_nil]
  | cons t ts =>
    unfold textFrom
    rw [tf_mid, sg_joinc, sg_app, sg_app]
    have e0 : (if 0 > 0 then ", " else "" : String) = "" := rfl
    rw [e0, sg_e, List.append_nil, List.append_assoc]
theorem sg_list : ∀ (xs : List PyData), sg (PyData.list xs).shown = 91 :: (match xs with
    | [] => [93]
    | x :: r => sg x.shown ++ tlS 93 r)
  | [] => by
    simp only [PyData.shown, PyData.shownAll]
    unfold listText
    rw [sg_app, listText_eq, join_nil, sg_emp, sg_of, sg_of]
    rfl
  | x :: r => by
    simp only [PyData.shown]
    unfold listText
    have e1 : sg (Str.ofString "[") = [91] := by rw [sg_of]; rfl
    have e2 : sg (Str.ofString "]") = [93] := by rw [sg_of]; rfl
    rw [sg_app, listText_eq, e1, e2, List.append_assoc, join_tl 93 x r]
    rfl
theorem sg_tuple : ∀ (xs : List PyData), sg (PyData.tuple xs).shown = 40 :: (match xs with
    | [] => [41]
    | [x] => sg x.shown ++ [44, 41]
    | x :: y :: r => sg x.shown ++ tlS 41 (y :: r))
  | [] => by
    simp only [PyData.shown, PyData.shownAll]
    unfold tupleText
    have e2 : sg (Str.ofString (if (([] : List Str).length == 1) = true then ",)" else ")")) = [41] := by
      show sg (Str.ofString ")") = _
      rw [sg_of]; rfl
    rw [sg_app, sg_app, e2, join_nil, sg_emp, sg_of]
    rfl
  | [x] => by
    simp only [PyData.shown, PyData.shownAll]
    unfold tupleText
    have e2 : sg (Str.ofString (if (([x.shown] : List Str).length == 1) = true then ",)" else ")")) = [44, 41] := by
      show sg (Str.ofString ",)") = _
      rw [sg_of]; rfl
    rw [sg_app, sg_app, e2, join_one, sg_of]
    rfl
  | x :: y :: r => by
    simp only [PyData.shown]
    unfold tupleText
    have e1 : sg (Str.ofString "(") = [40] := by rw [sg_of]; rfl
    have hl : ((PyData.shownAll (x :: y :: r)).length == 1) = false := by simp [PyData.shownAll]
    have e2 : sg (Str.ofString (if false = true then ",)" else ")")) = [41] := by
      show sg (Str.ofString ")") = _
      rw [sg_of]; rfl
    rw [hl, sg_app, sg_app, e2, e1, List.append_assoc, join_tl 41 x (y :: r)]
    rfl
theorem sg_int (i : Int) : sg (PyData.int i).shown = sg (Str.ofString (toString i)) := by simp only [PyData.shown]
theorem hd_ne {i : Int} {n : Nat} {r s : List Nat} (hn : dgt n = false) (h : sg (Str.ofString (toString i)) ++ r = n :: s) : False := by
  cases e : sg (Str.ofString (toString i)) with
  | nil => exact int_ne i e
  | cons x xs =>
    rw [e] at h
    have hx := int_dgt i x (by rw [e]; simp)
    obtain ⟨rfl, _⟩ := List.cons.inj h
    rw [hn] at hx
    cases hx
theorem close_ne (x : PyData) (hx : itP x = true) {e : Nat} (he : dgt e = false) (h1 : decide (e = 91) = false) (h2 : decide (e = 40) = false) {r s : List Nat} (h : e :: s = sg x.shown ++ r) : False := by
  cases x with
  | int i =>
    rw [sg_int] at h
    exact hd_ne he h.symm
  | list l =>
    rw [sg_list] at h
    have := (List.cons.inj h).1
    subst this
    simp at h1
  | tuple l =>
    rw [sg_tuple] at h
    have := (List.cons.inj h).1
    subst this
    simp at h2
  | _ => simp [itP] at hx
mutual
theorem shown_one : ∀ (a b : PyData) {r s : List Nat}, itP a = true → itP b = true → Beh r → Beh s → sg a.shown ++ r = sg b.shown ++ s → a = b ∧ r = s
  | .int i, .int j, r, s, _, _, hr, hs, h => by
    rw [sg_int, sg_int] at h
    obtain ⟨e, er⟩ := span_eq (int_dgt i) (int_dgt j) hr hs h
    have := int_repr_inj (i := i) (j := j) (by
      rw [sg_of, sg_of] at e
      refine String.toList_inj.mp (List.map_inj_right (fun a b hab => ?_) |>.mp e)
      exact Char.toNat_inj.mp hab)
    subst this
    exact ⟨rfl, er⟩
  | .int i, .list ys, r, s, _, _, hr, hs, h => by
    rw [sg_int, sg_list] at h
    exact (hd_ne (by rfl) h).elim
  | .int i, .tuple ys, r, s, _, _, hr, hs, h => by
    rw [sg_int, sg_tuple] at h
    exact (hd_ne (by rfl) h).elim
  | .list xs, .int j, r, s, _, _, hr, hs, h => by
    rw [sg_int, sg_list] at h
    exact (hd_ne (by rfl) h.symm).elim
  | .tuple xs, .int j, r, s, _, _, hr, hs, h => by
    rw [sg_int, sg_tuple] at h
    exact (hd_ne (by rfl) h.symm).elim
  | .list xs, .tuple ys, r, s, _, _, hr, hs, h => by
    rw [sg_list, sg_tuple] at h
    have := (List.cons.inj h).1
    cases this
  | .tuple xs, .list ys, r, s, _, _, hr, hs, h => by
    rw [sg_list, sg_tuple] at h
    have := (List.cons.inj h).1
    cases this
  | .list xs, .list ys, r, s, ha, hb, hr, hs, h => by
    rw [sg_list, sg_list] at h
    have h := (List.cons.inj h).2
    cases xs with
    | nil =>
      cases ys with
      | nil => exact ⟨rfl, (List.cons.inj h).2⟩
      | cons y ys =>
        have hb := Bool.and_eq_true_iff.mp (show (itP y && itPs ys) = true from hb)
        exact (close_ne (e := 93) y hb.1 (by rfl) (by rfl) (by rfl) (r := tlS 93 ys ++ s) (by simpa using h)).elim
    | cons x xs =>
      have ha := Bool.and_eq_true_iff.mp (show (itP x && itPs xs) = true from ha)
      cases ys with
      | nil => exact (close_ne (e := 93) x ha.1 (by rfl) (by rfl) (by rfl) (r := tlS 93 xs ++ r) (by simpa using h.symm)).elim
      | cons y ys =>
        have hb := Bool.and_eq_true_iff.mp (show (itP y && itPs ys) = true from hb)
        have h2 : sg x.shown ++ (tlS 93 xs ++ r) = sg y.shown ++ (tlS 93 ys ++ s) := by simpa using h
        obtain ⟨rfl, h3⟩ := shown_one x y ha.1 hb.1 (tlS_beh (by rfl) xs r) (tlS_beh (by rfl) ys s) h2
        obtain ⟨rfl, rfl⟩ := shown_tl (by rfl) (by decide) xs ys ha.2 hb.2 hr hs h3
        exact ⟨rfl, rfl⟩
  | .tuple xs, .tuple ys, r, s, ha, hb, hr, hs, h => by
    rw [sg_tuple, sg_tuple] at h
    have h := (List.cons.inj h).2
    cases xs with
    | nil =>
      cases ys with
      | nil => exact ⟨rfl, (List.cons.inj h).2⟩
      | cons y ys =>
        have hb := Bool.and_eq_true_iff.mp (show (itP y && itPs ys) = true from hb)
        cases ys with
        | nil => exact (close_ne (e := 41) y hb.1 (by rfl) (by rfl) (by rfl) (r := [44, 41] ++ s) (by simpa using h)).elim
        | cons z zs => exact (close_ne (e := 41) y hb.1 (by rfl) (by rfl) (by rfl) (r := tlS 41 (z :: zs) ++ s) (by simpa using h)).elim
    | cons x xs =>
      have ha := Bool.and_eq_true_iff.mp (show (itP x && itPs xs) = true from ha)
      cases ys with
      | nil =>
        cases xs with
        | nil => exact (close_ne (e := 41) x ha.1 (by rfl) (by rfl) (by rfl) (r := [44, 41] ++ r) (by simpa using h.symm)).elim
        | cons z zs => exact (close_ne (e := 41) x ha.1 (by rfl) (by rfl) (by rfl) (r := tlS 41 (z :: zs) ++ r) (by simpa using h.symm)).elim
      | cons y ys =>
        have hb := Bool.and_eq_true_iff.mp (show (itP y && itPs ys) = true from hb)
        cases xs with
        | nil =>
          cases ys with
          | nil =>
            have h2 : sg x.shown ++ ([44, 41] ++ r) = sg y.shown ++ ([44, 41] ++ s) := by simpa using h
            obtain ⟨rfl, h3⟩ := shown_one x y ha.1 hb.1 (fun n hn => by simp at hn; subst hn; rfl) (fun n hn => by simp at hn; subst hn; rfl) h2
            exact ⟨rfl, by simpa using h3⟩
          | cons z zs =>
            have h2 : sg x.shown ++ ([44, 41] ++ r) = sg y.shown ++ (tlS 41 (z :: zs) ++ s) := by simpa using h
            obtain ⟨rfl, h3⟩ := shown_one x y ha.1 hb.1 (fun n hn => by simp at hn; subst hn; rfl) (tlS_beh (by rfl) _ _) h2
            simp [tlS] at h3
        | cons z zs =>
          cases ys with
          | nil =>
            have h2 : sg x.shown ++ (tlS 41 (z :: zs) ++ r) = sg y.shown ++ ([44, 41] ++ s) := by simpa using h
            obtain ⟨rfl, h3⟩ := shown_one x y ha.1 hb.1 (tlS_beh (by rfl) _ _) (fun n hn => by simp at hn; subst hn; rfl) h2
            simp [tlS] at h3
          | cons u us =>
            have h2 : sg x.shown ++ (tlS 41 (z :: zs) ++ r) = sg y.shown ++ (tlS 41 (u :: us) ++ s) := by simpa using h
            obtain ⟨rfl, h3⟩ := shown_one x y ha.1 hb.1 (tlS_beh (by rfl) _ _) (tlS_beh (by rfl) _ _) h2
            obtain ⟨e, rfl⟩ := shown_tl (by rfl) (by decide) _ _ ha.2 hb.2 hr hs h3
            rw [e]
            exact ⟨rfl, rfl⟩
  | .none, _, _, _, ha, _, _, _, _ => by simp [itP] at ha
  | .bool _, _, _, _, ha, _, _, _, _ => by simp [itP] at ha
  | .str _, _, _, _, ha, _, _, _, _ => by simp [itP] at ha
  | .dict _, _, _, _, ha, _, _, _, _ => by simp [itP] at ha
  | _, .none, _, _, _, ha, _, _, _ => by simp [itP] at ha
  | _, .bool _, _, _, _, ha, _, _, _ => by simp [itP] at ha
  | _, .str _, _, _, _, ha, _, _, _ => by simp [itP] at ha
  | _, .dict _, _, _, _, ha, _, _, _ => by simp [itP] at ha
theorem shown_tl {e : Nat} (he : dgt e = false) (h44 : e ≠ 44) : ∀ (xs ys : List PyData) {r s : List Nat}, itPs xs = true → itPs ys = true → Beh r → Beh s → tlS e xs ++ r = tlS e ys ++ s → xs = ys ∧ r = s
  | [], [], r, s, _, _, _, _, h => ⟨rfl, (List.cons.inj h).2⟩
  | [], y :: ys, r, s, _, _, _, _, h => absurd (List.cons.inj h).1 h44
  | x :: xs, [], r, s, _, _, _, _, h => absurd (List.cons.inj h).1.symm h44
  | x :: xs, y :: ys, r, s, ha, hb, hr, hs, h => by
    have ha := Bool.and_eq_true_iff.mp ha
    have hb := Bool.and_eq_true_iff.mp hb
    have h2 : sg x.shown ++ (tlS e xs ++ r) = sg y.shown ++ (tlS e ys ++ s) := by
      simpa [tlS] using h
    obtain ⟨rfl, h3⟩ := shown_one x y ha.1 hb.1 (tlS_beh he xs r) (tlS_beh he ys s) h2
    obtain ⟨rfl, rfl⟩ := shown_tl he h44 xs ys ha.2 hb.2 hr hs h3
    exact ⟨rfl, rfl⟩
end
theorem shown_inj {a b : PyData} (ha : itP a = true) (hb : itP b = true) (h : a.shown = b.shown) : a = b := (shown_one a b (r := []) (s := []) ha hb (fun n hn => by simp at hn) (fun n hn => by simp at hn) (by rw [h])).1
end Ph
end
section
set_option Elab.async false
set_option linter.all false
set_option maxRecDepth 100000
set_option exponentiation.threshold 200000
/-! k78, part a: == of halls and meetings, repr tells data apart, what is none. -/
namespace Ph
open PySem PySem.Spec PyProof.Rows L2
theorem seq_nx {f g : SS} {ρ ρ1 : En} {π π1 : Store} (h : f ρ π = .ok (.nx ρ1 π1)) : sSeq f g ρ π = g ρ1 π1 := by
  rw [sSeq_ap, h]
  rfl
/-! ### numbers, tuples, lists -/
mutual
def itD : D → Bool
  | .int _ => true
  | .tup l => itDs l
  | .lst l => itDs l
  | _ => false
def itDs : List D → Bool
  | [] => true
  | d :: l => itD d && itDs l
end
mutual
theorem it_itP : ∀ (d : D), itD d = true → itP d.toP = true
  | .int _, _ => rfl
  | .tup l, h => by
    show itPs (D.toPs l) = true
    exact it_itPs l (by simpa [itD] using h)
  | .lst l, h => by
    show itPs (D.toPs l) = true
    exact it_itPs l (by simpa [itD] using h)
  | .non, h | .bl _, h | .str _, h | .obj _ _, h | .dic, h | .ptup _, h | .ptr _, h | .fn _, h | .scr _, h => by simp [itD] at h
theorem it_itPs : ∀ (l : List D), itDs l = true → itPs (D.toPs l) = true
  | [], _ => rfl
  | d :: l, h => by
    have h := Bool.and_eq_true_iff.mp (show (itD d && itDs l) = true from h)
    show (itP d.toP && itPs (D.toPs l)) = true
    rw [it_itP d h.1, it_itPs l h.2]
    rfl
end
mutual
theorem deq_it : ∀ (a b : D), itD a = true → itD b = true → (deq a b = true ↔ a = b) ∧ (a.toP = b.toP ↔ a = b)
  | .int i, .int j, _, _ => by simp [deq, D.toP]
  | .int i, .tup m, _, _ => by simp [deq, D.toP]
  | .int i, .lst m, _, _ => by simp [deq, D.toP]
  | .tup l, .int j, _, _ => by simp [deq, D.toP]
  | .lst l, .int j, _, _ => by simp [deq, D.toP]
  | .tup l, .lst j, _, _ => by simp [deq, D.toP]
  | .lst l, .tup j, _, _ => by simp [deq, D.toP]
  | .tup l, .tup m, ha, hb => by
    have q := deq_its l m (by simpa [itD] using ha) (by simpa [itD] using hb)
    simp only [deq, D.toP, PyData.tuple.injEq, D.tup.injEq]
    exact q
  | .lst l, .lst m, ha, hb => by
    have q := deq_its l m (by simpa [itD] using ha) (by simpa [itD] using hb)
    simp only [deq, D.toP, PyData.list.injEq, D.lst.injEq]
    exact q
  | .non, _, h, _ | .bl _, _, h, _ | .str _, _, h, _ | .obj _ _, _, h, _ | .dic, _, h, _ | .ptup _, _, h, _ | .ptr _, _, h, _ | .fn _, _, h, _ | .scr _, _, h, _ => by simp [itD] at h
  | _, .non, _, h | _, .bl _, _, h | _, .str _, _, h | _, .obj _ _, _, h | _, .dic, _, h | _, .ptup _, _, h | _, .ptr _, _, h | _, .fn _, _, h | _, .scr _, _, h => by simp [itD] at h
theorem deq_its : ∀ (a b : List D), itDs a = true → itDs b = true → (deqL a b = true ↔ a = b) ∧ (D.toPs a = D.toPs b ↔ a = b)
  | [], [], _, _ => by simp [deqL]
  | [], y :: ys, _, _ => by simp [deqL, D.toPs]
  | x :: xs, [], _, _ => by simp [deqL, D.toPs]
  | x :: xs, y :: ys, ha, hb => by
    have ha := Bool.and_eq_true_iff.mp (show (itD x && itDs xs) = true from ha)
    have hb := Bool.and_eq_true_iff.mp (show (itD y && itDs ys) = true from hb)
    have q1 := deq_it x y ha.1 hb.1
    have q2 := deq_its xs ys ha.2 hb.2
    simp only [deqL, D.toPs, Bool.and_eq_true, List.cons.injEq, q1.1, q2.1, q1.2, q2.2, and_self]
end
theorem itDs_map {α : Type} {f : α → D} : ∀ {l : List α}, (∀ x ∈ l, itD (f x) = true) → itDs (l.map f) = true
  | [], _ => rfl
  | x :: l, h => by
    show (itD (f x) && itDs (l.map f)) = true
    rw [h x (by simp), itDs_map fun y hy => h y (List.mem_cons_of_mem _ hy)]
    rfl
theorem it_dL {l : Lot} : itD (dL l) = true := itDs_map fun _ _ => rfl
theorem it_dF {l : List Rat} : itD (dF l) = true := itDs_map fun _ _ => rfl
theorem it_dTs {ts : List Tel} : itD (dTs ts) = true := itDs_map fun t _ => itDs_map fun p _ => by
  show (itD (dL p.1) && (itD (dF p.2) && true)) = true
  rw [it_dL, it_dF]
  rfl
section
variable {h h2 : Hl} {can can0 l : Lot} {c c2 p x : Int} {np km kp kl ks : Nat} {π : Store} {a b : D} {d : Deed} {ds : List Deed} {past : List D} {ps : List Lot}
theorem dEq_f (ha : fits a 40 = true) (hb : fits b 40 = true) : dEq a b = some (.bl (deq a b)) := by
  unfold dEq
  rw [ha, hb]
  simp
theorem dNe_f (ha : fits a 40 = true) (hb : fits b 40 = true) : dNe a b = some (.bl (!deq a b)) := by
  unfold dNe
  rw [ha, hb]
  simp
theorem dNe_self (ha : fits a 40 = true) : dNe a a = some (.bl false) := by rw [dNe_f ha ha, deq_refl a 40 ha]; rfl
abbrev ledD (h : Hl) (c : Int) (ds : List Deed) : D := .tup [.int h.n, dTs h.ts, .int c, .tup (ds.map dD)]
theorem fits_led : fits (ledD h c ds) 40 = true := by
  show fitsL [.int h.n, dTs h.ts, .int c, .tup (ds.map dD)] 39 = true
  have f1 : fits (dTs h.ts) 39 = true := fits_dTs (n := 34)
  have f2 : fits (.tup (ds.map dD)) 39 = true := fits_ds (n := 36)
  simp only [fitsL, fits_i, f1, f2, Bool.and_self]
theorem s_meqG {km2 kp2 : Nat} {past2 : List D} {can2 : Lot} {ds2 : List Deed} (M : MtAt h c km kp ds can past π) (M2 : MtAt h2 c2 km2 kp2 ds2 can2 past2 π) : g_Meeting___eq__ [.ptr km, .ptr km2] π = .ok (.bl (deq (ledD h c ds) (ledD h2 c2 ds2)), π) := by
  have e1 : dIsC 1 [0] (.ptr km2) π = some (.bl true) := by simp [dIsC, clsD, M2.m]
  have e2 := dEq_f (a := ledD h c ds) (b := ledD h2 c2 ds2) fits_led fits_led
  simp [g_Meeting___eq__, gRun, sRun, ini, fs_Meeting___eq__, List.replicate, e1, s_led M, s_led M2, e2]
theorem s_meqH : g_Meeting___eq__ [.ptr km, dH h] π = .ok (.bl false, π) := by
  have e1 : dIsC 1 [0] (dH h) π = some (.bl false) := rfl
  simp [g_Meeting___eq__, gRun, sRun, ini, fs_Meeting___eq__, List.replicate, e1]
theorem s_meqN : g_Meeting___eq__ [.ptr km, .non] π = .ok (.bl false, π) := by
  have e1 : dIsC 1 [0] .non π = some (.bl false) := rfl
  simp [g_Meeting___eq__, gRun, sRun, ini, fs_Meeting___eq__, List.replicate, e1]
theorem s_parts : g_parts_of [dH h] π = .ok (dHL h, π) := by
  have e1 : dFld 0 0 (dH h) π = some (.int h.n) := rfl
  have e2 : dFld 0 1 (dH h) π = some (dTs h.ts) := rfl
  simp [g_parts_of, gRun, sRun, ini, fs_parts_of, List.replicate, e1, e2, dHL, fTup_s]
theorem fits_hl : fits (dHL h) 38 = true := by
  show fitsL [.int h.n, dTs h.ts] 37 = true
  have f1 : fits (dTs h.ts) 37 = true := fits_dTs (n := 32)
  simp only [fitsL, fits_i, f1, Bool.and_self]
theorem fits_hl' : fits (dHL h) 40 = true := by
  show fitsL [.int h.n, dTs h.ts] 39 = true
  have f1 : fits (dTs h.ts) 39 = true := fits_dTs (n := 34)
  simp only [fitsL, fits_i, f1, Bool.and_self]
theorem s_heq : g_Hall___eq__ [dH h, dH h] π = .ok (.bl true, π) := by
  have e1 : dIsC 0 [1] (dH h) π = some (.bl true) := rfl
  have e2 := dEq_self (d := dHL h) fits_hl'
  simp [g_Hall___eq__, gRun, sRun, ini, fs_Hall___eq__, List.replicate, e1, s_parts, e2]
/-- alike just where hall and case are shown alike -/
theorem led_shown : deq (ledD h2 c2 []) (ledD h c []) = decide ((D.lst [dHL h2, .int c2]).toP.shown = (D.lst [dHL h, .int c]).toP.shown) := by
  have i1 : ∀ (h : Hl) (c : Int), itD (ledD h c []) = true := fun h c => by
    show (true && (itD (dTs h.ts) && (true && (true && true)))) = true
    rw [it_dTs]; rfl
  have i2 : ∀ (h : Hl) (c : Int), itD (D.lst [dHL h, .int c]) = true := fun h c => by
    show ((true && (itD (dTs h.ts) && true)) && (true && true)) = true
    rw [it_dTs]; rfl
  rw [Bool.eq_iff_iff, decide_eq_true_eq, (deq_it _ _ (i1 h2 c2) (i1 h c)).1]
  have e : (D.lst [dHL h2, .int c2]).toP.shown = (D.lst [dHL h, .int c]).toP.shown ↔ D.lst [dHL h2, .int c2] = D.lst [dHL h, .int c] :=
    ⟨fun z => (deq_it _ _ (i2 h2 c2) (i2 h c)).2.mp (shown_inj (it_itP _ (i2 h2 c2)) (it_itP _ (i2 h c)) z), fun z => by rw [z]⟩
  rw [e]
  simp only [ledD, dHL, D.tup.injEq, D.lst.injEq, List.cons.injEq, D.int.injEq, and_true, List.map_nil]
  constructor
  · rintro ⟨h1, h2, h3⟩; exact ⟨⟨h1, h2⟩, h3⟩
  · rintro ⟨⟨h1, h2⟩, h3⟩; exact ⟨h1, h2, h3⟩
theorem fits_two : fits (D.lst [dHL h, .int c]) 40 = true := by
  show fitsL [dHL h, .int c] 39 = true
  have f1 : fits (dHL h) 39 = true := by
    show fitsL [.int h.n, dTs h.ts] 38 = true
    have f1 : fits (dTs h.ts) 38 = true := fits_dTs (n := 33)
    simp only [fitsL, fits_i, f1, Bool.and_self]
  simp only [fitsL, fits_i, f1, Bool.and_self]
/-! ### repr of a hall's parts -/
theorem sh_F {r : List Rat} (hs : ∀ a ∈ r, Sm 8 a) (hl : r.length ≤ 6) : Sh 18 2 (dF r) := by
  refine (sh_tup (n := 6) (k := 2) (j := 1) (fun d hd => ?_) (by simpa using hl)).mono (by decide) (by decide)
  obtain ⟨a, ha, rfl⟩ := List.mem_map.mp hd
  exact sh_fr ((hs a ha).mono (by decide))
theorem sh_P {n : Int} {q : Part} (h : PartOk n q) (hn : n ≤ 6) : Sh 38 3 (dP q) := by
  have h1 : Sh 18 2 (dL q.1) := by
    have hl : LotOk n q.1 := ⟨h.rng, h.asc⟩
    refine (sh_tup (n := 6) (k := 0) (j := 0) (fun d hd => ?_) (by simpa using hl.len hn)).mono (by decide) (by decide)
    obtain ⟨a, ha, rfl⟩ := List.mem_map.mp hd
    have := hl.rng a ha
    exact sh_int (small_nat this.1 (by omega))
  have h2 : Sh 18 2 (dF q.2) := sh_F h.sm (by
    have hl : LotOk n q.1 := ⟨h.rng, h.asc⟩
    have := hl.len hn
    have := h.len
    omega)
  exact sh_tup (n := 2) (k := 18) (j := 2) (fun d hd => by
    rcases List.mem_cons.mp hd with rfl | hd
    · exact h1
    · rcases List.mem_cons.mp hd with rfl | hd
      · exact h2
      · cases hd) (by simp)
end
end Ph
end
section
set_option Elab.async false
set_option linter.all false
set_option maxRecDepth 100000
set_option exponentiation.threshold 200000
/-! k78, part b: what is refused. -/
namespace Ph
open PySem PySem.Spec PyProof.Rows L2
mutual
theorem small_one : ∀ (a : PyData), itP a = true → ∀ n ∈ sg a.shown, n < 1000
  | .int i, _, n, hn => by
    rw [sg_int] at hn
    have := int_dgt i n hn
    simp [dgt] at this
    omega
  | .list [], _, n, hn => by
    rw [sg_list] at hn
    simp at hn
    omega
  | .list (x :: xs), h, n, hn => by
    have h := Bool.and_eq_true_iff.mp (show (itP x && itPs xs) = true from h)
    rw [sg_list] at hn
    have q1 := small_one x h.1 n
    have q2 := small_tl (e := 93) (by decide) xs h.2 n
    simp at hn
    rcases hn with rfl | hn | hn
    · decide
    · exact q1 hn
    · exact q2 hn
  | .tuple [], _, n, hn => by
    rw [sg_tuple] at hn
    simp at hn
    omega
  | .tuple [x], h, n, hn => by
    have h := Bool.and_eq_true_iff.mp (show (itP x && itPs []) = true from h)
    rw [sg_tuple] at hn
    have q1 := small_one x h.1 n
    simp at hn
    rcases hn with rfl | hn | rfl | rfl
    · decide
    · exact q1 hn
    · decide
    · decide
  | .tuple (x :: y :: xs), h, n, hn => by
    have h := Bool.and_eq_true_iff.mp (show (itP x && itPs (y :: xs)) = true from h)
    rw [sg_tuple] at hn
    have q1 := small_one x h.1 n
    have q2 := small_tl (e := 41) (by decide) (y :: xs) h.2 n
    simp at hn
    rcases hn with rfl | hn | hn
    · decide
    · exact q1 hn
    · exact q2 hn
  | .none, h, _, _ | .bool _, h, _, _ | .str _, h, _, _ | .dict _, h, _, _ => by simp [itP] at h
theorem small_tl {e : Nat} (he : e < 1000) : ∀ (l : List PyData), itPs l = true → ∀ n ∈ tlS e l, n < 1000
  | [], _, n, hn => by
    simp [tlS] at hn
    omega
  | x :: l, h, n, hn => by
    have h := Bool.and_eq_true_iff.mp (show (itP x && itPs l) = true from h)
    have q1 := small_one x h.1 n
    have q2 := small_tl he l h.2 n
    simp [tlS] at hn
    rcases hn with rfl | rfl | hn | hn
    · decide
    · decide
    · exact q1 hn
    · exact q2 hn
end
theorem strOk_sg {s : Str} (h : ∀ n ∈ sg s, n < 1000) : PyData.strOk s = true := by
  unfold PyData.strOk
  rw [Array.all_eq_true']
  intro n hn
  have := h n (by simpa [sg] using hn)
  simp
  omega
theorem ok_it {d : D} (h : itD d = true) : PyData.strOk d.toP.shown = true := strOk_sg (small_one _ (it_itP d h))
section
variable {h h2 : Hl} {can can0 l : Lot} {c c2 p x : Int} {np km kp kl ks : Nat} {π : Store} {a b : D} {d : D} {ds : List Deed} {past : List D} {ps : List Lot} {s : Str}
theorem sh_T {n : Int} {t : Tel} (h : TelOk n t) (hn : n ≤ 6) : Sh 234 4 (dT t) := by
  refine sh_tup (n := 6) (k := 38) (j := 3) (fun d hd => ?_) (by simpa using h.short)
  obtain ⟨q, hq, rfl⟩ := List.mem_map.mp hd
  exact sh_P (h.part q hq) hn
theorem sh_Ts (H : HlOk h) : Sh 705 5 (dTs h.ts) := by
  refine sh_tup (n := 3) (k := 234) (j := 4) (fun d hd => ?_) (by simpa using H.t3)
  obtain ⟨q, hq, rfl⟩ := List.mem_map.mp hd
  exact sh_T (H.tel q hq) H.n6
theorem sh_hl (H : HlOk h) : Sh 1412 6 (dHL h) := by
  refine sh_tup (n := 2) (k := 705) (j := 5) (fun d hd => ?_) (by simp)
  rcases List.mem_cons.mp hd with rfl | hd
  · have := H.n2
    have := H.n6
    exact (sh_int (small_nat (by omega) (by omega))).mono (by decide) (by decide)
  · rcases List.mem_cons.mp hd with rfl | hd
    · exact sh_Ts H
    · cases hd
theorem sh_two (H : HlOk h) (hc : IsC' h c) : Sh 2826 7 (.lst [dHL h, .int c]) := by
  refine sh_lst (n := 2) (k := 1412) (j := 6) (fun d hd => ?_) (by simp)
  rcases List.mem_cons.mp hd with rfl | hd
  · exact sh_hl H
  · rcases List.mem_cons.mp hd with rfl | hd
    · have := H.n6
      have := hc.1
      have := hc.2
      exact (sh_int (small_nat (by omega) (by omega))).mono (by decide) (by decide)
    · cases hd
theorem it_hl : itD (dHL h) = true := by
  show (true && (itD (dTs h.ts) && true)) = true
  rw [it_dTs]; rfl
/-! ### what is no hall -/
theorem s_no_hall (hd : dIsC 0 [1] d π = some (.bl false)) : g_check_hall [d] π = .xc 4 d π := by
  simp [g_check_hall, gRun, sRun, ini, fs_check_hall, List.replicate, hd]
theorem s_no_case (hd : plainD d = true) (hb : btw 0 (h.n - 1) d = false) : g_check_case [dH h, d] π = .xc 2 d π := by
  simp [g_check_case, gRun, sRun, ini, fs_check_case, List.replicate, s_is_case hd, hb]
theorem ref_hall (hd : ∀ π, dIsC 0 [1] d π = some (.bl false)) (hr : fRepr2 [d] = .ok (.str s)) : gw__law_refused (lamRun fb__law_right_1 1 [d] []) π = .ok (.lst [.str "hall", .str s, .bl true], π ++ [.ins 1 []]) := by
  have e1 : g_Meeting___init__ [.ptr π.length, d, .non] (π ++ [.ins 1 []]) = .xc 4 d (π ++ [.ins 1 []]) := by
    simp [g_Meeting___init__, gRun, sRun, ini, fs_Meeting___init__, List.replicate, s_no_hall (hd _)]
  have e2 : lamRun fb__law_right_1 1 [d] [] π = .xc 4 d (π ++ [.ins 1 []]) := by
    show fb__law_right_1 [some d] π = _
    simp [fb__law_right_1, eMake, e1]
  unfold gw__law_refused gTL
  rw [e2]
  simp [hx__law_refused_1, rLst, hr]
theorem ref_case (H : HlOk h) (hd : plainD d = true) (hb : btw 0 (h.n - 1) d = false) (hr : fRepr2 [d] = .ok (.str s)) : gw__law_refused (lamRun fb__law_right_2 2 [dH h, d] []) π = .ok (.lst [.str "number", .str s, .bl true], π ++ [.ins 1 []]) := by
  have e1 : g_Meeting___init__ [.ptr π.length, dH h, d] (π ++ [.ins 1 []]) = .xc 2 d (π ++ [.ins 1 []]) := by
    simp [g_Meeting___init__, gRun, sRun, ini, fs_Meeting___init__, List.replicate, s_check_hall, s_no_case hd hb]
  have e2 : lamRun fb__law_right_2 2 [dH h, d] [] π = .xc 2 d (π ++ [.ins 1 []]) := by
    show fb__law_right_2 [some (dH h), some d] π = _
    simp [fb__law_right_2, eMake, e1]
  unfold gw__law_refused gTL
  rw [e2]
  simp [hx__law_refused_1, rLst, hr]
theorem fits_ref {nm : Str} (h1 : PyData.strOk nm = true) (h2 : PyData.strOk s = true) : fits (.lst [.str nm, .str s, .bl true]) 40 = true := by
  show fitsL [.str nm, .str s, .bl true] 39 = true
  simp [fitsL, fits, h1, h2]
noncomputable def fbT : SS := (sIf (tB (eOp dNe (eCallLam0 1 q__law_right [14] (fun wds π => gw__law_refused (lamRun fb__law_right_1 1 wds []) π)) (eFn fLst (aCons (eC (.str "hall")) (aCons (eFn fRepr2 (aCons (eV 14) aNil)) (aCons (eC (.bl true)) aNil)))))) (sRet (eC (.bl false))) sNil)
noncomputable def fbU : SS := (sIf (tB (eOp dNe (eCallLam0 1 q__law_right [12, 13] (fun wds π => gw__law_refused (lamRun fb__law_right_2 2 wds []) π)) (eFn fLst (aCons (eC (.str "number")) (aCons (eFn fRepr (aCons (eV 13) aNil)) (aCons (eC (.bl true)) aNil)))))) (sRet (eC (.bl false))) sNil)
theorem tab_ok (h1 : π[1]? = some (.tab 1 q__law_right)) : tabOk 1 q__law_right π = .ok () := by
  unfold tabOk
  rw [h1]
  simp
theorem t_turn {ρ : En} (hg : gt ρ 14 = .ok d) (h1 : π[1]? = some (.tab 1 q__law_right)) (hd : ∀ π, dIsC 0 [1] d π = some (.bl false)) (hr : fRepr2 [d] = .ok (.str s)) (hs : PyData.strOk s = true) : fbT ρ π = .ok (.nx ρ (π ++ [.ins 1 []])) := by
  have e1 : (eCallLam0 1 q__law_right [14] (fun wds π => gw__law_refused (lamRun fb__law_right_1 1 wds []) π)) ρ π = .ok (.lst [.str "hall", .str s, .bl true], π ++ [.ins 1 []]) := by
    simp [eCallLam0, gts, hg, tab_ok h1, ref_hall hd hr, noX]
  have e2 := dNe_self (fits_ref (nm := "hall") (s := s) (by decide +kernel) hs)
  have e3 : ∀ {a b c : D}, fLst [a, b, c] = .ok (.lst [a, b, c]) := fun {a b c} => fLst_s (by simp)
  simp [fbT, e1, hg, hr, e2, e3]
theorem u_turn {ρ : En} (H : HlOk h) (hg : gt ρ 12 = .ok (dH h)) (hg2 : gt ρ 13 = .ok d) (h1 : π[1]? = some (.tab 1 q__law_right)) (hd : plainD d = true) (hb : btw 0 (h.n - 1) d = false) (hr : fRepr [d] = .ok (.str s)) (hs : PyData.strOk s = true) : fbU ρ π = .ok (.nx ρ (π ++ [.ins 1 []])) := by
  have hr2 : fRepr2 [d] = .ok (.str s) := by
    cases d with
    | dic => simp [fRepr, D.okP] at hr
    | _ => exact hr
  have e1 : (eCallLam0 1 q__law_right [12, 13] (fun wds π => gw__law_refused (lamRun fb__law_right_2 2 wds []) π)) ρ π = .ok (.lst [.str "number", .str s, .bl true], π ++ [.ins 1 []]) := by
    simp [eCallLam0, gts, hg, hg2, tab_ok h1, ref_case H hd hb hr2, noX]
  have e2 := dNe_self (fits_ref (nm := "number") (s := s) (by decide +kernel) hs)
  have e3 : ∀ {a b c : D}, fLst [a, b, c] = .ok (.lst [a, b, c]) := fun {a b c} => fLst_s (by simp)
  simp [fbU, e1, hg2, hr, e2, e3]
/-- a loop whose turns change nothing but that cells are added -/
theorem loop_add {i : Nat} {fb : SS} {I : Store → Prop} {ρ0 : En} (hI : ∀ π c, I π → I (π ++ [c])) : ∀ {xs : List D} {ρ : En} {π : Store}, (∃ v, ρ = ρ0.set i v) → I π → (∀ x ∈ xs, ∀ π, I π → ∃ c, fb (ρ0.set i (some x)) π = .ok (.nx (ρ0.set i (some x)) (π ++ [c]))) →
    ∃ v π', sLoop (gN i) fb xs ρ π = .ok (.nx (ρ0.set i v) π') ∧ I π'
  | [], ρ, π, ⟨v, e⟩, h0, _ => ⟨v, π, by rw [sLoop_nil, e], h0⟩
  | x :: xs, ρ, π, ⟨v, e⟩, h0, hh => by
    obtain ⟨c, e1⟩ := hh x List.mem_cons_self π h0
    obtain ⟨v', π', e2, h2⟩ := loop_add hI (xs := xs) (ρ := ρ0.set i (some x)) (π := π ++ [c]) ⟨_, rfl⟩ (hI _ _ h0) (fun y hy => hh y (List.mem_cons_of_mem _ hy))
    refine ⟨v', π', ?_, h2⟩
    unfold sLoop
    rw [gN_ap, e]
    simp only [Res.bind_ok, List.set_set, e1]
    exact e2
end
end Ph
end
section
set_option Elab.async false
set_option linter.all false
set_option maxRecDepth 100000
set_option exponentiation.threshold 200000
/-! k78, part c: two meetings led alike. -/
namespace Ph
open PySem PySem.Spec PyProof.Rows L2
structure W2 (np km kp kt kq : Nat) (h : Hl) (c : Int) (ds : List Deed) (can : Lot) (π : Store) : Prop where
  pool : PoolAt np π
  t0 : π[0]? = some (.tab 0 q_telling)
  t1 : π[1]? = some (.tab 1 q__law_right)
  n1 : 1 < np
  k1 : np < km
  k2 : np < kp
  k3 : np < kt
  k4 : np < kq
  d1 : km ≠ kt
  d2 : km ≠ kq
  d3 : kp ≠ kt
  d4 : kp ≠ kq
  mt : ∃ pa, MtAt h c km kp ds can pa π
  mt2 : ∃ pa, MtAt h c kt kq ds can pa π
theorem deqL_len : ∀ {a b : List D}, deqL a b = true → a.length = b.length
  | [], [], _ => rfl
  | [], _ :: _, h => by simp [deqL] at h
  | _ :: _, [], h => by simp [deqL] at h
  | x :: a, y :: b, h => by
    have h := Bool.and_eq_true_iff.mp (show (deq x y && deqL a b) = true from h)
    simp [deqL_len h.2]
theorem cut_m1 {l : List D} {x : D} : cutD (l ++ [x]) none (some (-1)) = l := by
  unfold cutD
  have e : HT.sIx (l ++ [x]).length (l ++ [x]).length (some (-1)) = l.length := by
    show (if (-1 : Int) < 0 then ((-1 : Int) + ((l ++ [x]).length : Int)).toNat else min ((-1 : Int)).toNat (l ++ [x]).length) = _
    rw [if_pos (by decide), List.length_append, List.length_singleton]
    omega
  rw [e, HT.sIx_none]
  simp
section
variable {h : Hl} {can lot : Lot} {c c2 p x : Int} {np km kp kt kq : Nat} {π : Store} {a b : D} {d : Deed} {ds : List Deed} {past : List D} {s : Str} {ρ : En}
theorem W2.fr (W : W2 np km kp kt kq h c ds can π) {π' : Store} (f : Fr np π π') : W2 np km kp kt kq h c ds can π' := by
  have := W.n1
  have := W.k1
  have := W.k2
  have := W.k3
  have := W.k4
  obtain ⟨pa, M⟩ := W.mt
  obtain ⟨pb, M2⟩ := W.mt2
  exact ⟨f.pool, f.get (by omega) W.t0, f.get (by omega) W.t1, W.n1, W.k1, W.k2, W.k3, W.k4, W.d1, W.d2, W.d3, W.d4, ⟨pa, M.fr f (by omega) (by omega)⟩, ⟨pb, M2.fr f (by omega) (by omega)⟩⟩
theorem led_ne : deq (ledD h c (ds ++ [d])) (ledD h c ds) = false := by
  rw [Bool.eq_false_iff]
  intro e
  have e : (deq (D.int h.n) (.int h.n) && (deq (dTs h.ts) (dTs h.ts) && (deq (D.int c) (.int c) && (deq (.tup ((ds ++ [d]).map dD)) (.tup (ds.map dD)) && true)))) = true := e
  simp only [Bool.and_eq_true] at e
  have := deqL_len (show deqL ((ds ++ [d]).map dD) (ds.map dD) = true from e.2.2.2.1)
  simp at this
theorem fits_told {l : Lot} : fits (toldD h can c l) 40 = true := by
  show fitsL [dL can, .lst ((rg h.ts.length).map fun p => dL (seesBy h can p c)), .lst ((rg h.ts.length).map fun p => fr (saysBy h can p c l))] 39 = true
  have f1 : fits (.lst ((rg h.ts.length).map fun p => dL (seesBy h can p c))) 39 = true := fitsL_map (n := 38) fun x _ => fits_L
  have f2 : fits (.lst ((rg h.ts.length).map fun p => fr (saysBy h can p c l))) 39 = true := fitsL_map (n := 38) fun x _ => fits_fr
  simp only [fitsL, f1, f2, fits_L (n := 38), Bool.and_self]
theorem eEqI_ok {c : Nat} {g : List D → Store → Res (D × Store)} {ea eb : SE} {x y : D} {z : Bool} {π1 π2 π3 : Store} (h1 : ea ρ π = .ok (x, π1)) (h2 : eb ρ π1 = .ok (y, π2)) (h3 : cls? c π2 x = .ok ()) (h4 : cls? c π2 y = .ok ()) (h5 : g [x, y] π2 = .ok (.bl z, π3)) : eEqI c g ea eb ρ π = .ok (.bl z, π3) := by
  simp [eEqI, h1, h2, h3, h4, h5]
theorem eNeI_ok {c : Nat} {g : List D → Store → Res (D × Store)} {ea eb : SE} {x y : D} {z : Bool} {π1 π2 π3 : Store} (h1 : ea ρ π = .ok (x, π1)) (h2 : eb ρ π1 = .ok (y, π2)) (h3 : cls? c π2 x = .ok ()) (h4 : cls? c π2 y = .ok ()) (h5 : g [x, y] π2 = .ok (.bl z, π3)) : eNeI c g ea eb ρ π = .ok (.bl (!z), π3) := by
  simp [eNeI, eEqI_ok h1 h2 h3 h4 h5]
abbrev mE (np km kt : Nat) (h : Hl) (c : Int) (lot : Lot) (u7 u8 u9 u10 u11 u13 u14 : Option D) : En := [some (.ptr np), some (dHL h), some (.int c), some (dL (rg h.n)), some (dL lot), some (.ptr km), some (.ptr kt), u7, u8, u9, u10, u11, some (dH h), u13, u14]
noncomputable def fbM : SS := (sSeq (sSet 11 (eCall g__law_deed (aCons (eV 0) (aCons (eV 1) (aCons (eV 2) aNil)))))
    (sIf (tB (eOp dEq (eCall g__law_barred (aCons (eV 5) (aCons (eV 11) aNil))) (eC (.str "")))) (sSeq (sIf (tOr (tB (eEqI 1 g_Meeting___eq__ (eV 5) (eV 6))) (tOr (tNot (tB (eNeI 1 g_Meeting___eq__ (eV 5) (eV 6)))) (tB (eOp dNe (eSl (eUnS (dFld 1 2) (eV 5)) oNone (oSome (eUn dNeg (eC (.int 1))))) (eUnS (dFld 1 2) (eV 6)))))) (sRet (eC (.bl false))) sNil)
    (sSeq (sExpr (eMeth 1 g_Meeting_do (eV 6) (aCons (eV 11) aNil)))
    (sIf (tOr (tNot (tB (eEqI 1 g_Meeting___eq__ (eV 5) (eV 6)))) (tB (eOp dNe (eCall g__law_told (aCons (eV 5) (aCons (eV 1) (aCons (eV 4) aNil)))) (eCall g__law_told (aCons (eV 6) (aCons (eV 1) (aCons (eV 4) aNil))))))) (sRet (eC (.bl false))) sNil))) sNil))
theorem dEq_ss {s t : Str} : dEq (.str s) (.str t) = some (.bl (decide (s = t))) := by
  have e : (s == t) = decide (s = t) := by rw [Bool.eq_iff_iff]; simp
  simp [dEq, bothS, deq, e]
theorem m_turn {u7 u8 u9 u10 u11 u13 u14 : Option D} (W : W2 np km kp kt kq h c ds can π) (H : HlOk h) (hlo : LotOk h.n lot) (hl : ds.length ≤ 100) :
    ∃ ds' can' u11' π', fbM (mE np km kt h c lot u7 u8 u9 u10 u11 u13 u14) π = .ok (.nx (mE np km kt h c lot u7 u8 u9 u10 u11' u13 u14) π') ∧ W2 np km kp kt kq h c ds' can' π' ∧ ds'.length ≤ ds.length + 1 := by
  have hc : IsC' h c := by
    obtain ⟨pa, M⟩ := W.mt
    exact M.isC
  obtain ⟨d, π1, e1, hd, f1⟩ := s_deed (π := π) W.pool H hc
  have W1 := W.fr f1.fr
  obtain ⟨pa, M⟩ := W1.mt
  obtain ⟨pb, N⟩ := W1.mt2
  have := W.n1
  have := W.k1
  have := W.k2
  have := W.k3
  have := W.k4
  have d1 := W.d1
  have d2 := W.d2
  have d3 := W.d3
  have d4 := W.d4
  have lk : ∀ {k : Nat} {x : Cell}, π1[k]? = some x → k < π1.length := fun h => (List.getElem?_eq_some_iff.mp h).1
  have lnp := W1.pool.lt
  obtain ⟨π2, e2, l2, k2, r2⟩ := s_barred M H hd (by omega)
  have base : ∀ {π' : Store}, π1.length ≤ π'.length → (∀ m, m ≠ km → m ≠ kp → m ≠ kt → m ≠ kq → m < π1.length → π'[m]? = π1[m]?) → PoolAt np π' ∧ π'[0]? = some (.tab 0 q_telling) ∧ π'[1]? = some (.tab 1 q__law_right) := fun l k => by
    refine ⟨?_, by rw [k 0 (by omega) (by omega) (by omega) (by omega) (by omega)]; exact W1.t0, by rw [k 1 (by omega) (by omega) (by omega) (by omega) (by omega)]; exact W1.t1⟩
    obtain ⟨x, y, z, q, r⟩ := W1.pool
    exact ⟨x, y, z, by rw [k np (by omega) (by omega) (by omega) (by omega) (by omega)]; exact q, r⟩
  have N2 : MtAt h c kt kq ds can pb π2 := N.keep (k2 kt (Ne.symm d1) (Ne.symm d3) (lk N.m)) (k2 kq (Ne.symm d2) (Ne.symm d4) (lk N.p))
  rcases r2 with ⟨hr, M2⟩ | ⟨hr, M2⟩
  · -- done
    have c5 := M2.cls
    have c6 := N2.cls
    have q1 := s_meqG M2 N2
    rw [led_ne] at q1
    have t1 := eEqI_ok (c := 1) (g := g_Meeting___eq__) (ea := eV 5) (eb := eV 6) (ρ := mE np km kt h c lot u7 u8 u9 u10 (some (dD d)) u13 u14) (π := π2) rfl rfl c5 c6 q1
    have t2 := eNeI_ok (c := 1) (g := g_Meeting___eq__) (ea := eV 5) (eb := eV 6) (ρ := mE np km kt h c lot u7 u8 u9 u10 (some (dD d)) u13 u14) (π := π2) rfl rfl c5 c6 q1
    have t3 : dNe (.tup (ds.map dD)) (.tup (ds.map dD)) = some (.bl false) := dNe_self (fits_ds (n := 37))
    have ec : cutD (ds.map dD ++ [dD d]) none (some (-1)) = ds.map dD := cut_m1
    have es : eSl (eUnS (dFld 1 2) (eV 5)) oNone (oSome (eUn dNeg (eC (.int 1)))) (mE np km kt h c lot u7 u8 u9 u10 (some (dD d)) u13 u14) π2 = .ok (.tup (ds.map dD), π2) := by
      simp [eSl_ap, M2.f2, dNeg, ec]
    have x1 : (sIf (tOr (tB (eEqI 1 g_Meeting___eq__ (eV 5) (eV 6))) (tOr (tNot (tB (eNeI 1 g_Meeting___eq__ (eV 5) (eV 6)))) (tB (eOp dNe (eSl (eUnS (dFld 1 2) (eV 5)) oNone (oSome (eUn dNeg (eC (.int 1))))) (eUnS (dFld 1 2) (eV 6)))))) (sRet (eC (.bl false))) sNil) (mE np km kt h c lot u7 u8 u9 u10 (some (dD d)) u13 u14) π2 = .ok (.nx (mE np km kt h c lot u7 u8 u9 u10 (some (dD d)) u13 u14) π2) := by
      simp only [sIf_ap, tOr_ap, tB_ap, tNot_ap, t1, t2, eOp_ap, es, eUnS_ap, eV_ap, gt_s, gt_0, Res.bind_ok, N2.f2, Res.of_some, t3, bl?_bl, Bool.not_false, Bool.not_true, Bool.false_eq_true, if_false, sNil_ap]
    obtain ⟨π3, l3, k3, r3⟩ := s_do N2 H hd (by omega)
    rcases r3 with ⟨_, e3, N3⟩ | ⟨z, _, _⟩
    case inr => exact absurd hr z
    have M3 : MtAt h c km kp (ds ++ [d]) (behindDeed h can c d) (pa ++ [dL can]) π3 := M2.keep (k3 km d1 d2 (by have := lk M.m; omega)) (k3 kp d3 d4 (by have := lk M.p; omega))
    have x2 : sExpr (eMeth 1 g_Meeting_do (eV 6) (aCons (eV 11) aNil)) (mE np km kt h c lot u7 u8 u9 u10 (some (dD d)) u13 u14) π2 = .ok (.nx (mE np km kt h c lot u7 u8 u9 u10 (some (dD d)) u13 u14) π3) := by
      simp [eMeth, c6, e3]
    have q2 := s_meq M3 N3
    have t4 := eEqI_ok (c := 1) (g := g_Meeting___eq__) (ea := eV 5) (eb := eV 6) (ρ := mE np km kt h c lot u7 u8 u9 u10 (some (dD d)) u13 u14) (π := π3) rfl rfl M3.cls N3.cls q2
    have t5 : dNe (toldD h (behindDeed h can c d) c lot) (toldD h (behindDeed h can c d) c lot) = some (.bl false) := dNe_self fits_told
    have x3 : (sIf (tOr (tNot (tB (eEqI 1 g_Meeting___eq__ (eV 5) (eV 6)))) (tB (eOp dNe (eCall g__law_told (aCons (eV 5) (aCons (eV 1) (aCons (eV 4) aNil)))) (eCall g__law_told (aCons (eV 6) (aCons (eV 1) (aCons (eV 4) aNil))))))) (sRet (eC (.bl false))) sNil) (mE np km kt h c lot u7 u8 u9 u10 (some (dD d)) u13 u14) π3 = .ok (.nx (mE np km kt h c lot u7 u8 u9 u10 (some (dD d)) u13 u14) π3) := by
      simp only [sIf_ap, tOr_ap, tB_ap, tNot_ap, t4, eOp_ap, eCall_ap, aCons_ap, aNil_ap, eV_ap, gt_s, gt_0, Res.bind_ok, s_told M3 H hlo, s_told N3 H hlo, Res.of_some, t5, bl?_bl, Bool.not_false, Bool.not_true, Bool.false_eq_true, if_false, sNil_ap]
    obtain ⟨b1, b2, b3⟩ := base (π' := π3) (by omega) (fun m m1 m2 m3 m4 m5 => by rw [k3 m m3 m4 (by omega), k2 m m1 m2 m5])
    refine ⟨ds ++ [d], behindDeed h can c d, some (dD d), π3, ?_, ⟨b1, b2, b3, W.n1, W.k1, W.k2, W.k3, W.k4, d1, d2, d3, d4, ⟨_, M3⟩, ⟨_, N3⟩⟩, by simp⟩
    rw [hr] at e2
    unfold fbM
    rw [seq_nx (show (sSet 11 (eCall g__law_deed (aCons (eV 0) (aCons (eV 1) (aCons (eV 2) aNil))))) (mE np km kt h c lot u7 u8 u9 u10 u11 u13 u14) π = .ok (.nx (mE np km kt h c lot u7 u8 u9 u10 (some (dD d)) u13 u14) π1) by simp [e1])]
    rw [sIf_ap]
    simp only [tB_ap, eOp_ap, eCall_ap, aCons_ap, aNil_ap, eV_ap, eC_ap, gt_s, gt_0, Res.bind_ok, e2, dEq_ss, Res.of_some, bl?_bl, decide_true, if_true]
    rw [seq_nx x1, seq_nx x2, x3]
  · obtain ⟨b1, b2, b3⟩ := base (π' := π2) (by omega) (fun m m1 m2 m3 m4 m5 => k2 m m1 m2 m5)
    refine ⟨ds, can, some (dD d), π2, ?_, ⟨b1, b2, b3, W.n1, W.k1, W.k2, W.k3, W.k4, d1, d2, d3, d4, ⟨_, M2⟩, ⟨_, N2⟩⟩, by omega⟩
    unfold fbM
    rw [seq_nx (show (sSet 11 (eCall g__law_deed (aCons (eV 0) (aCons (eV 1) (aCons (eV 2) aNil))))) (mE np km kt h c lot u7 u8 u9 u10 u11 u13 u14) π = .ok (.nx (mE np km kt h c lot u7 u8 u9 u10 (some (dD d)) u13 u14) π1) by simp [e1])]
    rw [sIf_ap]
    have hne : decide (reasonOf h can c d = Str.ofString "") = false := decide_eq_false hr
    simp only [tB_ap, eOp_ap, eCall_ap, aCons_ap, aNil_ap, eV_ap, eC_ap, gt_s, gt_0, Res.bind_ok, e2, dEq_ss, Res.of_some, bl?_bl, hne, Bool.false_eq_true, if_false, sNil_ap]
theorem m_loop {u7 u8 u9 u13 u14 : Option D} (H : HlOk h) (hlo : LotOk h.n lot) : ∀ {xs : List Int} {u10 u11 : Option D} {ds : List Deed} {can : Lot} {π : Store}, W2 np km kp kt kq h c ds can π → ds.length + xs.length ≤ 100 →
    ∃ ds' can' u10' u11' π', sLoop (gN 10) fbM (xs.map D.int) (mE np km kt h c lot u7 u8 u9 u10 u11 u13 u14) π = .ok (.nx (mE np km kt h c lot u7 u8 u9 u10' u11' u13 u14) π') ∧ W2 np km kp kt kq h c ds' can' π'
  | [], u10, u11, ds, can, π, W, _ => ⟨ds, can, u10, u11, π, rfl, W⟩
  | x :: xs, u10, u11, ds, can, π, W, hl => by
    have hl : ds.length + (xs.length + 1) ≤ 100 := hl
    obtain ⟨ds1, can1, v11, π1, e1, W1, l1⟩ := m_turn (u7 := u7) (u8 := u8) (u9 := u9) (u10 := some (.int x)) (u11 := u11) (u13 := u13) (u14 := u14) W H hlo (by omega)
    obtain ⟨ds', can', w10, w11, π', e2, W'⟩ := m_loop (u7 := u7) (u8 := u8) (u9 := u9) (u13 := u13) (u14 := u14) H hlo (xs := xs) (u10 := some (.int x)) (u11 := v11) W1 (by omega)
    refine ⟨ds', can', w10, w11, π', ?_, W'⟩
    rw [List.map_cons]
    unfold sLoop
    simp only [gN_ap, Res.bind_ok, List.set_cons_succ, List.set_cons_zero, e1]
    exact e2
end
end Ph
end
section
set_option Elab.async false
set_option linter.all false
set_option maxRecDepth 100000
set_option exponentiation.threshold 200000
/-! k78, part d: the law's turn. -/
namespace Ph
open PySem PySem.Spec PyProof.Rows L2
theorem fs_right_eq : fs__law_right = (sSeq (sAsg (gT3 1 2 3) (eCall g__law_begun (aCons (eV 0) aNil)))
    (sSeq (sAsg (gT2 12 4) (eFn fTup (aCons (eCall g__law_made (aCons (eV 1) aNil)) (aCons (eCall g__law_lot (aCons (eV 0) (aCons (eV 1) aNil))) aNil))))
    (sSeq (sPar 5 6 (aCons (eMake 1 g_Meeting___init__ (aCons (eV 12) (aCons (eV 2) aNil))) (aCons (eMake 1 g_Meeting___init__ (aPrm 2 [1, 0] (aCons (eV 2) (aCons (eCall g__law_made (aCons (eV 1) aNil)) aNil)))) aNil)))
    (sSeq (sSet 7 (eFn fLst (aCons (eCall g__law_told (aCons (eV 5) (aCons (eV 1) (aCons (eV 4) aNil)))) (aCons (eUnS (dFld 1 2) (eV 5)) (aCons (eUnS (dFld 1 1) (eV 5)) aNil)))))
    (sSeq (sIf (tB (eOp dNe (eFn fRepr (aCons (eV 7) aNil)) (eFn fRepr (aCons (eFn fLst (aCons (eCall g__law_due (aCons (eV 1) (aCons (eV 2) (aCons (eV 3) (aCons (eV 4) aNil))))) (aCons (eFn fTup aNil) (aCons (eV 2) aNil)))) aNil)))) (sRet (eC (.bl false))) sNil)
    (sSeq (sIf (tOr (tNot (tB (eEqI 0 g_Hall___eq__ (eUnS (dFld 1 0) (eV 5)) (eV 12)))) (tOr (tNot (tB (eEqI 1 g_Meeting___eq__ (eV 5) (eV 6)))) (tOr (tB (eNeI 1 g_Meeting___eq__ (eV 5) (eV 6))) (tOr (tB (eEqX 1 0 g_Meeting___eq__ (eV 5) (eV 12))) (tB (eEqN 1 g_Meeting___eq__ (eV 5))))))) (sRet (eC (.bl false))) sNil)
    (sSeq (sAsg (gT3 8 13 9) (eCall g__law_begun (aCons (eV 0) aNil)))
    (sSeq (sIf (tB (eOp dNe (eEqI 1 g_Meeting___eq__ (eMake 1 g_Meeting___init__ (aCons (eCall g__law_made (aCons (eV 8) aNil)) (aCons (eV 13) aNil))) (eV 5)) (eOp dEq (eFn fRepr (aCons (eFn fLst (aCons (eV 8) (aCons (eV 13) aNil))) aNil)) (eFn fRepr (aCons (eFn fLst (aCons (eV 1) (aCons (eV 2) aNil))) aNil))))) (sRet (eC (.bl false))) sNil)
    (sSeq (sFor (iR rng1 (aCons (eC (.int 6)) aNil)) (gN 10) fbM)
    (sSeq (sFor (iS (eFn fLst (aCons (eC .non) (aCons (eC (.int 5)) (aCons (eV 1) (aCons (eC (.str "hall")) (aCons eDic aNil))))))) (gN 14) fbT)
    (sSeq (sFor (iS (eFn fLst (aCons (eUn dNeg (eC (.int 1))) (aCons (eOp dIx (eV 1) (eC (.int 0))) (aCons (eC .non) (aCons (eC (.str "1")) (aCons (eC (.bl true)) (aCons (eFn fTup (aCons (eC (.int 1)) aNil)) aNil)))))))) (gN 13) fbU)
    (sRet (eAnd (eOp dEq (eUnS (dFld 0 0) (eV 12)) (eOp dIx (eV 1) (eC (.int 0)))) (eOp dEq (eUnS (dFld 0 1) (eV 12)) (eOp dIx (eV 1) (eC (.int 1))))))))))))))))) := rfl
section
variable {h : Hl} {can lot : Lot} {c c2 p x : Int} {np km kp kt kq : Nat} {π : Store} {a b : D} {d : Deed} {ds : List Deed} {past : List D} {s : Str} {ρ : En}
theorem dNe_sss {s : Str} : dNe (.str s) (.str s) = some (.bl false) := by
  simp [dNe, bothS, deq]
theorem sh_non : Sh 0 0 .non := ⟨rfl, rfl, rfl, Nat.le_refl _, by decide +kernel, by decide +kernel⟩
theorem sh_bl {b : Bool} : Sh 0 0 (.bl b) := by cases b <;> exact ⟨rfl, rfl, rfl, Nat.le_refl _, by decide +kernel, by decide +kernel⟩
theorem sh_hallS : Sh 10 0 (.str "hall") := ⟨rfl, rfl, rfl, Nat.le_refl _, by decide +kernel, by decide +kernel⟩
theorem sh_1S : Sh 10 0 (.str "1") := ⟨rfl, rfl, rfl, Nat.le_refl _, by decide +kernel, by decide +kernel⟩
theorem rep2 {d : D} (h : Sh 8000 100 d) : fRepr2 [d] = .ok (.str d.toP.shown) := by
  have q := s_repr h
  cases d with
  | dic => have := h.ok; simp [D.okP] at this
  | _ => exact q
theorem things (H : HlOk h) : ∀ d ∈ [D.non, .int 5, dHL h, .str "hall", .dic], ∃ s, fRepr2 [d] = .ok (.str s) ∧ PyData.strOk s = true ∧ ∀ π, dIsC 0 [1] d π = some (.bl false) := by
  intro d hd
  simp only [List.mem_cons, List.not_mem_nil, or_false] at hd
  rcases hd with rfl | rfl | rfl | rfl | rfl
  · exact ⟨_, rep2 (sh_non.mono (by decide) (by decide)), by decide +kernel, fun _ => rfl⟩
  · exact ⟨_, rep2 ((sh_int (by decide)).mono (by decide) (by decide)), ok_it rfl, fun _ => rfl⟩
  · exact ⟨_, rep2 ((sh_hl H).mono (by decide) (by decide)), ok_it it_hl, fun _ => rfl⟩
  · exact ⟨_, rep2 (sh_hallS.mono (by decide) (by decide)), by decide +kernel, fun _ => rfl⟩
  · exact ⟨"{}", rfl, by decide +kernel, fun _ => rfl⟩
theorem numbers (H : HlOk h) : ∀ d ∈ [D.int (-1), .int h.n, .non, .str "1", .bl true, .tup [.int 1]], ∃ s, fRepr [d] = .ok (.str s) ∧ PyData.strOk s = true ∧ plainD d = true ∧ btw 0 (h.n - 1) d = false := by
  intro d hd
  have := H.n2
  have := H.n6
  simp only [List.mem_cons, List.not_mem_nil, or_false] at hd
  rcases hd with rfl | rfl | rfl | rfl | rfl | rfl
  · exact ⟨_, s_repr ((sh_int (by decide)).mono (by decide) (by decide)), ok_it rfl, rfl, by simp [btw]⟩
  · exact ⟨_, s_repr ((sh_int (small_nat (by omega) (by omega))).mono (by decide) (by decide)), ok_it rfl, rfl, by simp [btw]; omega⟩
  · exact ⟨_, s_repr (sh_non.mono (by decide) (by decide)), by decide +kernel, rfl, rfl⟩
  · exact ⟨_, s_repr (sh_1S.mono (by decide) (by decide)), by decide +kernel, rfl, rfl⟩
  · exact ⟨_, s_repr (sh_bl.mono (by decide) (by decide)), by decide +kernel, rfl, rfl⟩
  · refine ⟨_, s_repr ((sh_tup (n := 1) (k := 0) (j := 0) (fun d hd => ?_) (by simp)).mono (by decide) (by decide)), ok_it rfl, rfl, rfl⟩
    rw [List.mem_singleton.mp hd]
    exact sh_int (by decide)
theorem prm2 {a b : D} : prm [1, 0] [a, b] = [b, a] := rfl
theorem s_right (hp : PoolAt np π) (h0 : π[0]? = some (.tab 0 q_telling)) (h1 : π[1]? = some (.tab 1 q__law_right)) (hn : 1 < np) : ∃ π', g__law_right [.ptr np] π = .ok (.bl true, π') ∧ π'[0]? = some (.tab 0 q_telling) ∧ π'[1]? = some (.tab 1 q__law_right) := by
  obtain ⟨h, c, π1, e1, H, hc, f1⟩ := s_begun hp
  have t01 := f1.get (by omega) h0
  have em := s_made (π := π1) t01 H
  have f1' := f1.trans (Fr.add f1.pool [.gone])
  obtain ⟨lot, π2, e2, hlo, f2⟩ := s_lot (π := π1 ++ [.gone]) f1'.pool H.toHlOk
  have f2' := f1'.trans f2.fr
  have i1 := s_meet_init (π := π2) H.toHlOk hc
  obtain ⟨π3, h3⟩ : ∃ π3, π3 = π2 ++ [mcell h c [] (rg h.n) (π2.length + 1), .lst []] := ⟨_, rfl⟩
  rw [← h3] at i1
  have f3 : Fr np π2 π3 := by rw [h3]; exact Fr.add f2'.pool _
  have em3 := s_made (π := π3) (f3.get (by omega) (f2'.get (by omega) h0)) H
  obtain ⟨π4, h4⟩ : ∃ π4, π4 = π3 ++ [Cell.gone] := ⟨_, rfl⟩
  rw [← h4] at em3
  have f4 : Fr np π3 π4 := by rw [h4]; exact Fr.add f3.pool _
  have i2 := s_meet_init (π := π4) H.toHlOk hc
  obtain ⟨π5, h5⟩ : ∃ π5, π5 = π4 ++ [mcell h c [] (rg h.n) (π4.length + 1), .lst []] := ⟨_, rfl⟩
  rw [← h5] at i2
  have f5 : Fr np π4 π5 := by rw [h5]; exact Fr.add f4.pool _
  have l2 := f2'.pool.lt
  have l3 : π3.length = π2.length + 2 := by rw [h3]; simp
  have l4 : π4.length = π3.length + 1 := by rw [h4]; simp
  have l5 : π5.length = π4.length + 2 := by rw [h5]; simp
  have M3 : MtAt h c π2.length (π2.length + 1) [] (rg h.n) [] π3 := by
    rw [h3]
    exact ⟨get2_0, get2_1, by omega, fun _ z => (nomatch z), rg_ok, mem_rg.mpr hc, Nat.le_refl _⟩
  have M5 : MtAt h c π2.length (π2.length + 1) [] (rg h.n) [] π5 := (M3.fr f4 (by omega) (by omega)).fr f5 (by omega) (by omega)
  have N5 : MtAt h c π4.length (π4.length + 1) [] (rg h.n) [] π5 := by
    rw [h5]
    exact ⟨get2_0, get2_1, by omega, fun _ z => (nomatch z), rg_ok, mem_rg.mpr hc, Nat.le_refl _⟩
  obtain ⟨km, hkm⟩ : ∃ km, km = π2.length := ⟨_, rfl⟩
  obtain ⟨kt, hkt⟩ : ∃ kt, kt = π4.length := ⟨_, rfl⟩
  rw [← hkm] at M5
  rw [← hkt] at N5
  have f15 := ((f2'.trans f3).trans f4).trans f5
  -- 1 to 3
  have st1 : (sAsg (gT3 1 2 3) (eCall g__law_begun (aCons (eV 0) aNil))) [some (.ptr np), none, none, none, none, none, none, none, none, none, none, none, none, none, none] π = .ok (.nx [some (.ptr np), some (dHL h), some (.int c), some (dL (rg h.n)), none, none, none, none, none, none, none, none, none, none, none] π1) := by
    simp [e1, gT3]
  have y2 : ∀ {a b : D}, fTup [a, b] = .ok (.tup [a, b]) := fun {a b} => fTup_s (by simp)
  have st2 : (sAsg (gT2 12 4) (eFn fTup (aCons (eCall g__law_made (aCons (eV 1) aNil)) (aCons (eCall g__law_lot (aCons (eV 0) (aCons (eV 1) aNil))) aNil)))) [some (.ptr np), some (dHL h), some (.int c), some (dL (rg h.n)), none, none, none, none, none, none, none, none, none, none, none] π1 = .ok (.nx [some (.ptr np), some (dHL h), some (.int c), some (dL (rg h.n)), some (dL lot), none, none, none, none, none, none, none, some (dH h), none, none] π2) := by
    simp [em, e2, y2]
  have st3 : (sPar 5 6 (aCons (eMake 1 g_Meeting___init__ (aCons (eV 12) (aCons (eV 2) aNil))) (aCons (eMake 1 g_Meeting___init__ (aPrm 2 [1, 0] (aCons (eV 2) (aCons (eCall g__law_made (aCons (eV 1) aNil)) aNil)))) aNil))) [some (.ptr np), some (dHL h), some (.int c), some (dL (rg h.n)), some (dL lot), none, none, none, none, none, none, none, some (dH h), none, none] π2 = .ok (.nx (mE np km kt h c lot none none none none none none none) π5) := by
    simp only [sPar_ap, aCons_ap, aNil_ap, eMake, aPrm, eV_ap, gt_s, gt_0, eCall_ap, Res.bind_ok, i1, non?_non, em3, List.length_cons, List.length_nil, Nat.zero_add, Nat.reduceAdd, if_true, prm2, i2, List.set_cons_succ, List.set_cons_zero, hkm, hkt]
  -- 4, 5
  have z3 : ∀ {a b c : D}, fLst [a, b, c] = .ok (.lst [a, b, c]) := fun {a b c} => fLst_s (by simp)
  have z2 : ∀ {a b : D}, fLst [a, b] = .ok (.lst [a, b]) := fun {a b} => fLst_s (by simp)
  have z0 : fTup [] = .ok (.tup []) := fTup_s (by simp)
  have tl := s_told M5 H.toHlOk hlo
  obtain ⟨tD, htD⟩ : ∃ tD, tD = D.lst [toldD h (rg h.n) c lot, .tup [], .int c] := ⟨_, rfl⟩
  have mf2 := M5.f2
  have mf1 := M5.f1
  have st4 : (sSet 7 (eFn fLst (aCons (eCall g__law_told (aCons (eV 5) (aCons (eV 1) (aCons (eV 4) aNil)))) (aCons (eUnS (dFld 1 2) (eV 5)) (aCons (eUnS (dFld 1 1) (eV 5)) aNil))))) (mE np km kt h c lot none none none none none none none) π5 = .ok (.nx (mE np km kt h c lot (some tD) none none none none none none) π5) := by
    simp [tl, mf2, mf1, z3, htD]
  have ld := s_ldue (π := π5) (lot := lot) H.toHlOk rg_ok (mem_rg.mpr hc)
  have hsh : Sh 8000 100 tD := by
    rw [htD]
    refine (sh_lst (n := 3) (k := 66) (j := 3) (fun d hd => ?_) (by simp)).mono (by decide) (by decide)
    simp only [List.mem_cons, List.not_mem_nil, or_false] at hd
    rcases hd with rfl | rfl | rfl
    · exact sh_told H.toHlOk hc rg_ok
    · exact (sh_tup (n := 0) (k := 0) (j := 0) (fun d hd => by cases hd) (by simp)).mono (by decide) (by decide)
    · have := H.n6
      have := hc.1
      have := hc.2
      exact (sh_int (small_nat (by omega) (by omega))).mono (by decide) (by decide)
  have rt := s_repr hsh
  have st5 : (sIf (tB (eOp dNe (eFn fRepr (aCons (eV 7) aNil)) (eFn fRepr (aCons (eFn fLst (aCons (eCall g__law_due (aCons (eV 1) (aCons (eV 2) (aCons (eV 3) (aCons (eV 4) aNil))))) (aCons (eFn fTup aNil) (aCons (eV 2) aNil)))) aNil)))) (sRet (eC (.bl false))) sNil) (mE np km kt h c lot (some tD) none none none none none none) π5 = .ok (.nx (mE np km kt h c lot (some tD) none none none none none none) π5) := by
    simp only [sIf_ap, tB_ap, eOp_ap, eFn_ap, aCons_ap, aNil_ap, eV_ap, gt_s, gt_0, Res.bind_ok, rt, Res.at_ok, eCall_ap, ld, z0, z3, ← htD, dNe_sss, Res.of_some, bl?_bl, Bool.false_eq_true, if_false, sNil_ap]
  -- 6
  have st6 : (sIf (tOr (tNot (tB (eEqI 0 g_Hall___eq__ (eUnS (dFld 1 0) (eV 5)) (eV 12)))) (tOr (tNot (tB (eEqI 1 g_Meeting___eq__ (eV 5) (eV 6)))) (tOr (tB (eNeI 1 g_Meeting___eq__ (eV 5) (eV 6))) (tOr (tB (eEqX 1 0 g_Meeting___eq__ (eV 5) (eV 12))) (tB (eEqN 1 g_Meeting___eq__ (eV 5))))))) (sRet (eC (.bl false))) sNil) (mE np km kt h c lot (some tD) none none none none none none) π5 = .ok (.nx (mE np km kt h c lot (some tD) none none none none none none) π5) := by
    have a1 := eEqI_ok (c := 0) (g := g_Hall___eq__) (ea := eUnS (dFld 1 0) (eV 5)) (eb := eV 12) (ρ := mE np km kt h c lot (some tD) none none none none none none) (π := π5) (x := dH h) (y := dH h) (by simp [M5.f0]) rfl rfl rfl (s_heq (h := h) (π := π5))
    have a2 := eEqI_ok (c := 1) (g := g_Meeting___eq__) (ea := eV 5) (eb := eV 6) (ρ := mE np km kt h c lot (some tD) none none none none none none) (π := π5) rfl rfl M5.cls N5.cls (s_meq M5 N5)
    have a3 := eNeI_ok (c := 1) (g := g_Meeting___eq__) (ea := eV 5) (eb := eV 6) (ρ := mE np km kt h c lot (some tD) none none none none none none) (π := π5) rfl rfl M5.cls N5.cls (s_meq M5 N5)
    have a4 : eEqX 1 0 g_Meeting___eq__ (eV 5) (eV 12) (mE np km kt h c lot (some tD) none none none none none none) π5 = .ok (.bl false, π5) := by
      have c0 : cls? 0 π5 (dH h) = .ok () := rfl
      simp [eEqX, M5.cls, c0, s_meqH]
    have a5 : eEqN 1 g_Meeting___eq__ (eV 5) (mE np km kt h c lot (some tD) none none none none none none) π5 = .ok (.bl false, π5) := by
      simp [eEqN, M5.cls, s_meqN]
    simp only [sIf_ap, tOr_ap, tB_ap, tNot_ap, a1, a2, a3, a4, a5, Res.bind_ok, bl?_bl, Bool.not_true, Bool.false_eq_true, if_false, sNil_ap]
  -- 7, 8
  obtain ⟨h2, c2, π6, e6, H2, hc2, f6⟩ := s_begun (π := π5) f15.pool
  have em7 := s_made (π := π6) (f6.get (by omega) (f15.get (by omega) h0)) H2
  have f7 := Fr.add f6.pool [Cell.gone]
  have i3 := s_meet_init (π := π6 ++ [.gone]) H2.toHlOk hc2
  obtain ⟨π8, h8⟩ : ∃ π8, π8 = π6 ++ [Cell.gone] ++ [mcell h2 c2 [] (rg h2.n) ((π6 ++ [Cell.gone]).length + 1), .lst []] := ⟨_, rfl⟩
  rw [← h8] at i3
  have f8 : Fr np (π6 ++ [Cell.gone]) π8 := by rw [h8]; exact Fr.add f7.pool _
  have f58 := (f6.trans f7).trans f8
  have M8 := M5.fr f58 (by omega) (by omega)
  have N8 := N5.fr f58 (by omega) (by omega)
  have O8 : MtAt h2 c2 (π6 ++ [Cell.gone]).length ((π6 ++ [Cell.gone]).length + 1) [] (rg h2.n) [] π8 := by
    rw [h8]
    exact ⟨get2_0, get2_1, by omega, fun _ z => (nomatch z), rg_ok, mem_rg.mpr hc2, Nat.le_refl _⟩
  have st7 : (sAsg (gT3 8 13 9) (eCall g__law_begun (aCons (eV 0) aNil))) (mE np km kt h c lot (some tD) none none none none none none) π5 = .ok (.nx (mE np km kt h c lot (some tD) (some (dHL h2)) (some (dL (rg h2.n))) none none (some (.int c2)) none) π6) := by
    simp [e6, gT3]
  have st8 : (sIf (tB (eOp dNe (eEqI 1 g_Meeting___eq__ (eMake 1 g_Meeting___init__ (aCons (eCall g__law_made (aCons (eV 8) aNil)) (aCons (eV 13) aNil))) (eV 5)) (eOp dEq (eFn fRepr (aCons (eFn fLst (aCons (eV 8) (aCons (eV 13) aNil))) aNil)) (eFn fRepr (aCons (eFn fLst (aCons (eV 1) (aCons (eV 2) aNil))) aNil))))) (sRet (eC (.bl false))) sNil) (mE np km kt h c lot (some tD) (some (dHL h2)) (some (dL (rg h2.n))) none none (some (.int c2)) none) π6 = .ok (.nx (mE np km kt h c lot (some tD) (some (dHL h2)) (some (dL (rg h2.n))) none none (some (.int c2)) none) π8) := by
    have mk : (eMake 1 g_Meeting___init__ (aCons (eCall g__law_made (aCons (eV 8) aNil)) (aCons (eV 13) aNil))) (mE np km kt h c lot (some tD) (some (dHL h2)) (some (dL (rg h2.n))) none none (some (.int c2)) none) π6 = .ok (.ptr (π6 ++ [Cell.gone]).length, π8) := by
      simp only [eMake, aCons_ap, aNil_ap, eCall_ap, eV_ap, gt_s, gt_0, Res.bind_ok, em7, i3, non?_non]
    have q := s_meqG O8 M8
    rw [led_shown] at q
    have a1 := eEqI_ok (c := 1) (g := g_Meeting___eq__) (eb := eV 5) mk rfl O8.cls M8.cls q
    have r1 := s_repr ((sh_two H2.toHlOk hc2).mono (by decide) (by decide))
    have r2 := s_repr ((sh_two H.toHlOk hc).mono (by decide) (by decide))
    have nb : ∀ {b : Bool}, dNe (.bl b) (.bl b) = some (.bl false) := fun {b} => dNe_self (by simp)
    simp only [sIf_ap, tB_ap, eOp_ap, a1, eFn_ap, aCons_ap, aNil_ap, eV_ap, gt_s, gt_0, Res.bind_ok, z2, Res.at_ok, r1, r2, dEq_ss, Res.of_some, nb, bl?_bl, Bool.false_eq_true, if_false, sNil_ap]
  -- 9
  have f18 := f15.trans f58
  have W8 : W2 np km (km + 1) kt (kt + 1) h c [] (rg h.n) π8 := ⟨f18.pool, f18.get (by omega) h0, f18.get (by omega) h1, hn, by omega, by omega, by omega, by omega, by omega, by omega, by omega, by omega, ⟨_, by rw [hkm] at M8 ⊢; exact M8⟩, ⟨_, by rw [hkt] at N8 ⊢; exact N8⟩⟩
  obtain ⟨ds', can', u10, u11, π9, e9, W9⟩ := m_loop (u7 := some tD) (u8 := some (dHL h2)) (u9 := some (dL (rg h2.n))) (u13 := some (.int c2)) (u14 := none) (u10 := none) (u11 := none) H.toHlOk hlo (xs := rg 6) W8 (by simp [rg_len])
  have st9 : sFor (iR rng1 (aCons (eC (.int 6)) aNil)) (gN 10) fbM (mE np km kt h c lot (some tD) (some (dHL h2)) (some (dL (rg h2.n))) none none (some (.int c2)) none) π8 = .ok (.nx (mE np km kt h c lot (some tD) (some (dHL h2)) (some (dL (rg h2.n))) u10 u11 (some (.int c2)) none) π9) := by
    rw [sFor_ap]
    simp only [iR_ap, aCons_ap, aNil_ap, eC_ap, Res.bind_ok, rng1_i (n := 6) (by decide) (by decide)]
    exact e9
  -- 10
  obtain ⟨I, hIdef⟩ : ∃ I : Store → Prop, I = fun π => π[0]? = some (.tab 0 q_telling) ∧ π[1]? = some (.tab 1 q__law_right) := ⟨_, rfl⟩
  have hI : ∀ π c, I π → I (π ++ [c]) := fun π c z => by
    rw [hIdef] at z ⊢
    exact ⟨by rw [List.getElem?_append_left (List.getElem?_eq_some_iff.mp z.1).1]; exact z.1, by rw [List.getElem?_append_left (List.getElem?_eq_some_iff.mp z.2).1]; exact z.2⟩
  have I9 : I π9 := by rw [hIdef]; exact ⟨W9.t0, W9.t1⟩
  obtain ⟨v14, π10, e10, I10⟩ := loop_add (i := 14) (fb := fbT) (ρ0 := mE np km kt h c lot (some tD) (some (dHL h2)) (some (dL (rg h2.n))) u10 u11 (some (.int c2)) none) hI (xs := [D.non, .int 5, dHL h, .str "hall", .dic]) ⟨none, rfl⟩ I9 (fun d hd π z => by
    obtain ⟨s, r1, r2, r3⟩ := things H.toHlOk d hd
    rw [hIdef] at z
    exact ⟨_, t_turn (d := d) (by simp) z.2 r3 r1 r2⟩)
  have z5 : ∀ {a b c d e : D}, fLst [a, b, c, d, e] = .ok (.lst [a, b, c, d, e]) := fun {a b c d e} => fLst_s (by simp)
  have z6 : ∀ {a b c d e f : D}, fLst [a, b, c, d, e, f] = .ok (.lst [a, b, c, d, e, f]) := fun {a b c d e f} => fLst_s (by simp)
  have y1 : ∀ {a : D}, fTup [a] = .ok (.tup [a]) := fun {a} => fTup_s (by simp)
  have st10 : sFor (iS (eFn fLst (aCons (eC .non) (aCons (eC (.int 5)) (aCons (eV 1) (aCons (eC (.str "hall")) (aCons eDic aNil))))))) (gN 14) fbT (mE np km kt h c lot (some tD) (some (dHL h2)) (some (dL (rg h2.n))) u10 u11 (some (.int c2)) none) π9 = .ok (.nx (mE np km kt h c lot (some tD) (some (dHL h2)) (some (dL (rg h2.n))) u10 u11 (some (.int c2)) v14) π10) := by
    rw [sFor_ap]
    simp only [iS_ap, eFn_ap, aCons_ap, aNil_ap, eC_ap, eV_ap, gt_s, gt_0, eDic_ap, Res.bind_ok, z5, Res.at_ok, seq?]
    exact e10
  obtain ⟨v13, π11, e11, I11⟩ := loop_add (i := 13) (fb := fbU) (ρ0 := mE np km kt h c lot (some tD) (some (dHL h2)) (some (dL (rg h2.n))) u10 u11 (some (.int c2)) v14) hI (xs := [D.int (-1), .int h.n, .non, .str "1", .bl true, .tup [.int 1]]) ⟨some (.int c2), rfl⟩ I10 (fun d hd π z => by
    obtain ⟨s, r1, r2, r3, r4⟩ := numbers H.toHlOk d hd
    rw [hIdef] at z
    exact ⟨_, u_turn (d := d) H.toHlOk (by simp) (by simp) z.2 r3 r4 r1 r2⟩)
  have st11 : sFor (iS (eFn fLst (aCons (eUn dNeg (eC (.int 1))) (aCons (eOp dIx (eV 1) (eC (.int 0))) (aCons (eC .non) (aCons (eC (.str "1")) (aCons (eC (.bl true)) (aCons (eFn fTup (aCons (eC (.int 1)) aNil)) aNil)))))))) (gN 13) fbU (mE np km kt h c lot (some tD) (some (dHL h2)) (some (dL (rg h2.n))) u10 u11 (some (.int c2)) v14) π10 = .ok (.nx (mE np km kt h c lot (some tD) (some (dHL h2)) (some (dL (rg h2.n))) u10 u11 v13 v14) π11) := by
    rw [sFor_ap]
    have dn : dNeg (.int 1) = some (.int (-1)) := rfl
    simp only [iS_ap, eFn_ap, aCons_ap, aNil_ap, eC_ap, eV_ap, gt_s, gt_0, eUn_ap, dn, eOp_ap, hl_0, Res.of_some, Res.bind_ok, y1, z6, Res.at_ok, seq?]
    exact e11
  rw [hIdef] at I11
  refine ⟨π11, ?_, I11.1, I11.2⟩
  simp only [g__law_right, gRun, sRun, ini, fs_right_eq, List.length_cons, List.length_nil, if_true, List.map_cons, List.map_nil, List.replicate, Nat.reduceSub, Nat.reduceAdd, List.cons_append, List.nil_append]
  rw [seq_nx st1, seq_nx st2, seq_nx st3, seq_nx st4, seq_nx st5, seq_nx st6, seq_nx st7, seq_nx st8, seq_nx st9, seq_nx st10, seq_nx st11]
  have q1 : dFld 0 0 (dH h) π11 = some (.int h.n) := rfl
  have q2 : dFld 0 1 (dH h) π11 = some (dTs h.ts) := rfl
  have q3 := dEq_self (d := dTs h.ts) (fits_dTs (n := 35))
  simp [q1, q2, hl_0, hl_1, q3]
end
end Ph
end
section
set_option Elab.async false
set_option linter.all false
set_option maxRecDepth 100000
set_option exponentiation.threshold 200000
/-! Plain law, part s: the pool of a number; the law. -/
namespace Ph
open PySem PySem.Spec PyProof.Rows L2
section
variable {x y t : Int} {np : Nat} {π : Store} {ns : List Int} {u4 : Option D}
noncomputable def fbP : SS := (sSet 3 (eOp dMod (eFn fInt (aCons (eOp dAdd (eOp dAdd (eOp dMul (eV 3) (eC (.int 48271))) (eOp dMod (eFn fInt (aCons (eV 4) aNil)) (eC (.int 2147482937)))) (eC (.int 43))) aNil)) (eC (.int 2147482937))))
theorem fInt_i : fInt [.int x] = .ok (.int x) := rfl
theorem pool_turn' {a : D} {n : Int} : fbP [some a, some (.int t), some (.int y), some (.int x), some (.int n)] π = .ok (.nx [some a, some (.int t), some (.int y), some (.int ((x * 48271 + n % 2147482937 + 43) % 2147482937)), some (.int n)] π) := by
  have e1 : dMul (.int x) (.int 48271) = some (.int (x * 48271)) := dMul_i (wideM_r (by decide))
  simp [fbP, e1, fInt_i, dMod_i]
theorem pool_loop {a : D} : ∀ {ns : List Int} {x : Int} {u4 : Option D}, ∃ x' v4, sLoop (gN 4) fbP (ns.map D.int) [some a, some (.int t), some (.int y), some (.int x), u4] π = .ok (.nx [some a, some (.int t), some (.int y), some (.int x'), v4] π)
  | [], x, u4 => ⟨x, u4, rfl⟩
  | n :: ns, x, u4 => by
    have e1 := pool_turn' (a := a) (x := x) (y := y) (t := t) (n := n) (π := π)
    obtain ⟨x', v4, e2⟩ := pool_loop (a := a) (ns := ns) (x := (x * 48271 + n % 2147482937 + 43) % 2147482937) (u4 := some (.int n))
    refine ⟨x', v4, ?_⟩
    rw [List.map_cons]
    unfold sLoop
    simp only [gN_ap, Res.bind_ok, List.set_cons_succ, List.set_cons_zero, e1]
    exact e2
theorem fs_pool_eq : fs__law_pool = (sSeq (sPar 2 3 (aCons (eIf (tB (eOp dLt (eV 1) (eFn fLen (aCons (eV 0) aNil)))) (eFn fInt (aCons (eOp dIx (eV 0) (eV 1)) aNil)) (eOp dAdd (eOp dMul (eC (.int 70001)) (eV 1)) (eC (.int 89)))) (aCons (eOp dAdd (eC (.int 60013)) (eOp dMul (eC (.int 5003)) (eV 1))) aNil)))
    (sSeq (sFor (iL (eSl (eV 0) oNone (oSome (eC (.int 6))))) (gN 4) fbP)
    (sRet (eNewL (aCons (eOp dMod (eFn fInt (aCons (eOp dAdd (eV 3) (eOp dMul (eV 2) (eC (.int 1033)))) aNil)) (eC (.int 2147482937))) (aCons (eIf (tOr (tB (eOp dLt (eV 2) (eC (.int 0)))) (tB (eOp dGe (eV 2) (eOp dPow (eC (.int 10)) (eC (.int 18)))))) (eFn fAbs (aCons (eV 2) aNil)) (eC (.int 0))) (aCons (eC (.int 0)) aNil))))))) := rfl
theorem s_pool (h0 : 0 ≤ t) (ht : t ≤ 1000) : ∃ a b, g__law_pool [.scr (ns.map D.int), .int t] π = .ok (.ptr π.length, π ++ [.lst [.int a, .int b, .int 0]]) ∧ (0 ≤ a ∧ a < 2147482937) ∧ 0 ≤ b := by
  have ecut : cutD (ns.map D.int) none (some 6) = (ns.take 6).map D.int := by
    unfold cutD
    rw [show (some (6 : Int)) = some ((6 : Nat) : Int) from rfl, HT.sIx_nat, HT.sIx_none]
    simp only [List.length_map, List.drop_zero, Nat.sub_zero, List.map_take]
    rw [List.take_eq_take_iff]
    simp
  obtain ⟨own, e1⟩ : ∃ own, (eIf (tB (eOp dLt (eV 1) (eFn fLen (aCons (eV 0) aNil)))) (eFn fInt (aCons (eOp dIx (eV 0) (eV 1)) aNil)) (eOp dAdd (eOp dMul (eC (.int 70001)) (eV 1)) (eC (.int 89)))) [some (.scr (ns.map D.int)), some (.int t), none, none, none] π = .ok (.int own, π) := by
    by_cases hl : t < ns.length
    · refine ⟨ns[t.toNat]'(by omega), ?_⟩
      have e : atI (ns.map D.int) t = some (.int (ns[t.toNat]'(by omega))) := by
        rw [atI_nat' h0 (by rw [List.length_map]; exact hl), List.getElem?_map, List.getElem?_eq_getElem (by omega)]
        rfl
      simp [hl, e, fInt_i]
    · refine ⟨70001 * t + 89, ?_⟩
      have e : dMul (.int 70001) (.int t) = some (.int (70001 * t)) := dMul_i (wideM_l (by decide))
      simp [hl, e]
  have e2 : dMul (.int 5003) (.int t) = some (.int (5003 * t)) := dMul_i (wideM_l (by decide))
  obtain ⟨x, v4, e3⟩ := pool_loop (π := π) (a := .scr (ns.map D.int)) (t := t) (y := own) (ns := ns.take 6) (x := 60013 + 5003 * t) (u4 := none)
  have e4 : dMul (.int own) (.int 1033) = some (.int (own * 1033)) := dMul_i (wideM_r (by decide))
  have e5 : dPow (.int 10) (.int 18) = some (.int 1000000000000000000) := rfl
  obtain ⟨b, hb, e6⟩ : ∃ b : Int, 0 ≤ b ∧ (eIf (tOr (tB (eOp dLt (eV 2) (eC (.int 0)))) (tB (eOp dGe (eV 2) (eOp dPow (eC (.int 10)) (eC (.int 18)))))) (eFn fAbs (aCons (eV 2) aNil)) (eC (.int 0))) [some (.scr (ns.map D.int)), some (.int t), some (.int own), some (.int x), v4] π = .ok (.int b, π) := by
    by_cases h1 : own < 0
    · exact ⟨-own, by omega, by simp [h1, fAbs]⟩
    · by_cases h2 : 1000000000000000000 ≤ own
      · exact ⟨own, by omega, by simp [h1, h2, fAbs, e5]⟩
      · exact ⟨0, by omega, by simp [h1, h2, fAbs, e5]⟩
  refine ⟨(x + own * 1033) % 2147482937, b, ?_, ⟨Int.emod_nonneg _ (by decide), Int.emod_lt_of_pos _ (by decide)⟩, hb⟩
  simp only [g__law_pool, gRun, sRun, ini, fs_pool_eq, List.length_cons, List.length_nil, if_true, List.map_cons, List.map_nil, List.replicate, Nat.reduceSub, Nat.reduceAdd, List.cons_append, List.nil_append]
  rw [sSeq_ap, sPar_ap, aCons_ap, e1]
  simp only [aCons_ap, aNil_ap, eOp_ap, eC_ap, eV_ap, gt_s, gt_0, Res.bind_ok, e2, Res.of_some, dAdd_i, List.set_cons_succ, List.set_cons_zero]
  have e7 : (iL (eSl (eV 0) oNone (oSome (eC (.int 6))))) [some (.scr (ns.map D.int)), some (.int t), some (.int own), some (.int (60013 + 5003 * t)), none] π = .ok ((ns.take 6).map D.int, π) := by
    simp [eSl_ap, ecut, lst?]
  rw [sSeq_ap, sFor_ap, e7]
  simp only [Res.bind_ok, e3]
  rw [sRet_ap, eNewL_ap, aCons_ap]
  simp only [eOp_ap, eFn_ap, aCons_ap, aNil_ap, eC_ap, eV_ap, gt_s, gt_0, Res.bind_ok, e4, Res.of_some, dAdd_i, fInt_i, Res.at_ok, dMod_i (show (0 : Int) < 2147482937 by decide), e6]
  simp
theorem s_law : ∃ π', g_law [.scr (ns.map D.int)] (tabs 0 [q_telling, q__law_right]) = .ok (.bl true, π') := by
  obtain ⟨n, hn, en⟩ : ∃ n : Int, (2 ≤ n ∧ n ≤ 3) ∧ (if (if (3 : Int) < (ns.length : Int) then (3 : Int) else (ns.length : Int)) > 2 then (if (3 : Int) < (ns.length : Int) then (3 : Int) else (ns.length : Int)) else 2) = n := by
    refine ⟨_, ?_, rfl⟩
    split <;> split <;> omega
  obtain ⟨zs, π', e, _, hz, _⟩ := eLc_st (ρ := [some (.scr (ns.map D.int)), none]) (π := tabs 0 [q_telling, q__law_right]) (it := iR rng1 (aCons (eFn fMax2 (aCons (eC (.int 2)) (aCons (eFn fMin2 (aCons (eFn fLen (aCons (eV 0) aNil)) (aCons (eC (.int 3)) aNil))) aNil))) aNil)) (vs := [1]) (i := 1) (e := eCall g__law_right (aCons (eCall g__law_pool (aCons (eV 0) (aCons (eV 1) aNil))) aNil)) (xs := rg n) (enc := D.int) (g := D.bl) (Q := fun z => z = true) (I := fun π => π[0]? = some (.tab 0 q_telling) ∧ π[1]? = some (.tab 1 q__law_right))
    (by simp [fMin2, fMax2, en, rng1_i (n := n) (by omega) (by omega)]) (by rw [rg_len]; omega) ⟨rfl, rfl⟩ fun t ht π I => by
      obtain ⟨a, b, e1, h1, h2⟩ := s_pool (ns := ns) (π := π) (t := t) (mem_rg.mp ht).1 (by have := (mem_rg.mp ht).2; omega)
      have hl : 1 < π.length := (List.getElem?_eq_some_iff.mp I.2).1
      have hp : PoolAt π.length (π ++ [.lst [.int a, .int b, .int 0]]) := ⟨a, b, 0, by simp, h1.1, h1.2, h2⟩
      obtain ⟨π1, e2, t2⟩ := s_right hp (by rw [List.getElem?_append_left (by omega)]; exact I.1) (by rw [List.getElem?_append_left hl]; exact I.2) (by omega)
      exact ⟨true, π1, by simp [wipeE, e1, e2], rfl, t2⟩
  refine ⟨π', ?_⟩
  have ez : fAll [.lst (zs.map D.bl)] = .ok (.bl true) := by
    have := fAll_map (xs := zs) (g := id)
    rw [List.all_eq_true.mpr fun z h => by simpa using hz z h] at this
    exact this
  simp [g_law, gRun, sRun, ini, fs_law, List.replicate, e, ez]
theorem plain79 (ns : List Int) (h1 : ns.length ≤ 63) (h2 : ∀ z ∈ ns, Builtin.Int.intBits z ≤ 1048576) : ∃ π, g_law [.scr (ns.map D.int)] (tabs 0 [q_telling, q__law_right]) = .ok (.bl true, π) := s_law
end
end Ph
end
section
set_option Elab.async false
set_option linter.all false
set_option maxRecDepth 100000
set_option maxHeartbeats 0
/-! the end of this law: the head's facts, its run. Printed by end.py. -/
namespace Ph
open PySem PySem.Spec PyProof.Rows L2
abbrev st_Barred___init__ : Stmt := (inClass (top 9) 0)
abbrev st_InvalidDeed___init__ : Stmt := (inClass (top 8) 0)
abbrev st_InvalidLot___init__ : Stmt := (inClass (top 5) 0)
abbrev st_InvalidNumber___init__ : Stmt := (inClass (top 4) 0)
abbrev st_InvalidTellings___init__ : Stmt := (inClass (top 7) 0)
abbrev st_NotAHall___init__ : Stmt := (inClass (top 6) 0)
def cn79 (K : PySem.W.Frag) : Nat → Addr
  | 0 => He.ga K "Hall"
  | 1 => He.ga K "Meeting"
  | 2 => He.ga K "InvalidNumber"
  | 3 => He.ga K "InvalidLot"
  | 4 => He.ga K "NotAHall"
  | 5 => He.ga K "InvalidTellings"
  | 6 => He.ga K "InvalidDeed"
  | 7 => He.ga K "Barred"
  | 8 => He.ga K "HallError"
  | 100 => (He.cT K ("wrong_telling", none)).2
  | 150 => (He.cT K ("wrong_telling", none)).1
  | 101 => (He.cT K ("_law_right", none)).2
  | 151 => (He.cT K ("_law_right", none)).1
  | _ => 0
def pc79_0 : Pc := { fa := [.glo "Barred", .meth "Barred" "__init__", .noat "Barred" "reason", .glo "InvalidDeed", .meth "InvalidDeed" "__init__", .noat "InvalidDeed" "index", .glo "InvalidLot", .meth "InvalidLot" "__init__", .noat "InvalidLot" "given", .glo "InvalidNumber", .meth "InvalidNumber" "__init__", .noat "InvalidNumber" "given", .glo "InvalidTellings", .meth "InvalidTellings" "__init__", .noat "InvalidTellings" "index", .glo "NotAHall", .meth "NotAHall" "__init__", .noat "NotAHall" "given", .free "abs", .free "all", .free "bool", .free "dict", .free "divmod", .free "enumerate", .free "int", .free "isinstance", .free "len", .free "list", .free "max", .free "min", .free "range", .free "repr", .free "sorted", .free "str", .free "sum", .free "tuple", .free "zip", .cls "Hall", .cls "Meeting", .noat "Hall" "cases", .noat "Hall" "tellings", .noat "Meeting" "hall", .noat "Meeting" "case", .noat "Meeting" "deeds", .noat "Meeting" "can_be", .noat "Meeting" "past", .glo "Hall", .glo "HallError", .glo "Meeting", .glo "SIZES", .glo "_law_right", .glo "wrong_telling", .glo "is_number", .glo "_law_barred", .glo "_law_begun", .glo "_law_cut", .glo "_law_deed", .glo "_law_draw", .glo "_law_due", .glo "_law_hall", .glo "_law_lot", .glo "_law_made", .glo "_law_over", .glo "_law_part", .glo "_law_parted", .glo "_law_pick", .glo "_law_plus", .glo "_law_pool", .glo "_law_refused", .glo "_law_says", .glo "_law_sees", .glo "_law_sum", .glo "_law_told", .glo "_law_told_chance", .glo "are_chances", .glo "behind_deed", .glo "behind_saying", .glo "cases_of", .glo "chance_in", .glo "check_case", .glo "check_deed", .glo "check_hall", .glo "check_lot", .glo "check_person", .glo "check_tellings", .glo "common_of", .glo "divided", .glo "first_wrong", .glo "has_form", .glo "is_between", .glo "is_case", .glo "is_cases", .glo "is_fraction", .glo "is_lot", .glo "is_lot_of", .glo "is_part", .glo "is_person", .glo "is_row", .glo "is_string", .glo "is_telling", .glo "is_tuple_of", .glo "is_whole", .glo "law", .glo "led_by", .glo "lowest", .glo "part_at", .glo "parts_of", .glo "persons_of", .glo "piece_in", .glo "plus", .glo "reason_against", .glo "says_by", .glo "seen_by", .glo "sees_by", .glo "sum_of", .glo "told_of", .mkr "Hall", .mkr "Meeting", .meth "Hall" "__eq__", .meth "Meeting" "__eq__", .meth "Meeting" "do", .meth "Meeting" "left_open", .meth "Meeting" "says", .meth "Meeting" "sees", .meth "Meeting" "undo"], ts := [(fun K => He.ga K "SIZES", ["say", "tell"])], tf := [("wrong_telling", none), ("_law_right", none)] }
def pc79_1 : Pc := { ex := [fun K => oexB K (He.ga K "Barred"),
  fun K => oexB K (He.ga K "InvalidDeed"),
  fun K => oexB K (He.ga K "InvalidLot"),
  fun K => oexB K (He.ga K "InvalidNumber"),
  fun K => oexB K (He.ga K "InvalidTellings"),
  fun K => oexB K (He.ga K "NotAHall"),
  fun K => cstB K "FALSE" d_FALSE,
  fun K => cstB K "FEWEST_CASES" d_FEWEST_CASES,
  fun K => cstB K "KNOWN" d_KNOWN,
  fun K => cstB K "MOST_CASES" d_MOST_CASES,
  fun K => cstB K "MOST_PERSONS" d_MOST_PERSONS,
  fun K => cstB K "ONE" d_ONE,
  fun K => cstB K "ZERO" d_ZERO,
  fun K => gloB K "gcd" (.builtin "math.gcd"),
  fun K => isB K (cn79 K 0) ([1].map (cn79 K)),
  fun K => isB K (cn79 K 1) ([0].map (cn79 K)),
  fun K => neB K "Meeting",
  fun K => PySem.W.notFirst K (He.ga K "Meeting") (.ref (He.ga K "Hall")),
  fun K => tabB K "SIZES" kv_SIZES,
  fun K => exmB K "InvalidNumber" "InvalidNumber" true,
  fun K => exmB K "InvalidNumber" "NotAHall" false,
  fun K => exmB K "NotAHall" "NotAHall" true,
  fun K => exmB K "Barred" "Barred" true,
  fun K => kitOB K "InvalidNumber" "HallError" true,
  fun K => kitOB K "NotAHall" "HallError" true,
  fun K => xccB K (He.ga K "InvalidNumber"),
  fun K => xccB K (He.ga K "NotAHall"),
  fun K => xfB K (He.ga K "InvalidNumber"),
  fun K => xfB K (He.ga K "NotAHall"),
  fun K => xfB K (He.ga K "Barred"),
  fun K => decide ((He.cT K ("wrong_telling", none)).2 ≠ (He.cT K ("_law_right", none)).2)] }
def pc79_2 : Pc := { fn := [⟨("Barred", some "__init__"), "__init__", "Barred.__init__", defArgs st_Barred___init__, defBody st_Barred___init__, defScope st_Barred___init__, [], []⟩,
  ⟨("InvalidDeed", some "__init__"), "__init__", "InvalidDeed.__init__", defArgs st_InvalidDeed___init__, defBody st_InvalidDeed___init__, defScope st_InvalidDeed___init__, [], []⟩,
  ⟨("InvalidLot", some "__init__"), "__init__", "InvalidLot.__init__", defArgs st_InvalidLot___init__, defBody st_InvalidLot___init__, defScope st_InvalidLot___init__, [], []⟩,
  ⟨("InvalidNumber", some "__init__"), "__init__", "InvalidNumber.__init__", defArgs st_InvalidNumber___init__, defBody st_InvalidNumber___init__, defScope st_InvalidNumber___init__, [], []⟩,
  ⟨("InvalidTellings", some "__init__"), "__init__", "InvalidTellings.__init__", defArgs st_InvalidTellings___init__, defBody st_InvalidTellings___init__, defScope st_InvalidTellings___init__, [], []⟩,
  ⟨("NotAHall", some "__init__"), "__init__", "NotAHall.__init__", defArgs st_NotAHall___init__, defBody st_NotAHall___init__, defScope st_NotAHall___init__, [], []⟩,
  ⟨("_law_right", none), "_law_right", "_law_right", defArgs st__law_right, defBody st__law_right, defScope st__law_right, [], []⟩,
  ⟨("wrong_telling", none), "wrong_telling", "wrong_telling", defArgs st_wrong_telling, defBody st_wrong_telling, defScope st_wrong_telling, [], []⟩,
  ⟨("is_number", none), "is_number", "is_number", defArgs st_is_number, defBody st_is_number, defScope st_is_number, [.int 0, .non], []⟩,
  ⟨("_law_barred", none), "_law_barred", "_law_barred", defArgs st__law_barred, defBody st__law_barred, defScope st__law_barred, [], []⟩,
  ⟨("_law_begun", none), "_law_begun", "_law_begun", defArgs st__law_begun, defBody st__law_begun, defScope st__law_begun, [], []⟩,
  ⟨("_law_cut", none), "_law_cut", "_law_cut", defArgs st__law_cut, defBody st__law_cut, defScope st__law_cut, [], []⟩,
  ⟨("_law_deed", none), "_law_deed", "_law_deed", defArgs st__law_deed, defBody st__law_deed, defScope st__law_deed, [], []⟩,
  ⟨("_law_draw", none), "_law_draw", "_law_draw", defArgs st__law_draw, defBody st__law_draw, defScope st__law_draw, [], []⟩,
  ⟨("_law_due", none), "_law_due", "_law_due", defArgs st__law_due, defBody st__law_due, defScope st__law_due, [], []⟩,
  ⟨("_law_hall", none), "_law_hall", "_law_hall", defArgs st__law_hall, defBody st__law_hall, defScope st__law_hall, [], []⟩,
  ⟨("_law_lot", none), "_law_lot", "_law_lot", defArgs st__law_lot, defBody st__law_lot, defScope st__law_lot, [], []⟩,
  ⟨("_law_made", none), "_law_made", "_law_made", defArgs st__law_made, defBody st__law_made, defScope st__law_made, [], []⟩,
  ⟨("_law_over", none), "_law_over", "_law_over", defArgs st__law_over, defBody st__law_over, defScope st__law_over, [], []⟩,
  ⟨("_law_part", none), "_law_part", "_law_part", defArgs st__law_part, defBody st__law_part, defScope st__law_part, [], []⟩,
  ⟨("_law_parted", none), "_law_parted", "_law_parted", defArgs st__law_parted, defBody st__law_parted, defScope st__law_parted, [], []⟩,
  ⟨("_law_pick", none), "_law_pick", "_law_pick", defArgs st__law_pick, defBody st__law_pick, defScope st__law_pick, [], []⟩,
  ⟨("_law_plus", none), "_law_plus", "_law_plus", defArgs st__law_plus, defBody st__law_plus, defScope st__law_plus, [], []⟩,
  ⟨("_law_pool", none), "_law_pool", "_law_pool", defArgs st__law_pool, defBody st__law_pool, defScope st__law_pool, [], []⟩,
  ⟨("_law_refused", none), "_law_refused", "_law_refused", defArgs st__law_refused, defBody st__law_refused, defScope st__law_refused, [], []⟩] }
def pc79_3 : Pc := { fn := [⟨("_law_says", none), "_law_says", "_law_says", defArgs st__law_says, defBody st__law_says, defScope st__law_says, [], []⟩,
  ⟨("_law_sees", none), "_law_sees", "_law_sees", defArgs st__law_sees, defBody st__law_sees, defScope st__law_sees, [], []⟩,
  ⟨("_law_sum", none), "_law_sum", "_law_sum", defArgs st__law_sum, defBody st__law_sum, defScope st__law_sum, [], []⟩,
  ⟨("_law_told", none), "_law_told", "_law_told", defArgs st__law_told, defBody st__law_told, defScope st__law_told, [], []⟩,
  ⟨("_law_told_chance", none), "_law_told_chance", "_law_told_chance", defArgs st__law_told_chance, defBody st__law_told_chance, defScope st__law_told_chance, [], []⟩,
  ⟨("are_chances", none), "are_chances", "are_chances", defArgs st_are_chances, defBody st_are_chances, defScope st_are_chances, [], []⟩,
  ⟨("behind_deed", none), "behind_deed", "behind_deed", defArgs st_behind_deed, defBody st_behind_deed, defScope st_behind_deed, [], []⟩,
  ⟨("behind_saying", none), "behind_saying", "behind_saying", defArgs st_behind_saying, defBody st_behind_saying, defScope st_behind_saying, [], []⟩,
  ⟨("cases_of", none), "cases_of", "cases_of", defArgs st_cases_of, defBody st_cases_of, defScope st_cases_of, [], []⟩,
  ⟨("chance_in", none), "chance_in", "chance_in", defArgs st_chance_in, defBody st_chance_in, defScope st_chance_in, [], []⟩,
  ⟨("check_case", none), "check_case", "check_case", defArgs st_check_case, defBody st_check_case, defScope st_check_case, [], []⟩,
  ⟨("check_deed", none), "check_deed", "check_deed", defArgs st_check_deed, defBody st_check_deed, defScope st_check_deed, [], []⟩,
  ⟨("check_hall", none), "check_hall", "check_hall", defArgs st_check_hall, defBody st_check_hall, defScope st_check_hall, [], []⟩,
  ⟨("check_lot", none), "check_lot", "check_lot", defArgs st_check_lot, defBody st_check_lot, defScope st_check_lot, [], []⟩,
  ⟨("check_person", none), "check_person", "check_person", defArgs st_check_person, defBody st_check_person, defScope st_check_person, [], []⟩,
  ⟨("check_tellings", none), "check_tellings", "check_tellings", defArgs st_check_tellings, defBody st_check_tellings, defScope st_check_tellings, [], []⟩,
  ⟨("common_of", none), "common_of", "common_of", defArgs st_common_of, defBody st_common_of, defScope st_common_of, [], []⟩,
  ⟨("divided", none), "divided", "divided", defArgs st_divided, defBody st_divided, defScope st_divided, [], []⟩,
  ⟨("first_wrong", none), "first_wrong", "first_wrong", defArgs st_first_wrong, defBody st_first_wrong, defScope st_first_wrong, [], []⟩,
  ⟨("has_form", none), "has_form", "has_form", defArgs st_has_form, defBody st_has_form, defScope st_has_form, [], []⟩,
  ⟨("is_between", none), "is_between", "is_between", defArgs st_is_between, defBody st_is_between, defScope st_is_between, [], []⟩,
  ⟨("is_case", none), "is_case", "is_case", defArgs st_is_case, defBody st_is_case, defScope st_is_case, [], []⟩,
  ⟨("is_cases", none), "is_cases", "is_cases", defArgs st_is_cases, defBody st_is_cases, defScope st_is_cases, [], []⟩,
  ⟨("is_fraction", none), "is_fraction", "is_fraction", defArgs st_is_fraction, defBody st_is_fraction, defScope st_is_fraction, [], []⟩,
  ⟨("is_lot", none), "is_lot", "is_lot", defArgs st_is_lot, defBody st_is_lot, defScope st_is_lot, [], []⟩] }
def pc79_4 : Pc := { fn := [⟨("is_lot_of", none), "is_lot_of", "is_lot_of", defArgs st_is_lot_of, defBody st_is_lot_of, defScope st_is_lot_of, [], []⟩,
  ⟨("is_part", none), "is_part", "is_part", defArgs st_is_part, defBody st_is_part, defScope st_is_part, [], []⟩,
  ⟨("is_person", none), "is_person", "is_person", defArgs st_is_person, defBody st_is_person, defScope st_is_person, [], []⟩,
  ⟨("is_row", none), "is_row", "is_row", defArgs st_is_row, defBody st_is_row, defScope st_is_row, [], []⟩,
  ⟨("is_string", none), "is_string", "is_string", defArgs st_is_string, defBody st_is_string, defScope st_is_string, [], []⟩,
  ⟨("is_telling", none), "is_telling", "is_telling", defArgs st_is_telling, defBody st_is_telling, defScope st_is_telling, [], []⟩,
  ⟨("is_tuple_of", none), "is_tuple_of", "is_tuple_of", defArgs st_is_tuple_of, defBody st_is_tuple_of, defScope st_is_tuple_of, [], []⟩,
  ⟨("is_whole", none), "is_whole", "is_whole", defArgs st_is_whole, defBody st_is_whole, defScope st_is_whole, [], []⟩,
  ⟨("law", none), "law", "law", defArgs st_law, defBody st_law, defScope st_law, [], []⟩,
  ⟨("led_by", none), "led_by", "led_by", defArgs st_led_by, defBody st_led_by, defScope st_led_by, [], []⟩,
  ⟨("lowest", none), "lowest", "lowest", defArgs st_lowest, defBody st_lowest, defScope st_lowest, [], []⟩,
  ⟨("part_at", none), "part_at", "part_at", defArgs st_part_at, defBody st_part_at, defScope st_part_at, [], []⟩,
  ⟨("parts_of", none), "parts_of", "parts_of", defArgs st_parts_of, defBody st_parts_of, defScope st_parts_of, [], []⟩,
  ⟨("persons_of", none), "persons_of", "persons_of", defArgs st_persons_of, defBody st_persons_of, defScope st_persons_of, [], []⟩,
  ⟨("piece_in", none), "piece_in", "piece_in", defArgs st_piece_in, defBody st_piece_in, defScope st_piece_in, [], []⟩,
  ⟨("plus", none), "plus", "plus", defArgs st_plus, defBody st_plus, defScope st_plus, [], []⟩,
  ⟨("reason_against", none), "reason_against", "reason_against", defArgs st_reason_against, defBody st_reason_against, defScope st_reason_against, [], []⟩,
  ⟨("says_by", none), "says_by", "says_by", defArgs st_says_by, defBody st_says_by, defScope st_says_by, [], []⟩,
  ⟨("seen_by", none), "seen_by", "seen_by", defArgs st_seen_by, defBody st_seen_by, defScope st_seen_by, [], []⟩,
  ⟨("sees_by", none), "sees_by", "sees_by", defArgs st_sees_by, defBody st_sees_by, defScope st_sees_by, [], []⟩,
  ⟨("sum_of", none), "sum_of", "sum_of", defArgs st_sum_of, defBody st_sum_of, defScope st_sum_of, [], []⟩,
  ⟨("told_of", none), "told_of", "told_of", defArgs st_told_of, defBody st_told_of, defScope st_told_of, [], []⟩,
  ⟨("Hall", some "__init__"), "__init__", "Hall.__init__", defArgs st_Hall___init__, defBody st_Hall___init__, defScope st_Hall___init__, [], []⟩,
  ⟨("Meeting", some "__init__"), "__init__", "Meeting.__init__", defArgs st_Meeting___init__, defBody st_Meeting___init__, defScope st_Meeting___init__, [], []⟩,
  ⟨("Hall", some "__eq__"), "__eq__", "Hall.__eq__", defArgs st_Hall___eq__, defBody st_Hall___eq__, defScope st_Hall___eq__, [], []⟩] }
def pc79_5 : Pc := { fn := [⟨("Meeting", some "__eq__"), "__eq__", "Meeting.__eq__", defArgs st_Meeting___eq__, defBody st_Meeting___eq__, defScope st_Meeting___eq__, [], []⟩,
  ⟨("Meeting", some "do"), "do", "Meeting.do", defArgs st_Meeting_do, defBody st_Meeting_do, defScope st_Meeting_do, [], []⟩,
  ⟨("Meeting", some "left_open"), "left_open", "Meeting.left_open", defArgs st_Meeting_left_open, defBody st_Meeting_left_open, defScope st_Meeting_left_open, [], []⟩,
  ⟨("Meeting", some "says"), "says", "Meeting.says", defArgs st_Meeting_says, defBody st_Meeting_says, defScope st_Meeting_says, [], []⟩,
  ⟨("Meeting", some "sees"), "sees", "Meeting.sees", defArgs st_Meeting_sees, defBody st_Meeting_sees, defScope st_Meeting_sees, [], []⟩,
  ⟨("Meeting", some "undo"), "undo", "Meeting.undo", defArgs st_Meeting_undo, defBody st_Meeting_undo, defScope st_Meeting_undo, [], []⟩] }
def ps79 : List Pc := [pc79_0, pc79_1, pc79_2, pc79_3, pc79_4, pc79_5]
def tf79 : List He.Defn := [("wrong_telling", none), ("_law_right", none)]
theorem txt79 {P : Program} {w : World} {K : PySem.W.Frag} {mg : Str → Option Value} {base h : Heap} (X : K.In h) (G : h.Ns mainGlobals mg) (c0 : SaysP pc79_0 w h K) (c1 : SaysP pc79_1 w h K) (c2 : SaysP pc79_2 w h K) (c3 : SaysP pc79_3 w h K) (c4 : SaysP pc79_4 w h K) (c5 : SaysP pc79_5 w h K) (TB : ∀ p ∈ tf79.map (He.cT K), LamX.TabB base mg p.1 p.2) : Txt P w K mg base (cn79 K) where
  X_Barred := excB_ok (st := st_Barred___init__) (g := "reason") (N := ["self", "reason"]) (ps := ["self", "reason"]) rfl rfl rfl (c2.t.d.def_ 0 (d := ⟨("Barred", some "__init__"), "__init__", "Barred.__init__", defArgs st_Barred___init__, defBody st_Barred___init__, defScope st_Barred___init__, [], []⟩)) (He.glo_ok X G (c0.t.d.fact 0 (f := .glo "Barred"))) (exAt c1.more 0 (f := fun K => oexB K (He.ga K "Barred"))) (c0.t.d.fact 1 (f := .meth "Barred" "__init__")) (c0.t.d.fact 2 (f := .noat "Barred" "reason")) ⟨rfl, rfl, rfl, by decide +kernel, rfl, by decide +kernel, by decide +kernel⟩ rfl rfl rfl (.inl rfl) (.inl rfl) (by decide) (by decide) rfl (fun _ _ _ _ _ _ us hl => match us, hl with | [_, _], _ => rfl) (fun _ => rfl)
  X_InvalidDeed := excB_ok (st := st_InvalidDeed___init__) (g := "index") (N := ["self", "index"]) (ps := ["self", "index"]) rfl rfl rfl (c2.t.d.def_ 1 (d := ⟨("InvalidDeed", some "__init__"), "__init__", "InvalidDeed.__init__", defArgs st_InvalidDeed___init__, defBody st_InvalidDeed___init__, defScope st_InvalidDeed___init__, [], []⟩)) (He.glo_ok X G (c0.t.d.fact 3 (f := .glo "InvalidDeed"))) (exAt c1.more 1 (f := fun K => oexB K (He.ga K "InvalidDeed"))) (c0.t.d.fact 4 (f := .meth "InvalidDeed" "__init__")) (c0.t.d.fact 5 (f := .noat "InvalidDeed" "index")) ⟨rfl, rfl, rfl, by decide +kernel, rfl, by decide +kernel, by decide +kernel⟩ rfl rfl rfl (.inl rfl) (.inl rfl) (by decide) (by decide) rfl (fun _ _ _ _ _ _ us hl => match us, hl with | [_, _], _ => rfl) (fun _ => rfl)
  X_InvalidLot := excB_ok (st := st_InvalidLot___init__) (g := "given") (N := ["self", "given"]) (ps := ["self", "given"]) rfl rfl rfl (c2.t.d.def_ 2 (d := ⟨("InvalidLot", some "__init__"), "__init__", "InvalidLot.__init__", defArgs st_InvalidLot___init__, defBody st_InvalidLot___init__, defScope st_InvalidLot___init__, [], []⟩)) (He.glo_ok X G (c0.t.d.fact 6 (f := .glo "InvalidLot"))) (exAt c1.more 2 (f := fun K => oexB K (He.ga K "InvalidLot"))) (c0.t.d.fact 7 (f := .meth "InvalidLot" "__init__")) (c0.t.d.fact 8 (f := .noat "InvalidLot" "given")) ⟨rfl, rfl, rfl, by decide +kernel, rfl, by decide +kernel, by decide +kernel⟩ rfl rfl rfl (.inl rfl) (.inl rfl) (by decide) (by decide) rfl (fun _ _ _ _ _ _ us hl => match us, hl with | [_, _], _ => rfl) (fun _ => rfl)
  X_InvalidNumber := excB_ok (st := st_InvalidNumber___init__) (g := "given") (N := ["self", "given"]) (ps := ["self", "given"]) rfl rfl rfl (c2.t.d.def_ 3 (d := ⟨("InvalidNumber", some "__init__"), "__init__", "InvalidNumber.__init__", defArgs st_InvalidNumber___init__, defBody st_InvalidNumber___init__, defScope st_InvalidNumber___init__, [], []⟩)) (He.glo_ok X G (c0.t.d.fact 9 (f := .glo "InvalidNumber"))) (exAt c1.more 3 (f := fun K => oexB K (He.ga K "InvalidNumber"))) (c0.t.d.fact 10 (f := .meth "InvalidNumber" "__init__")) (c0.t.d.fact 11 (f := .noat "InvalidNumber" "given")) ⟨rfl, rfl, rfl, by decide +kernel, rfl, by decide +kernel, by decide +kernel⟩ rfl rfl rfl (.inl rfl) (.inl rfl) (by decide) (by decide) rfl (fun _ _ _ _ _ _ us hl => match us, hl with | [_, _], _ => rfl) (fun _ => rfl)
  X_InvalidTellings := excB_ok (st := st_InvalidTellings___init__) (g := "index") (N := ["self", "index"]) (ps := ["self", "index"]) rfl rfl rfl (c2.t.d.def_ 4 (d := ⟨("InvalidTellings", some "__init__"), "__init__", "InvalidTellings.__init__", defArgs st_InvalidTellings___init__, defBody st_InvalidTellings___init__, defScope st_InvalidTellings___init__, [], []⟩)) (He.glo_ok X G (c0.t.d.fact 12 (f := .glo "InvalidTellings"))) (exAt c1.more 4 (f := fun K => oexB K (He.ga K "InvalidTellings"))) (c0.t.d.fact 13 (f := .meth "InvalidTellings" "__init__")) (c0.t.d.fact 14 (f := .noat "InvalidTellings" "index")) ⟨rfl, rfl, rfl, by decide +kernel, rfl, by decide +kernel, by decide +kernel⟩ rfl rfl rfl (.inl rfl) (.inl rfl) (by decide) (by decide) rfl (fun _ _ _ _ _ _ us hl => match us, hl with | [_, _], _ => rfl) (fun _ => rfl)
  X_NotAHall := excB_ok (st := st_NotAHall___init__) (g := "given") (N := ["self", "given"]) (ps := ["self", "given"]) rfl rfl rfl (c2.t.d.def_ 5 (d := ⟨("NotAHall", some "__init__"), "__init__", "NotAHall.__init__", defArgs st_NotAHall___init__, defBody st_NotAHall___init__, defScope st_NotAHall___init__, [], []⟩)) (He.glo_ok X G (c0.t.d.fact 15 (f := .glo "NotAHall"))) (exAt c1.more 5 (f := fun K => oexB K (He.ga K "NotAHall"))) (c0.t.d.fact 16 (f := .meth "NotAHall" "__init__")) (c0.t.d.fact 17 (f := .noat "NotAHall" "given")) ⟨rfl, rfl, rfl, by decide +kernel, rfl, by decide +kernel, by decide +kernel⟩ rfl rfl rfl (.inl rfl) (.inl rfl) (by decide) (by decide) rfl (fun _ _ _ _ _ _ us hl => match us, hl with | [_, _], _ => rfl) (fun _ => rfl)
  b_abs := He.free_ok X G (c0.t.d.fact 18 (f := .free "abs"))
  b_all := He.free_ok X G (c0.t.d.fact 19 (f := .free "all"))
  b_bool := He.free_ok X G (c0.t.d.fact 20 (f := .free "bool"))
  b_dict := He.free_ok X G (c0.t.d.fact 21 (f := .free "dict"))
  b_divmod := He.free_ok X G (c0.t.d.fact 22 (f := .free "divmod"))
  b_enumerate := He.free_ok X G (c0.t.d.fact 23 (f := .free "enumerate"))
  b_int := He.free_ok X G (c0.t.d.fact 24 (f := .free "int"))
  b_isinstance := He.free_ok X G (c0.t.d.fact 25 (f := .free "isinstance"))
  b_len := He.free_ok X G (c0.t.d.fact 26 (f := .free "len"))
  b_list := He.free_ok X G (c0.t.d.fact 27 (f := .free "list"))
  b_max := He.free_ok X G (c0.t.d.fact 28 (f := .free "max"))
  b_min := He.free_ok X G (c0.t.d.fact 29 (f := .free "min"))
  b_range := He.free_ok X G (c0.t.d.fact 30 (f := .free "range"))
  b_repr := He.free_ok X G (c0.t.d.fact 31 (f := .free "repr"))
  b_sorted := He.free_ok X G (c0.t.d.fact 32 (f := .free "sorted"))
  b_str := He.free_ok X G (c0.t.d.fact 33 (f := .free "str"))
  b_sum := He.free_ok X G (c0.t.d.fact 34 (f := .free "sum"))
  b_tuple := He.free_ok X G (c0.t.d.fact 35 (f := .free "tuple"))
  b_zip := He.free_ok X G (c0.t.d.fact 36 (f := .free "zip"))
  c_FALSE := cstB_ok X G (exAt c1.more 6 (f := fun K => cstB K "FALSE" d_FALSE))
  c_FEWEST_CASES := cstB_ok X G (exAt c1.more 7 (f := fun K => cstB K "FEWEST_CASES" d_FEWEST_CASES))
  c_KNOWN := cstB_ok X G (exAt c1.more 8 (f := fun K => cstB K "KNOWN" d_KNOWN))
  c_MOST_CASES := cstB_ok X G (exAt c1.more 9 (f := fun K => cstB K "MOST_CASES" d_MOST_CASES))
  c_MOST_PERSONS := cstB_ok X G (exAt c1.more 10 (f := fun K => cstB K "MOST_PERSONS" d_MOST_PERSONS))
  c_ONE := cstB_ok X G (exAt c1.more 11 (f := fun K => cstB K "ONE" d_ONE))
  c_ZERO := cstB_ok X G (exAt c1.more 12 (f := fun K => cstB K "ZERO" d_ZERO))
  cl_0 := He.cls_ok (c0.t.d.fact 37 (f := .cls "Hall"))
  cl_1 := He.cls_ok (c0.t.d.fact 38 (f := .cls "Meeting"))
  f_0_0 := fldB_ok (G := gx K (cn79 K)) (x := "Hall") (c := 0) rfl (c0.t.d.fact 37 (f := .cls "Hall")) (c0.t.d.fact 39 (f := .noat "Hall" "cases")) rfl (show (fl79 0).Nodup from by decide +kernel)
  f_0_1 := fldB_ok (G := gx K (cn79 K)) (x := "Hall") (c := 0) rfl (c0.t.d.fact 37 (f := .cls "Hall")) (c0.t.d.fact 40 (f := .noat "Hall" "tellings")) rfl (show (fl79 0).Nodup from by decide +kernel)
  f_1_0 := fldB_ok (G := gx K (cn79 K)) (x := "Meeting") (c := 1) rfl (c0.t.d.fact 38 (f := .cls "Meeting")) (c0.t.d.fact 41 (f := .noat "Meeting" "hall")) rfl (show (fl79 1).Nodup from by decide +kernel)
  f_1_1 := fldB_ok (G := gx K (cn79 K)) (x := "Meeting") (c := 1) rfl (c0.t.d.fact 38 (f := .cls "Meeting")) (c0.t.d.fact 42 (f := .noat "Meeting" "case")) rfl (show (fl79 1).Nodup from by decide +kernel)
  f_1_2 := fldB_ok (G := gx K (cn79 K)) (x := "Meeting") (c := 1) rfl (c0.t.d.fact 38 (f := .cls "Meeting")) (c0.t.d.fact 43 (f := .noat "Meeting" "deeds")) rfl (show (fl79 1).Nodup from by decide +kernel)
  f_1_3 := fldB_ok (G := gx K (cn79 K)) (x := "Meeting") (c := 1) rfl (c0.t.d.fact 38 (f := .cls "Meeting")) (c0.t.d.fact 44 (f := .noat "Meeting" "can_be")) rfl (show (fl79 1).Nodup from by decide +kernel)
  f_1_4 := fldB_ok (G := gx K (cn79 K)) (x := "Meeting") (c := 1) rfl (c0.t.d.fact 38 (f := .cls "Meeting")) (c0.t.d.fact 45 (f := .noat "Meeting" "past")) rfl (show (fl79 1).Nodup from by decide +kernel)
  g_gcd := gloB_ok X G (exAt c1.more 13 (f := fun K => gloB K "gcd" (.builtin "math.gcd")))
  is_Hall := isB_ok (G := gx K (cn79 K)) (c := 0) (ks := [1]) (exAt c1.more 14 (f := fun K => isB K (cn79 K 0) ([1].map (cn79 K))))
  is_Meeting := isB_ok (G := gx K (cn79 K)) (c := 1) (ks := [0]) (exAt c1.more 15 (f := fun K => isB K (cn79 K 1) ([0].map (cn79 K))))
  m_Barred := (He.glo_ok X G (c0.t.d.fact 0 (f := .glo "Barred")))
  m_Hall := (He.glo_ok X G (c0.t.d.fact 46 (f := .glo "Hall")))
  m_HallError := (He.glo_ok X G (c0.t.d.fact 47 (f := .glo "HallError")))
  m_InvalidNumber := (He.glo_ok X G (c0.t.d.fact 9 (f := .glo "InvalidNumber")))
  m_Meeting := (He.glo_ok X G (c0.t.d.fact 48 (f := .glo "Meeting")))
  m_NotAHall := (He.glo_ok X G (c0.t.d.fact 15 (f := .glo "NotAHall")))
  ne_1 := neB_ok (G := gx K (cn79 K)) rfl (exAt c1.more 16 (f := fun K => neB K "Meeting"))
  nf_1_0 := (exAt c1.more 17 (f := fun K => PySem.W.notFirst K (He.ga K "Meeting") (.ref (He.ga K "Hall"))))
  t_SIZES := tabB_ok (He.glo_ok X G (c0.t.d.fact 49 (f := .glo "SIZES"))) (c0.t.tab 0).choose_spec.choose_spec (exAt c1.more 18 (f := fun K => tabB K "SIZES" kv_SIZES))
  tb__law_right := TB _ (List.mem_map.mpr ⟨("_law_right", none), by decide, rfl⟩)
  tb_wrong_telling := TB _ (List.mem_map.mpr ⟨("wrong_telling", none), by decide, rfl⟩)
  ex_2_2 := of_decide_eq_true (exAt c1.more 19 (f := fun K => exmB K "InvalidNumber" "InvalidNumber" true))
  ex_2_4 := of_decide_eq_true (exAt c1.more 20 (f := fun K => exmB K "InvalidNumber" "NotAHall" false))
  ex_4_4 := of_decide_eq_true (exAt c1.more 21 (f := fun K => exmB K "NotAHall" "NotAHall" true))
  ex_7_7 := of_decide_eq_true (exAt c1.more 22 (f := fun K => exmB K "Barred" "Barred" true))
  fc__law_right := fcB_ok (p := ("_law_right", none)) (c2.t.d.def_ 6 (d := ⟨("_law_right", none), "_law_right", "_law_right", defArgs st__law_right, defBody st__law_right, defScope st__law_right, [], []⟩)) (He.glo_ok X G (c0.t.d.fact 50 (f := .glo "_law_right")))
  fc_wrong_telling := fcB_ok (p := ("wrong_telling", none)) (c2.t.d.def_ 7 (d := ⟨("wrong_telling", none), "wrong_telling", "wrong_telling", defArgs st_wrong_telling, defBody st_wrong_telling, defScope st_wrong_telling, [], []⟩)) (He.glo_ok X G (c0.t.d.fact 51 (f := .glo "wrong_telling")))
  fd_is_number := fdB_ok (c2.t.d.def_ 8 (d := ⟨("is_number", none), "is_number", "is_number", defArgs st_is_number, defBody st_is_number, defScope st_is_number, [.int 0, .non], []⟩)) (He.glo_ok X G (c0.t.d.fact 52 (f := .glo "is_number")))
  fn__law_barred := fnB_ok (c2.t.d.def_ 9 (d := ⟨("_law_barred", none), "_law_barred", "_law_barred", defArgs st__law_barred, defBody st__law_barred, defScope st__law_barred, [], []⟩)) (He.glo_ok X G (c0.t.d.fact 53 (f := .glo "_law_barred")))
  fn__law_begun := fnB_ok (c2.t.d.def_ 10 (d := ⟨("_law_begun", none), "_law_begun", "_law_begun", defArgs st__law_begun, defBody st__law_begun, defScope st__law_begun, [], []⟩)) (He.glo_ok X G (c0.t.d.fact 54 (f := .glo "_law_begun")))
  fn__law_cut := fnB_ok (c2.t.d.def_ 11 (d := ⟨("_law_cut", none), "_law_cut", "_law_cut", defArgs st__law_cut, defBody st__law_cut, defScope st__law_cut, [], []⟩)) (He.glo_ok X G (c0.t.d.fact 55 (f := .glo "_law_cut")))
  fn__law_deed := fnB_ok (c2.t.d.def_ 12 (d := ⟨("_law_deed", none), "_law_deed", "_law_deed", defArgs st__law_deed, defBody st__law_deed, defScope st__law_deed, [], []⟩)) (He.glo_ok X G (c0.t.d.fact 56 (f := .glo "_law_deed")))
  fn__law_draw := fnB_ok (c2.t.d.def_ 13 (d := ⟨("_law_draw", none), "_law_draw", "_law_draw", defArgs st__law_draw, defBody st__law_draw, defScope st__law_draw, [], []⟩)) (He.glo_ok X G (c0.t.d.fact 57 (f := .glo "_law_draw")))
  fn__law_due := fnB_ok (c2.t.d.def_ 14 (d := ⟨("_law_due", none), "_law_due", "_law_due", defArgs st__law_due, defBody st__law_due, defScope st__law_due, [], []⟩)) (He.glo_ok X G (c0.t.d.fact 58 (f := .glo "_law_due")))
  fn__law_hall := fnB_ok (c2.t.d.def_ 15 (d := ⟨("_law_hall", none), "_law_hall", "_law_hall", defArgs st__law_hall, defBody st__law_hall, defScope st__law_hall, [], []⟩)) (He.glo_ok X G (c0.t.d.fact 59 (f := .glo "_law_hall")))
  fn__law_lot := fnB_ok (c2.t.d.def_ 16 (d := ⟨("_law_lot", none), "_law_lot", "_law_lot", defArgs st__law_lot, defBody st__law_lot, defScope st__law_lot, [], []⟩)) (He.glo_ok X G (c0.t.d.fact 60 (f := .glo "_law_lot")))
  fn__law_made := fnB_ok (c2.t.d.def_ 17 (d := ⟨("_law_made", none), "_law_made", "_law_made", defArgs st__law_made, defBody st__law_made, defScope st__law_made, [], []⟩)) (He.glo_ok X G (c0.t.d.fact 61 (f := .glo "_law_made")))
  fn__law_over := fnB_ok (c2.t.d.def_ 18 (d := ⟨("_law_over", none), "_law_over", "_law_over", defArgs st__law_over, defBody st__law_over, defScope st__law_over, [], []⟩)) (He.glo_ok X G (c0.t.d.fact 62 (f := .glo "_law_over")))
  fn__law_part := fnB_ok (c2.t.d.def_ 19 (d := ⟨("_law_part", none), "_law_part", "_law_part", defArgs st__law_part, defBody st__law_part, defScope st__law_part, [], []⟩)) (He.glo_ok X G (c0.t.d.fact 63 (f := .glo "_law_part")))
  fn__law_parted := fnB_ok (c2.t.d.def_ 20 (d := ⟨("_law_parted", none), "_law_parted", "_law_parted", defArgs st__law_parted, defBody st__law_parted, defScope st__law_parted, [], []⟩)) (He.glo_ok X G (c0.t.d.fact 64 (f := .glo "_law_parted")))
  fn__law_pick := fnB_ok (c2.t.d.def_ 21 (d := ⟨("_law_pick", none), "_law_pick", "_law_pick", defArgs st__law_pick, defBody st__law_pick, defScope st__law_pick, [], []⟩)) (He.glo_ok X G (c0.t.d.fact 65 (f := .glo "_law_pick")))
  fn__law_plus := fnB_ok (c2.t.d.def_ 22 (d := ⟨("_law_plus", none), "_law_plus", "_law_plus", defArgs st__law_plus, defBody st__law_plus, defScope st__law_plus, [], []⟩)) (He.glo_ok X G (c0.t.d.fact 66 (f := .glo "_law_plus")))
  fn__law_pool := fnB_ok (c2.t.d.def_ 23 (d := ⟨("_law_pool", none), "_law_pool", "_law_pool", defArgs st__law_pool, defBody st__law_pool, defScope st__law_pool, [], []⟩)) (He.glo_ok X G (c0.t.d.fact 67 (f := .glo "_law_pool")))
  fn__law_refused := fnB_ok (c2.t.d.def_ 24 (d := ⟨("_law_refused", none), "_law_refused", "_law_refused", defArgs st__law_refused, defBody st__law_refused, defScope st__law_refused, [], []⟩)) (He.glo_ok X G (c0.t.d.fact 68 (f := .glo "_law_refused")))
  fn__law_says := fnB_ok (c3.t.d.def_ 0 (d := ⟨("_law_says", none), "_law_says", "_law_says", defArgs st__law_says, defBody st__law_says, defScope st__law_says, [], []⟩)) (He.glo_ok X G (c0.t.d.fact 69 (f := .glo "_law_says")))
  fn__law_sees := fnB_ok (c3.t.d.def_ 1 (d := ⟨("_law_sees", none), "_law_sees", "_law_sees", defArgs st__law_sees, defBody st__law_sees, defScope st__law_sees, [], []⟩)) (He.glo_ok X G (c0.t.d.fact 70 (f := .glo "_law_sees")))
  fn__law_sum := fnB_ok (c3.t.d.def_ 2 (d := ⟨("_law_sum", none), "_law_sum", "_law_sum", defArgs st__law_sum, defBody st__law_sum, defScope st__law_sum, [], []⟩)) (He.glo_ok X G (c0.t.d.fact 71 (f := .glo "_law_sum")))
  fn__law_told := fnB_ok (c3.t.d.def_ 3 (d := ⟨("_law_told", none), "_law_told", "_law_told", defArgs st__law_told, defBody st__law_told, defScope st__law_told, [], []⟩)) (He.glo_ok X G (c0.t.d.fact 72 (f := .glo "_law_told")))
  fn__law_told_chance := fnB_ok (c3.t.d.def_ 4 (d := ⟨("_law_told_chance", none), "_law_told_chance", "_law_told_chance", defArgs st__law_told_chance, defBody st__law_told_chance, defScope st__law_told_chance, [], []⟩)) (He.glo_ok X G (c0.t.d.fact 73 (f := .glo "_law_told_chance")))
  fn_are_chances := fnB_ok (c3.t.d.def_ 5 (d := ⟨("are_chances", none), "are_chances", "are_chances", defArgs st_are_chances, defBody st_are_chances, defScope st_are_chances, [], []⟩)) (He.glo_ok X G (c0.t.d.fact 74 (f := .glo "are_chances")))
  fn_behind_deed := fnB_ok (c3.t.d.def_ 6 (d := ⟨("behind_deed", none), "behind_deed", "behind_deed", defArgs st_behind_deed, defBody st_behind_deed, defScope st_behind_deed, [], []⟩)) (He.glo_ok X G (c0.t.d.fact 75 (f := .glo "behind_deed")))
  fn_behind_saying := fnB_ok (c3.t.d.def_ 7 (d := ⟨("behind_saying", none), "behind_saying", "behind_saying", defArgs st_behind_saying, defBody st_behind_saying, defScope st_behind_saying, [], []⟩)) (He.glo_ok X G (c0.t.d.fact 76 (f := .glo "behind_saying")))
  fn_cases_of := fnB_ok (c3.t.d.def_ 8 (d := ⟨("cases_of", none), "cases_of", "cases_of", defArgs st_cases_of, defBody st_cases_of, defScope st_cases_of, [], []⟩)) (He.glo_ok X G (c0.t.d.fact 77 (f := .glo "cases_of")))
  fn_chance_in := fnB_ok (c3.t.d.def_ 9 (d := ⟨("chance_in", none), "chance_in", "chance_in", defArgs st_chance_in, defBody st_chance_in, defScope st_chance_in, [], []⟩)) (He.glo_ok X G (c0.t.d.fact 78 (f := .glo "chance_in")))
  fn_check_case := fnB_ok (c3.t.d.def_ 10 (d := ⟨("check_case", none), "check_case", "check_case", defArgs st_check_case, defBody st_check_case, defScope st_check_case, [], []⟩)) (He.glo_ok X G (c0.t.d.fact 79 (f := .glo "check_case")))
  fn_check_deed := fnB_ok (c3.t.d.def_ 11 (d := ⟨("check_deed", none), "check_deed", "check_deed", defArgs st_check_deed, defBody st_check_deed, defScope st_check_deed, [], []⟩)) (He.glo_ok X G (c0.t.d.fact 80 (f := .glo "check_deed")))
  fn_check_hall := fnB_ok (c3.t.d.def_ 12 (d := ⟨("check_hall", none), "check_hall", "check_hall", defArgs st_check_hall, defBody st_check_hall, defScope st_check_hall, [], []⟩)) (He.glo_ok X G (c0.t.d.fact 81 (f := .glo "check_hall")))
  fn_check_lot := fnB_ok (c3.t.d.def_ 13 (d := ⟨("check_lot", none), "check_lot", "check_lot", defArgs st_check_lot, defBody st_check_lot, defScope st_check_lot, [], []⟩)) (He.glo_ok X G (c0.t.d.fact 82 (f := .glo "check_lot")))
  fn_check_person := fnB_ok (c3.t.d.def_ 14 (d := ⟨("check_person", none), "check_person", "check_person", defArgs st_check_person, defBody st_check_person, defScope st_check_person, [], []⟩)) (He.glo_ok X G (c0.t.d.fact 83 (f := .glo "check_person")))
  fn_check_tellings := fnB_ok (c3.t.d.def_ 15 (d := ⟨("check_tellings", none), "check_tellings", "check_tellings", defArgs st_check_tellings, defBody st_check_tellings, defScope st_check_tellings, [], []⟩)) (He.glo_ok X G (c0.t.d.fact 84 (f := .glo "check_tellings")))
  fn_common_of := fnB_ok (c3.t.d.def_ 16 (d := ⟨("common_of", none), "common_of", "common_of", defArgs st_common_of, defBody st_common_of, defScope st_common_of, [], []⟩)) (He.glo_ok X G (c0.t.d.fact 85 (f := .glo "common_of")))
  fn_divided := fnB_ok (c3.t.d.def_ 17 (d := ⟨("divided", none), "divided", "divided", defArgs st_divided, defBody st_divided, defScope st_divided, [], []⟩)) (He.glo_ok X G (c0.t.d.fact 86 (f := .glo "divided")))
  fn_first_wrong := fnB_ok (c3.t.d.def_ 18 (d := ⟨("first_wrong", none), "first_wrong", "first_wrong", defArgs st_first_wrong, defBody st_first_wrong, defScope st_first_wrong, [], []⟩)) (He.glo_ok X G (c0.t.d.fact 87 (f := .glo "first_wrong")))
  fn_has_form := fnB_ok (c3.t.d.def_ 19 (d := ⟨("has_form", none), "has_form", "has_form", defArgs st_has_form, defBody st_has_form, defScope st_has_form, [], []⟩)) (He.glo_ok X G (c0.t.d.fact 88 (f := .glo "has_form")))
  fn_is_between := fnB_ok (c3.t.d.def_ 20 (d := ⟨("is_between", none), "is_between", "is_between", defArgs st_is_between, defBody st_is_between, defScope st_is_between, [], []⟩)) (He.glo_ok X G (c0.t.d.fact 89 (f := .glo "is_between")))
  fn_is_case := fnB_ok (c3.t.d.def_ 21 (d := ⟨("is_case", none), "is_case", "is_case", defArgs st_is_case, defBody st_is_case, defScope st_is_case, [], []⟩)) (He.glo_ok X G (c0.t.d.fact 90 (f := .glo "is_case")))
  fn_is_cases := fnB_ok (c3.t.d.def_ 22 (d := ⟨("is_cases", none), "is_cases", "is_cases", defArgs st_is_cases, defBody st_is_cases, defScope st_is_cases, [], []⟩)) (He.glo_ok X G (c0.t.d.fact 91 (f := .glo "is_cases")))
  fn_is_fraction := fnB_ok (c3.t.d.def_ 23 (d := ⟨("is_fraction", none), "is_fraction", "is_fraction", defArgs st_is_fraction, defBody st_is_fraction, defScope st_is_fraction, [], []⟩)) (He.glo_ok X G (c0.t.d.fact 92 (f := .glo "is_fraction")))
  fn_is_lot := fnB_ok (c3.t.d.def_ 24 (d := ⟨("is_lot", none), "is_lot", "is_lot", defArgs st_is_lot, defBody st_is_lot, defScope st_is_lot, [], []⟩)) (He.glo_ok X G (c0.t.d.fact 93 (f := .glo "is_lot")))
  fn_is_lot_of := fnB_ok (c4.t.d.def_ 0 (d := ⟨("is_lot_of", none), "is_lot_of", "is_lot_of", defArgs st_is_lot_of, defBody st_is_lot_of, defScope st_is_lot_of, [], []⟩)) (He.glo_ok X G (c0.t.d.fact 94 (f := .glo "is_lot_of")))
  fn_is_part := fnB_ok (c4.t.d.def_ 1 (d := ⟨("is_part", none), "is_part", "is_part", defArgs st_is_part, defBody st_is_part, defScope st_is_part, [], []⟩)) (He.glo_ok X G (c0.t.d.fact 95 (f := .glo "is_part")))
  fn_is_person := fnB_ok (c4.t.d.def_ 2 (d := ⟨("is_person", none), "is_person", "is_person", defArgs st_is_person, defBody st_is_person, defScope st_is_person, [], []⟩)) (He.glo_ok X G (c0.t.d.fact 96 (f := .glo "is_person")))
  fn_is_row := fnB_ok (c4.t.d.def_ 3 (d := ⟨("is_row", none), "is_row", "is_row", defArgs st_is_row, defBody st_is_row, defScope st_is_row, [], []⟩)) (He.glo_ok X G (c0.t.d.fact 97 (f := .glo "is_row")))
  fn_is_string := fnB_ok (c4.t.d.def_ 4 (d := ⟨("is_string", none), "is_string", "is_string", defArgs st_is_string, defBody st_is_string, defScope st_is_string, [], []⟩)) (He.glo_ok X G (c0.t.d.fact 98 (f := .glo "is_string")))
  fn_is_telling := fnB_ok (c4.t.d.def_ 5 (d := ⟨("is_telling", none), "is_telling", "is_telling", defArgs st_is_telling, defBody st_is_telling, defScope st_is_telling, [], []⟩)) (He.glo_ok X G (c0.t.d.fact 99 (f := .glo "is_telling")))
  fn_is_tuple_of := fnB_ok (c4.t.d.def_ 6 (d := ⟨("is_tuple_of", none), "is_tuple_of", "is_tuple_of", defArgs st_is_tuple_of, defBody st_is_tuple_of, defScope st_is_tuple_of, [], []⟩)) (He.glo_ok X G (c0.t.d.fact 100 (f := .glo "is_tuple_of")))
  fn_is_whole := fnB_ok (c4.t.d.def_ 7 (d := ⟨("is_whole", none), "is_whole", "is_whole", defArgs st_is_whole, defBody st_is_whole, defScope st_is_whole, [], []⟩)) (He.glo_ok X G (c0.t.d.fact 101 (f := .glo "is_whole")))
  fn_law := fnB_ok (c4.t.d.def_ 8 (d := ⟨("law", none), "law", "law", defArgs st_law, defBody st_law, defScope st_law, [], []⟩)) (He.glo_ok X G (c0.t.d.fact 102 (f := .glo "law")))
  fn_led_by := fnB_ok (c4.t.d.def_ 9 (d := ⟨("led_by", none), "led_by", "led_by", defArgs st_led_by, defBody st_led_by, defScope st_led_by, [], []⟩)) (He.glo_ok X G (c0.t.d.fact 103 (f := .glo "led_by")))
  fn_lowest := fnB_ok (c4.t.d.def_ 10 (d := ⟨("lowest", none), "lowest", "lowest", defArgs st_lowest, defBody st_lowest, defScope st_lowest, [], []⟩)) (He.glo_ok X G (c0.t.d.fact 104 (f := .glo "lowest")))
  fn_part_at := fnB_ok (c4.t.d.def_ 11 (d := ⟨("part_at", none), "part_at", "part_at", defArgs st_part_at, defBody st_part_at, defScope st_part_at, [], []⟩)) (He.glo_ok X G (c0.t.d.fact 105 (f := .glo "part_at")))
  fn_parts_of := fnB_ok (c4.t.d.def_ 12 (d := ⟨("parts_of", none), "parts_of", "parts_of", defArgs st_parts_of, defBody st_parts_of, defScope st_parts_of, [], []⟩)) (He.glo_ok X G (c0.t.d.fact 106 (f := .glo "parts_of")))
  fn_persons_of := fnB_ok (c4.t.d.def_ 13 (d := ⟨("persons_of", none), "persons_of", "persons_of", defArgs st_persons_of, defBody st_persons_of, defScope st_persons_of, [], []⟩)) (He.glo_ok X G (c0.t.d.fact 107 (f := .glo "persons_of")))
  fn_piece_in := fnB_ok (c4.t.d.def_ 14 (d := ⟨("piece_in", none), "piece_in", "piece_in", defArgs st_piece_in, defBody st_piece_in, defScope st_piece_in, [], []⟩)) (He.glo_ok X G (c0.t.d.fact 108 (f := .glo "piece_in")))
  fn_plus := fnB_ok (c4.t.d.def_ 15 (d := ⟨("plus", none), "plus", "plus", defArgs st_plus, defBody st_plus, defScope st_plus, [], []⟩)) (He.glo_ok X G (c0.t.d.fact 109 (f := .glo "plus")))
  fn_reason_against := fnB_ok (c4.t.d.def_ 16 (d := ⟨("reason_against", none), "reason_against", "reason_against", defArgs st_reason_against, defBody st_reason_against, defScope st_reason_against, [], []⟩)) (He.glo_ok X G (c0.t.d.fact 110 (f := .glo "reason_against")))
  fn_says_by := fnB_ok (c4.t.d.def_ 17 (d := ⟨("says_by", none), "says_by", "says_by", defArgs st_says_by, defBody st_says_by, defScope st_says_by, [], []⟩)) (He.glo_ok X G (c0.t.d.fact 111 (f := .glo "says_by")))
  fn_seen_by := fnB_ok (c4.t.d.def_ 18 (d := ⟨("seen_by", none), "seen_by", "seen_by", defArgs st_seen_by, defBody st_seen_by, defScope st_seen_by, [], []⟩)) (He.glo_ok X G (c0.t.d.fact 112 (f := .glo "seen_by")))
  fn_sees_by := fnB_ok (c4.t.d.def_ 19 (d := ⟨("sees_by", none), "sees_by", "sees_by", defArgs st_sees_by, defBody st_sees_by, defScope st_sees_by, [], []⟩)) (He.glo_ok X G (c0.t.d.fact 113 (f := .glo "sees_by")))
  fn_sum_of := fnB_ok (c4.t.d.def_ 20 (d := ⟨("sum_of", none), "sum_of", "sum_of", defArgs st_sum_of, defBody st_sum_of, defScope st_sum_of, [], []⟩)) (He.glo_ok X G (c0.t.d.fact 114 (f := .glo "sum_of")))
  fn_told_of := fnB_ok (c4.t.d.def_ 21 (d := ⟨("told_of", none), "told_of", "told_of", defArgs st_told_of, defBody st_told_of, defScope st_told_of, [], []⟩)) (He.glo_ok X G (c0.t.d.fact 115 (f := .glo "told_of")))
  ki_2_8 := of_decide_eq_true (exAt c1.more 23 (f := fun K => kitOB K "InvalidNumber" "HallError" true))
  ki_4_8 := of_decide_eq_true (exAt c1.more 24 (f := fun K => kitOB K "NotAHall" "HallError" true))
  mk_Hall := mkB_ok (c4.t.d.def_ 22 (d := ⟨("Hall", some "__init__"), "__init__", "Hall.__init__", defArgs st_Hall___init__, defBody st_Hall___init__, defScope st_Hall___init__, [], []⟩)) (He.glo_ok X G (c0.t.d.fact 46 (f := .glo "Hall"))) (c0.t.d.fact 116 (f := .mkr "Hall"))
  mk_Meeting := mkB_ok (c4.t.d.def_ 23 (d := ⟨("Meeting", some "__init__"), "__init__", "Meeting.__init__", defArgs st_Meeting___init__, defBody st_Meeting___init__, defScope st_Meeting___init__, [], []⟩)) (He.glo_ok X G (c0.t.d.fact 48 (f := .glo "Meeting"))) (c0.t.d.fact 117 (f := .mkr "Meeting"))
  mt_Hall___eq__ := mtB_ok (c4.t.d.def_ 24 (d := ⟨("Hall", some "__eq__"), "__eq__", "Hall.__eq__", defArgs st_Hall___eq__, defBody st_Hall___eq__, defScope st_Hall___eq__, [], []⟩)) (c0.t.d.fact 118 (f := .meth "Hall" "__eq__"))
  mt_Meeting___eq__ := mtB_ok (c5.t.d.def_ 0 (d := ⟨("Meeting", some "__eq__"), "__eq__", "Meeting.__eq__", defArgs st_Meeting___eq__, defBody st_Meeting___eq__, defScope st_Meeting___eq__, [], []⟩)) (c0.t.d.fact 119 (f := .meth "Meeting" "__eq__"))
  mt_Meeting_do := mtB_ok (c5.t.d.def_ 1 (d := ⟨("Meeting", some "do"), "do", "Meeting.do", defArgs st_Meeting_do, defBody st_Meeting_do, defScope st_Meeting_do, [], []⟩)) (c0.t.d.fact 120 (f := .meth "Meeting" "do"))
  mt_Meeting_left_open := mtB_ok (c5.t.d.def_ 2 (d := ⟨("Meeting", some "left_open"), "left_open", "Meeting.left_open", defArgs st_Meeting_left_open, defBody st_Meeting_left_open, defScope st_Meeting_left_open, [], []⟩)) (c0.t.d.fact 121 (f := .meth "Meeting" "left_open"))
  mt_Meeting_says := mtB_ok (c5.t.d.def_ 3 (d := ⟨("Meeting", some "says"), "says", "Meeting.says", defArgs st_Meeting_says, defBody st_Meeting_says, defScope st_Meeting_says, [], []⟩)) (c0.t.d.fact 122 (f := .meth "Meeting" "says"))
  mt_Meeting_sees := mtB_ok (c5.t.d.def_ 4 (d := ⟨("Meeting", some "sees"), "sees", "Meeting.sees", defArgs st_Meeting_sees, defBody st_Meeting_sees, defScope st_Meeting_sees, [], []⟩)) (c0.t.d.fact 123 (f := .meth "Meeting" "sees"))
  mt_Meeting_undo := mtB_ok (c5.t.d.def_ 5 (d := ⟨("Meeting", some "undo"), "undo", "Meeting.undo", defArgs st_Meeting_undo, defBody st_Meeting_undo, defScope st_Meeting_undo, [], []⟩)) (c0.t.d.fact 124 (f := .meth "Meeting" "undo"))
  no_2 := He.eqO_ok (c0.t.d.fact 11 (f := .noat "InvalidNumber" "given"))
  no_4 := He.eqO_ok (c0.t.d.fact 17 (f := .noat "NotAHall" "given"))
  no_7 := He.eqO_ok (c0.t.d.fact 2 (f := .noat "Barred" "reason"))
  xc_2 := xccB_ok (exAt c1.more 25 (f := fun K => xccB K (He.ga K "InvalidNumber")))
  xc_4 := xccB_ok (exAt c1.more 26 (f := fun K => xccB K (He.ga K "NotAHall")))
  xf_2 := xfB_ok (exAt c1.more 27 (f := fun K => xfB K (He.ga K "InvalidNumber")))
  xf_4 := xfB_ok (exAt c1.more 28 (f := fun K => xfB K (He.ga K "NotAHall")))
  xf_7 := xfB_ok (exAt c1.more 29 (f := fun K => xfB K (He.ga K "Barred")))
theorem ndt79 {w : World} {K : PySem.W.Frag} {h : Heap} (c0 : SaysP pc79_0 w h K) (c1 : SaysP pc79_1 w h K) : ((tf79.map (He.cT K)).map (·.2)).Nodup := by
  simp only [tf79, List.map_cons, List.map_nil, List.nodup_cons, List.mem_cons, List.not_mem_nil, or_false, not_or, not_false_iff, List.nodup_nil, and_true]
  have _ := c0
  exact of_decide_eq_true (exAt c1.more 30 (f := fun K => decide ((He.cT K ("wrong_telling", none)).2 ≠ (He.cT K ("_law_right", none)).2)))
abbrev R79 : PySem.W.OpenRow := PySem.W.OpenLaw.row PySem.Challenge.rw_priorhall_k78_meetings_made
abbrev qv79 : Program := PySem.W.view R79.prog [0, 90]
def nm79_0 : List Str := ["_wall", "HallError", "InvalidNumber", "InvalidLot", "NotAHall", "InvalidTellings", "InvalidDeed", "Barred", "is_whole", "is_number", "is_between", "is_string", "is_tuple_of", "is_row", "first_wrong", "ZERO", "ONE", "lowest", "is_fraction", "plus", "divided", "sum_of", "FEWEST_CASES", "MOST_CASES", "MOST_PERSONS", "is_cases", "is_lot_of", "are_chances", "is_part", "is_telling"]
def nm79_1 : List Str := ["wrong_telling", "check_tellings", "Hall", "parts_of", "check_hall", "cases_of", "persons_of", "is_case", "check_case", "is_person", "check_person", "is_lot", "check_lot", "common_of", "part_at", "seen_by", "told_of", "chance_in", "sees_by", "says_by", "behind_saying", "piece_in", "SIZES", "FALSE", "KNOWN", "has_form", "check_deed", "reason_against", "behind_deed", "Meeting"]
def nm79_2 : List Str := ["led_by", "_law_pool", "_law_draw", "_law_pick", "_law_cut", "_law_plus", "_law_over", "_law_sum", "_law_parted", "_law_hall", "_law_made", "_law_part", "_law_told_chance", "_law_barred", "_law_begun", "_law_lot", "_law_sees", "_law_says", "_law_deed", "_law_told", "_law_due", "_law_refused", "_law_right"]
def nm79 : List Str := nm79_0 ++ nm79_1 ++ nm79_2
theorem run79f (w : World) : HandSHeadRun.RunEqI R79 qv79 (hookP ps79) (obP ps79) 60000 nm79 (w.withFollow "special-get-raises" false) := by
  unfold HandSHeadRun.RunEqI
  kernel_rfl
theorem run79t (w : World) : HandSHeadRun.RunEqI R79 qv79 (hookP ps79) (obP ps79) 60000 nm79 (w.withFollow "special-get-raises" true) := by
  unfold HandSHeadRun.RunEqI
  kernel_rfl
theorem run79 (w : World) : HandSHeadRun.RunEqI R79 qv79 (hookP ps79) (obP ps79) 60000 nm79 w := PySem.W.byRow2 "special-get-raises" (P := fun w => HandSHeadRun.RunEqI R79 qv79 (hookP ps79) (obP ps79) 60000 nm79 w) run79f run79t w
end Ph
end
section
set_option Elab.async false
set_option linter.all false
set_option maxRecDepth 100000
set_option maxHeartbeats 0
namespace Ph
open PySem PySem.Spec PyProof.Rows L2
theorem fin79 {w : World} {mg : Str → Option Value} {fa : Addr} {h : Heap} (G : h.Ns mainGlobals mg) (hmg : mg "law" = some (.ref fa)) (Y : (hookP ps79).says w h) : ∃ (K : PySem.W.Frag) (fd : FuncData) (cs : List (Addr × Addr)) (sp : Sp), K.In h ∧
      (∀ p ∈ cs, h.get? p.2 = some { cls := .none, data := .fields #[] }) ∧ (∀ p ∈ cs, K.lookup p.2 = none) ∧ (∀ p ∈ cs, PySem.W.CodeHd h p.1 p.2) ∧ (∀ (s : Shared) (u : Value), BindsTo s fd ⟨[u], []⟩ [("script", u)]) ∧
      (∀ (H : Hp) (a : Addr) (ns : List Int), ns.length ≤ 63 → (∀ z ∈ ns, Builtin.Int.intBits z ≤ 1048576) → (∀ p ∈ cs, H p.2 = some (.tbl #[])) → LstK K H a (ns.map V.int) → sp [.ref a] H (fun v _ => v = .bl true) fun _ _ _ => False) ∧
      ∀ base : Heap, K.In base → base.Ns mainGlobals mg → (∀ p ∈ cs, LamX.TabB base mg p.1 p.2) → FnOkG (PySem.Challenge.rw_priorhall_k78_meetings_made).prog w K mg base (L2.CX (PySem.Challenge.rw_priorhall_k78_meetings_made).prog w) 16 fa fd ["script"] sp := by
  obtain ⟨K, X, c⟩ := Y
  have cc : ∀ p, p ∈ ps79 → SaysP p w h K := c
  have TX := fun (base : Heap) (TB : ∀ p ∈ tf79.map (He.cT K), LamX.TabB base mg p.1 p.2) => txt79 (P := (PySem.Challenge.rw_priorhall_k78_meetings_made).prog) (base := base) X G (cc pc79_0 (by simp [ps79])) (cc pc79_1 (by simp [ps79])) (cc pc79_2 (by simp [ps79])) (cc pc79_3 (by simp [ps79])) (cc pc79_4 (by simp [ps79])) (cc pc79_5 (by simp [ps79])) TB
  have c0 := cc pc79_0 (by simp [ps79])
  have c1 := cc pc79_1 (by simp [ps79])
  have c2 := cc pc79_2 (by simp [ps79])
  have c3 := cc pc79_3 (by simp [ps79])
  have c4 := cc pc79_4 (by simp [ps79])
  have c5 := cc pc79_5 (by simp [ps79])
  obtain ⟨f, fd, Fn, hf⟩ : ∃ f fd, Fun K "law" "law" st_law f fd ∧ mg "law" = some (.ref f) := fnB_ok (c4.t.d.def_ 8 (d := ⟨("law", none), "law", "law", defArgs st_law, defBody st_law, defScope st_law, [], []⟩)) (He.glo_ok X G (c0.t.d.fact 102 (f := .glo "law")))
  have ef : f = fa := by
    rw [hf] at hmg
    cases hmg
    rfl
  subst ef
  have hb : BindsH "law" "law" st_law ["script"] := fun _ _ _ _ _ _ us hl => match us, hl with | [_], _ => rfl
  refine ⟨K, fd, tf79.map (He.cT K), spS (gx K (cn79 K)) g_law, X, fun p hp => ?_, fun p hp => ?_, fun p hp => ?_, law_binds Fn hb, fun H a ns h1 h2 h3 h4 => ?_, fun base X' G' TB => ?_⟩
  · obtain ⟨q, hq, rfl⟩ := List.mem_map.mp hp
    exact c0.empty q hq
  · obtain ⟨q, hq, rfl⟩ := List.mem_map.mp hp
    exact c0.out q hq
  · obtain ⟨q, hq, rfl⟩ := List.mem_map.mp hp
    exact PySem.W.codeHd_of_K X (c0.hd q hq)
  · refine law_sp (G := gx K (cn79 K)) (qs := [q_telling, q__law_right]) (as := (tf79.map (He.cT K)).map (·.2)) rfl ?_ ?_ (fun b hb => ?_) h4 (plain79 ns h1 h2)
    · exact ndt79 c0 c1
    · intro i b hi
      match i, hi with
      | 0, hi => exact (Option.some.inj hi).symm
      | 1, hi => exact (Option.some.inj hi).symm
      | i + 2, hi => simp [tf79] at hi
    · obtain ⟨p, hp, rfl⟩ := List.mem_map.mp hb
      exact h3 p hp
  · exact fnG_of (G := gx K (cn79 K)) Fn sc_law (B_law (TX base TB)) gRun_len fun ds π h => gRun_sem h
end Ph
open PySem PySem.W PySem.Calls PyProof.Rows
theorem PySem.Challenge.cw_priorhall_k78_meetings_made_holds : PySem.Challenge.rw_priorhall_k78_meetings_made.Holds := by
  w_on; o_law
  refine HandSHeadRun.head_imp (r := Ph.R79) (q := Ph.qv79) (H := Ph.hookP Ph.ps79) (ob := Ph.obP Ph.ps79) (M := 60000) (loose := Ph.nm79) (d := HandSHeadRun.topDef Ph.R79.prog 90) (kwd := []) (Ph.obP_eq _) Ph.run79
    (by kernel_rfl) (by kernel_rfl) (by kernel_rfl) (by rfl) (by first | assumption | decide +kernel) (by decide +kernel) ⟨rfl, rfl, rfl, rfl, rfl, by decide +kernel⟩ ?hw ?hc
  case hw => w_witness2
  case hc =>
    refine Ph.walk_G (l := PySem.Challenge.rw_priorhall_k78_meetings_made) (n := 63) (k := 16) (x := "script") rfl (by decide) (by kernel_rfl) ⟨rfl, by decide, by decide⟩ ?F
    intro w mg fa h Y G hmg0
    have hmg : mg ("law" : PySem.Str) = some (.ref fa) := by
      have e : (HandSHeadRun.topDef Ph.R79.prog 90).name = ("law" : PySem.Str) := by kernel_rfl
      rw [← e]
      exact hmg0
    exact Ph.fin79 G hmg Y
#print axioms PySem.Challenge.cw_priorhall_k78_meetings_made_holds
end
