import PyProof.Rows.All
import Wide.All
import OpenK.AllK
import Wide.FinOn
import HandS.ForMost
import HandS.ForExc
import HandS.CallSlots
import HandS.TupAny
import HandS.Nested
import HandS.Wide
import HandS.WideBits
import HandS.Flow
import HandS.Star
import HandS.IsInst
import HandS.Property
import HandS.Conv
import HandS.Zip
import HandS.SortInts
import HandS.Iter
import HandS.Gcd
import HandS.Text
import HandS.NoneIn
import HandS.Codes
import HandS.TryOnly
import KE.KDictCopyH
import KE.KDictKeyed
import KE.KDictSum
import HandS.Call
import HandS.MakeKwOnly
import PyProof.InstNe
import KE.SortKeyHeap
import KE.KSortKey
import HandS.Lambda
import HandS.SortKw
import HandS.More
import HandS.Head0
import HandS.Head1
import HandS.Head2
import HandS.HeadEnd
import HandS.HeadHook1
import HandS.HeadHook2
import HandS.HeadHook3
import HandS.HeadHook4
import HandS.HeadWalk
import HandS.Style
import HandS.EndTab
import HandS.Head3
import PySem.Challenge.RW_turnedpairs_k79_whole_faults_of_cases
section
set_option Elab.async false
set_option linter.all false
set_option maxRecDepth 100000
set_option maxHeartbeats 2000000
/-! DM0: tuples whose object is known (it has no dict of its own: methods may be asked of it). -/
namespace DM
open PySem PySem.Spec PyProof.Rows L2
/-- the object of a plain tuple -/
def PlainT (o : Obj) : Prop := o.cls = .type "tuple" ∧ o.dict = none
/-- a tuple that stands still, its object plain -/
def TupR (K : PySem.W.Frag) (F : Hp) (a : Addr) (xs : List V) : Prop := (∃ o, F a = some (.frz o (.tup xs)) ∧ PlainT o) ∨
  ∃ (o : Obj) (its : Array Value) (n : Nat), K.lookup a = some o ∧ PlainT o ∧ o.data = .seq its n ∧ its.size ≤ sizeLine ∧ Vals xs its.toList
theorem TupR.sq {K : PySem.W.Frag} {F : Hp} {a : Addr} {xs : List V} (h : TupR K F a xs) : SqT K F a xs := by
  rcases h with ⟨o, h, _⟩ | ⟨o, its, n, h1, h2, h3, h4, h5⟩
  · exact .inl (.inr ⟨o, h⟩)
  · exact .inr ⟨o, its, n, h1, h2.1, h3, h4, h5⟩
theorem TupR.ext {K : PySem.W.Frag} {F H : Hp} {a : Addr} {xs : List V} (e : ∀ b o, F b = some o → H b = some o) (h : TupR K F a xs) : TupR K H a xs := by
  rcases h with ⟨o, h, p⟩ | h
  · exact .inl ⟨o, e _ _ h, p⟩
  · exact .inr h
/-- what a new tuple gives -/
def NewT (H : Hp) (xs : List V) (Q : VK) : Prop := ∀ p o, H p = none → PlainT o → Q (.ref p) (upd H p (.frz o (.tup xs)))
section
variable {X : Cx} {pins : List (Addr × Obj)} {σ : L2.St} {H : Hp} {s : Shared}
theorem laidT {us : List Value} {xs : List V} {Q : VK} {t' : Nat} {o : Obj} (I : Inv X pins σ H s) (ho : o = { cls := .type "tuple", data := .seq us.toArray }) (r : Vals xs us) (hz : xs.length ≤ sizeLine) (q : NewT H xs Q) :
    EP X pins σ Q (.ref s.heap.objs.size) { s with heap := s.heap.push o, toks := t' } := by
  subst ho
  refine ⟨.ref s.heap.objs.size, _, I.laid (t' := t') (fun b u e => Heap.get?_push_of_some _ e) (Nat.le_refl _) ?_, rfl, q _ { cls := .type "tuple", data := .seq us.toArray } (I.hok.fresh (Nat.le_refl _)) ⟨rfl, rfl⟩⟩
  exact ⟨Heap.get?_push_size _ rfl, hz, us, r, IsTup.new _ _⟩
/-- (e, ..) -/
def tTupF (t : TA) : TE := fun σ H Q => t σ H fun xs H1 => xs.length ≤ sizeLine ∧ NewT H1 xs Q
theorem pe_tupF {es : List Expr} {t : TA} {pos : Pos} {x1} (h : PA X es t) : PE X (.Tuple es x1 pos) (tTupF t) := by
  refine ⟨fun pins s σ H Q I hq => ?_⟩
  refine wpAny_Tuple_spliced (thn (h.run pos pins s σ H _ I hq) fun us s1 ⟨xs, H1, I1, r, z, q⟩ => ⟨by rw [← r.length]; exact z, ?_⟩)
  exact laidT (t' := s1.toks) I1 rfl r z q
/-- t + u -/
def rCatF (K : PySem.W.Frag) : R2 := fun x y H Q => ∃ a b xs ys, x = .ref a ∧ y = .ref b ∧ SqT K H a xs ∧ SqT K H b ys ∧ xs.length + ys.length ≤ sizeLine ∧
  (xs = [] → Q (.ref b) H) ∧ (xs ≠ [] → ys = [] → Q (.ref a) H) ∧ (xs ≠ [] → ys ≠ [] → NewT H (xs ++ ys) Q)
theorem op_catF : OpR X (binaryOp .Add) (rCatF X.K) := by
  intro pins s σ H x y v u Q I rx ry h
  obtain ⟨a, b, xs, ys, rfl, rfl, ha, hb, hz, q0, q1, q2⟩ := h
  by_cases hx : xs = []
  · exact op_catA pins s σ H _ _ v u Q I rx ry ⟨a, b, xs, ys, rfl, rfl, ha, hb, hz, q0, fun z => absurd hx z, fun z => absurd hx z⟩
  · cases rx
    cases ry
    obtain ⟨its, r1, p1, _⟩ := I.tuple ha
    obtain ⟨its2, r2, p2, _⟩ := I.tuple hb
    refine HT.cat_tup p1 p2 (fun z => hx (r1.nil_iff.mp z)) (fun z => ⟨.ref a, H, I, rfl, q1 hx (r2.nil_iff.mp z)⟩) (fun z => ?_) (by rw [← r1.length, ← r2.length]; exact hz)
    exact laidT (t' := s.toks) I rfl (r1.append r2) (by rw [List.length_append]; exact hz) (q2 hx fun w => z (r2.nil_iff.mpr w))
/-- t[lo:hi] -/
def rSlF (K : PySem.W.Frag) : V → Option Int → Option Int → Hp → VK → Prop := fun x lo hi H Q => ∃ a xs, x = .ref a ∧ SqT K H a xs ∧
  (HT.sIx xs.length 0 lo = 0 ∧ HT.sIx xs.length xs.length hi = xs.length → Q (.ref a) H) ∧ (¬ (HT.sIx xs.length 0 lo = 0 ∧ HT.sIx xs.length xs.length hi = xs.length) → NewT H (cutV xs lo hi) Q)
theorem sl_tupF : SlR X (rSlF X.K) := by
  intro pins s σ H x v vl vu lo hi sl Q I rx hs pl pu h
  obtain ⟨a, xs, rfl, hx, q1, q2⟩ := h
  cases rx
  obtain ⟨its, r, ht, hz⟩ := I.tuple hx
  have hlen : its.toArray.size = xs.length := by rw [List.size_toArray]; exact r.length.symm
  refine ⟨"tuple", _, PyProof.Rows.slot_tuple_getitem.lookup, ht.typeIs, ?_⟩
  by_cases hw : HT.sIx xs.length 0 lo = 0 ∧ HT.sIx xs.length xs.length hi = xs.length
  · exact getItem_tuple_whole ht hs pl pu (by rw [hlen]; exact hw) ⟨.ref a, H, I, rfl, q1 hw⟩
  · refine HT.getItem_tuple_cut ht hs pl pu (by rw [hlen]; exact hw) ?_ (by rw [hlen]; exact hz)
    rw [hlen]
    exact laidT (t' := s.toks) I rfl ((r.drop _).take _) (Nat.le_trans (cutV_length xs lo hi) hz) (q2 hw)
/-- tuple(xs), xs a list; tuple(t) is t -/
theorem call_tupleF : CallR X (.type "tuple") (fun xs H Q => ∃ p ys, xs = [.ref p] ∧ ((SqL X.K H p ys ∧ NewT H ys Q) ∨ (SqT X.K H p ys ∧ Q (.ref p) H))) := by
  intro pins s σ H xs us Q I r h
  obtain ⟨p, ys, rfl, h⟩ := h
  rcases h with ⟨hq, q⟩ | ⟨hq, q⟩
  · obtain ⟨u, rfl, rx⟩ := vals1 r
    cases rx
    obtain ⟨its, r', pl, hz⟩ := I.list hq
    have hlen := r'.length
    refine call_tuple_list pl.isList (fun h' kp => ?_) (by simp only [List.size_toArray]; omega)
    have I1 : Inv X pins σ H { s with heap := h' } := I.kept (t' := s.toks) kp
    exact laidT (t' := s.toks) I1 rfl r' hz q
  · exact call_tuple_of pins s σ H [.ref p] us Q I r ⟨p, ys, rfl, .inr ⟨hq, q⟩⟩
/-- divmod -/
theorem call_divmodF : CallR X (.builtin "divmod") (fun xs H Q => ∃ i j, xs = [.int i, .int j] ∧ CDiv i j ∧ NewT H [.int (i / j), .int (i % j)] Q) := by
  intro pins s σ H xs us Q I r h
  obtain ⟨i, j, rfl, ⟨h1, h2⟩, q⟩ := h
  obtain ⟨u, w', rfl, ⟨t, rfl⟩, ⟨t', rfl⟩⟩ := vals2 r
  refine divmod_int (by omega) ?_ (.inl (PyProof.noPylong_small (by omega)))
  rw [Int.fdiv_eq_ediv_of_nonneg i (by omega), Int.fmod_eq_emod_of_nonneg i (by omega)]
  exact laidT (us := [.int (i / j) s.toks, .int (i % j) (s.toks + 1)]) (xs := [.int (i / j), .int (i % j)]) I rfl (.cons ⟨_, rfl⟩ (.cons ⟨_, rfl⟩ .nil)) (by show 2 ≤ sizeLine; decide) q
theorem TupR.plain {a : Addr} {xs : List V} (I : Inv X pins σ H s) (h : TupR X.K H a xs) : s.TypeIs (.ref a) "tuple" ∧ ∃ o, s.heap.get? a = some o ∧ o.dict = none := by
  rcases h with ⟨o, h, p⟩ | ⟨o, its, n, h1, h2, h3, h4, h5⟩
  · obtain ⟨e, _⟩ := I.hok a _ h
    exact ⟨⟨o, e, p.1⟩, o, e, p.2⟩
  · have e := I.kIn a o h1
    exact ⟨⟨o, e, h2.1⟩, o, e, h2.2⟩
/-- t.m(e, ..), t a plain tuple -/
def tBT (K : PySem.W.Frag) (r : V → List V → Hp → VK → Prop) (to : TE) (t : TA) : TE := fun σ H Q => to σ H fun x H1 => (∃ a xs, x = .ref a ∧ TupR K H1 a xs) ∧ t σ H1 fun xs H2 => r x xs H2 Q
theorem pe_bt {o e : Expr} {es : List Expr} {to : TE} {t : TA} {name : Str} {id : String} {apos cpos : Pos} {r : V → List V → Hp → VK → Prop} (slot : Slot "tuple" name id) (hty : typeOf (.builtin id) = pure (.type "method_descriptor")) (hm : MtR X id r) (ho : PE X o to) (ha : PA X (e :: es) t)
    (hbase : attributeBase o name X.env (eval o X.env) = eval o X.env := by rfl)
    (hfew : ((backTo cpos (starEach (e :: es) X.env)).all (fun x => !x.1) && (backToKw cpos (keywordEach [] X.env)).all (fun x => x.1.isSome)
      && decide ((e :: es).length + ([] : List Keyword).length + (if ([] : List Keyword).isEmpty then 0 else 1) < 30)) = true := by rfl)
    (hline : (apos.endLine == cpos.line) = true := by rfl) (hs : starEach (e :: es) X.env = (false, eval e X.env) :: starEach es X.env := by rfl) (hplain : (backTo cpos (starEach es X.env)).any (·.1) = false := by rfl) :
    PE X (.Call (.Attribute o name apos) (e :: es) [] cpos) (tBT X.K r to t) := by
  refine ⟨fun pins s σ H Q I h => ?_⟩
  refine wpAny_Call_method_late hbase hfew hline rfl (thn (ho.run pins s σ H _ I h) fun v s1 ⟨x, H1, I1, r1, ⟨a, xs, ex, ty⟩, q1⟩ => ?_)
  subst ex
  cases r1
  obtain ⟨h1, ob, h2, h3⟩ := ty.plain I1
  refine ⟨"tuple", id, PySem.F.plainAttrs_tuple, slot, hty, h1, fun b eb => by cases eb; exact ⟨ob, h2, h3⟩, ?_⟩
  have hA := ha.run cpos pins s1 σ H1 _ I1 q1
  rw [hs] at hA ⊢
  refine Calls.callWith_builtin (by show (false || (backTo cpos (starEach es X.env)).any (·.1)) = false; rw [hplain]; rfl) (Calls.evalArgs_plain ?_)
  exact thn hA fun us s2 ⟨vs, H2, I2, r2, q2⟩ => hm pins s2 σ H2 (.ref a) vs (.ref a) us Q I2 rfl r2 q2
end
end DM

end

section
set_option Elab.async false
set_option linter.all false
set_option maxRecDepth 100000
set_option maxHeartbeats 2000000
/-! DMa: data D, the store, how values stand for data, readings by a mirror function. -/
namespace DM
open PySem PySem.Spec PyProof.Rows L2

/-- data: ref n is the n-th thing of the store (a thing that may change), all else never changes -/
inductive D where
  | non | bl (b : Bool) | int (i : Int) | str (s : Str)
  | tup (ds : List D) | lst (ds : List D) | dct (kvs : List (D × D)) | dxt (kvs : List (List Key × D)) | obj (c : Str) (fs : List (Str × D))
  | wtp (ds : List D) | gl (x : Str) | fn (k : Nat) (cs : List D) | ref (n : Nat)
deriving Inhabited

/-- a thing that may change -/
inductive Ob where
  | lst (ds : List D) | dct (kvs : List (D × D)) | dxt (kvs : List (List Key × D)) | ins (c : Str) (fs : List (Str × D))

abbrev Sto := List Ob
abbrev En := List (Option D)

inductive R (α : Type) where
  | ok (a : α) (st : Sto) | exc (c : Str) (fs : List (Str × D)) (st : Sto) | bad
@[inline] def R.bind {α β : Type} (r : R α) (f : α → Sto → R β) : R β := match r with
  | .ok a st => f a st
  | .exc c fs st => .exc c fs st
  | .bad => .bad
@[simp] theorem R.bind_ok {α β : Type} (a : α) (st : Sto) (f : α → Sto → R β) : (R.ok a st).bind f = f a st := rfl
@[simp] theorem R.bind_exc {α β : Type} (c : Str) (fs : List (Str × D)) (st : Sto) (f : α → Sto → R β) : (R.exc c fs st : R α).bind f = .exc c fs st := rfl
@[simp] theorem R.bind_bad {α β : Type} (f : α → Sto → R β) : (R.bad : R α).bind f = .bad := rfl
abbrev ME := En → Sto → R D
abbrev MA := En → Sto → R (List D)
abbrev MT := En → Sto → R Bool
inductive Fl where
  | nx (ρ : En) | rt (d : D) | bk (ρ : En) | ct (ρ : En) | xc (c : Str) (fs : List (Str × D)) (ρ : En)
inductive RS where
  | ok (f : Fl) (st : Sto) | bad
abbrev MS := En → Sto → RS

/-! ### keys -/
def keyD : Key → D
  | .inl i => .int i
  | .inr x => .str x
def keyTD (ks : List Key) : D := .tup (ks.map keyD)

/-! ### dicts whose keys are tuples -/
abbrev kindT (wd : World) : PySem.HeapKind (default : Program) wd (List Key) := tupleKind (mixKind default wd)
/-- the dict at a: each key, its tuple's address, its value -/
def DX (wd : World) (a : Addr) (kvs : List (List Key × Addr × V)) (h : Heap) : Prop := kvs.length ≤ sizeLine ∧ (a == sysModules) = false ∧ ∃ xs : List (List Key × Addr × Value),
  Paired (fun (p : List Key × Addr × V) (q : List Key × Addr × Value) => p.1 = q.1 ∧ p.2.1 = q.2.1 ∧ RelV p.2.2 q.2.2) kvs xs ∧
  ∃ o es ep, h.get? a = some o ∧ o.ExactDict ∧ o.data = .dict es ep ∧ es.toList = xs.map (entryOfKey (kindT wd)) ∧ (xs.map (·.1)).Nodup
abbrev HX (wd : World) (a : Addr) (kvs : List (List Key × Addr × V)) : HO := .ext (DX wd a kvs)

/-! ### what a value stands for -/
mutual
inductive Rep (wd : World) (K : PySem.W.Frag) (mg : Str → Option Value) (F : Hp) (β : List Addr) : V → D → Prop
  | non : Rep wd K mg F β .non .non
  | bl (b : Bool) : Rep wd K mg F β (.bl b) (.bl b)
  | int (i : Int) : Rep wd K mg F β (.int i) (.int i)
  | str (x : Str) : Rep wd K mg F β (.str x) (.str x)
  | tup {a : Addr} {xs : List V} {ds : List D} (h : TupR K F a xs) (r : RepAll wd K mg F β xs ds) : Rep wd K mg F β (.ref a) (.tup ds)
  | lst {a : Addr} {xs : List V} {ds : List D} (h : SqL K F a xs) (r : RepAll wd K mg F β xs ds) : Rep wd K mg F β (.ref a) (.lst ds)
  | dK {a : Addr} {kvs : List (Key × V)} {ws : List D} (h : Rd F a (.dK kvs)) (r : RepAll wd K mg F β (kvs.map (·.2)) ws) : Rep wd K mg F β (.ref a) (.dct ((kvs.map fun p => keyD p.1).zip ws))
  | dxt {a : Addr} {kvs : List (List Key × Addr × V)} {ws : List D} (h : F a = some (HX wd a kvs)) (hk : ∀ p ∈ kvs, TupR K F p.2.1 (p.1.map kV)) (r : RepAll wd K mg F β (kvs.map (·.2.2)) ws) : Rep wd K mg F β (.ref a) (.dxt ((kvs.map (·.1)).zip ws))
  | obj {a C dx : Addr} {c : Str} {fs : List (Str × V)} {ws : List D} (h : F a = some (.ins C dx fs)) (hc : mg c = some (.ref C)) (r : RepAll wd K mg F β (fs.map (·.2)) ws) : Rep wd K mg F β (.ref a) (.obj c ((fs.map (·.1)).zip ws))
  | wtp {a : Addr} {xs : List V} {ds : List D} (h : F a = some (.tup xs)) (r : RepAll wd K mg F β xs ds) : Rep wd K mg F β (.ref a) (.wtp ds)
  | gl {f : Addr} {x : Str} (h : mg x = some (.ref f)) : Rep wd K mg F β (.ref f) (.gl x)
  | ref {n : Nat} {a : Addr} (h : β[n]? = some a) : Rep wd K mg F β (.ref a) (.ref n)
inductive RepAll (wd : World) (K : PySem.W.Frag) (mg : Str → Option Value) (F : Hp) (β : List Addr) : List V → List D → Prop
  | nil : RepAll wd K mg F β [] []
  | cons {v : V} {vs : List V} {d : D} {ds : List D} (h : Rep wd K mg F β v d) (r : RepAll wd K mg F β vs ds) : RepAll wd K mg F β (v :: vs) (d :: ds)
end

/-- the one list of addresses goes on as the other one -/
abbrev Pre (β β' : List Addr) : Prop := ∀ (n : Nat) (a : Addr), β[n]? = some a → β'[n]? = some a
theorem Pre.refl (β : List Addr) : Pre β β := fun _ _ h => h
theorem Pre.trans {β γ δ : List Addr} (a : Pre β γ) (b : Pre γ δ) : Pre β δ := fun n x h => b n x (a n x h)
/-- what is told of F is told of H -/
abbrev Ex (F H : Hp) : Prop := ∀ a o, F a = some o → H a = some o
theorem Ex.refl (F : Hp) : Ex F F := fun _ _ h => h
theorem Ex.trans {F G H : Hp} (a : Ex F G) (b : Ex G H) : Ex F H := fun x o h => b x o (a x o h)
theorem Ex.rd {F H : Hp} (e : Ex F H) {a : Addr} {u : HO} (h : Rd F a u) : Rd H a u := h.elim (fun z => .inl (e _ _ z)) fun ⟨o, z⟩ => .inr ⟨o, e _ _ z⟩
theorem Ex.sl {F H : Hp} (e : Ex F H) {K : PySem.W.Frag} {a : Addr} {xs : List V} (h : SqL K F a xs) : SqL K H a xs := h.elim (fun z => .inl (e.rd z)) .inr
theorem Ex.stp {F H : Hp} (e : Ex F H) {K : PySem.W.Frag} {a : Addr} {xs : List V} (h : SqT K F a xs) : SqT K H a xs := h.elim (fun z => .inl (e.rd z)) .inr
theorem Ex.new {F : Hp} {p : Addr} {o : HO} (h : F p = none) : Ex F (upd F p o) := fun a u e => by rw [upd_ne (ne_of_none e h)]; exact e
theorem Ex.none {F H : Hp} (e : Ex F H) {p : Addr} (h : H p = Option.none) : F p = Option.none := by
  cases q : F p with
  | none => rfl
  | some o => rw [e p o q] at h; cases h

section
variable {wd : World} {K : PySem.W.Frag} {mg : Str → Option Value} {F F' H : Hp} {β β' : List Addr}
mutual
theorem Rep.mono (e : Ex F F') (b : Pre β β') : ∀ {v : V} {d : D}, Rep wd K mg F β v d → Rep wd K mg F' β' v d
  | _, _, .non => .non
  | _, _, .bl b => .bl b
  | _, _, .int i => .int i
  | _, _, .str x => .str x
  | _, _, .tup h r => .tup (h.ext e) (RepAll.mono e b r)
  | _, _, .lst h r => .lst (e.sl h) (RepAll.mono e b r)
  | _, _, .dK h r => .dK (e.rd h) (RepAll.mono e b r)
  | _, _, .dxt h hk r => .dxt (e _ _ h) (fun p q => (hk p q).ext e) (RepAll.mono e b r)
  | _, _, .obj h hc r => .obj (e _ _ h) hc (RepAll.mono e b r)
  | _, _, .wtp h r => .wtp (e _ _ h) (RepAll.mono e b r)
  | _, _, .gl h => .gl h
  | _, _, .ref h => .ref (b _ _ h)
theorem RepAll.mono (e : Ex F F') (b : Pre β β') : ∀ {vs : List V} {ds : List D}, RepAll wd K mg F β vs ds → RepAll wd K mg F' β' vs ds
  | _, _, .nil => .nil
  | _, _, .cons h r => .cons (Rep.mono e b h) (RepAll.mono e b r)
end
theorem RepAll.length : ∀ {vs : List V} {ds : List D}, RepAll wd K mg F β vs ds → vs.length = ds.length
  | _, _, .nil => rfl
  | _, _, .cons _ r => congrArg Nat.succ (RepAll.length r)
theorem RepAll.get : ∀ {vs : List V} {ds : List D} {i : Nat} {d : D}, RepAll wd K mg F β vs ds → ds[i]? = some d → ∃ v, vs[i]? = some v ∧ Rep wd K mg F β v d
  | _, _, _, _, .nil, e => by simp at e
  | _, _, 0, _, .cons h _, e => by simp at e; subst e; exact ⟨_, rfl, h⟩
  | _, _, i + 1, d, .cons _ r, e => by
    obtain ⟨v, h1, h2⟩ := RepAll.get (i := i) (d := d) r (by simpa using e)
    exact ⟨v, by simpa using h1, h2⟩
theorem RepAll.getV : ∀ {vs : List V} {ds : List D} {i : Nat} {v : V}, RepAll wd K mg F β vs ds → vs[i]? = some v → ∃ d, ds[i]? = some d ∧ Rep wd K mg F β v d
  | _, _, _, _, .nil, e => by simp at e
  | _, _, 0, _, .cons h _, e => by simp at e; subst e; exact ⟨_, rfl, h⟩
  | _, _, i + 1, d, .cons _ r, e => by
    obtain ⟨v, h1, h2⟩ := RepAll.getV (i := i) (v := d) r (by simpa using e)
    exact ⟨v, by simpa using h1, h2⟩
theorem RepAll.append : ∀ {vs ws : List V} {ds es : List D}, RepAll wd K mg F β vs ds → RepAll wd K mg F β ws es → RepAll wd K mg F β (vs ++ ws) (ds ++ es)
  | _, _, _, _, .nil, s => s
  | _, _, _, _, .cons h r, s => .cons h (RepAll.append r s)
theorem RepAll.take : ∀ {vs : List V} {ds : List D} (n : Nat), RepAll wd K mg F β vs ds → RepAll wd K mg F β (vs.take n) (ds.take n)
  | _, _, 0, _ => .nil
  | _, _, _ + 1, .nil => .nil
  | _, _, n + 1, .cons h r => .cons h (RepAll.take n r)
theorem RepAll.drop : ∀ {vs : List V} {ds : List D} (n : Nat), RepAll wd K mg F β vs ds → RepAll wd K mg F β (vs.drop n) (ds.drop n)
  | _, _, 0, r => r
  | _, _, _ + 1, .nil => .nil
  | _, _, n + 1, .cons _ r => RepAll.drop n r
theorem RepAll.set {v : V} {d : D} (h : Rep wd K mg F β v d) : ∀ {vs : List V} {ds : List D} (n : Nat), RepAll wd K mg F β vs ds → RepAll wd K mg F β (vs.set n v) (ds.set n d)
  | _, _, _, .nil => .nil
  | _, _, 0, .cons _ r => .cons h r
  | _, _, n + 1, .cons q r => .cons q (RepAll.set h n r)
theorem RepAll.eraseIdx : ∀ {vs : List V} {ds : List D} (n : Nat), RepAll wd K mg F β vs ds → RepAll wd K mg F β (vs.eraseIdx n) (ds.eraseIdx n)
  | _, _, _, .nil => .nil
  | _, _, 0, .cons _ r => r
  | _, _, n + 1, .cons q r => .cons q (RepAll.eraseIdx n r)
theorem RepAll.reverse {vs : List V} {ds : List D} (h : RepAll wd K mg F β vs ds) : RepAll wd K mg F β vs.reverse ds.reverse := by
  induction ds generalizing vs with
  | nil => cases h; exact .nil
  | cons d ds ih =>
    cases h with
    | cons h r =>
      rw [List.reverse_cons, List.reverse_cons]
      exact (ih r).append (.cons h .nil)

/-! ### data that speaks of the first n things of the store alone -/
mutual
def lowD (n : Nat) : D → Bool
  | .ref k => decide (k < n)
  | .tup ds => lowL n ds
  | .wtp ds => lowL n ds
  | .lst ds => lowL n ds
  | .dct kvs => lowP n kvs
  | .dxt kvs => lowK n kvs
  | .obj _ fs => lowF n fs
  | .fn _ _ => false
  | .non => true
  | .bl _ => true
  | .int _ => true
  | .str _ => true
  | .gl _ => true
def lowL (n : Nat) : List D → Bool
  | [] => true
  | d :: ds => lowD n d && lowL n ds
def lowP (n : Nat) : List (D × D) → Bool
  | [] => true
  | (k, d) :: ds => lowD n k && lowD n d && lowP n ds
def lowF (n : Nat) : List (Str × D) → Bool
  | [] => true
  | (_, d) :: ds => lowD n d && lowF n ds
def lowK (n : Nat) : List (List Key × D) → Bool
  | [] => true
  | (_, d) :: ds => lowD n d && lowK n ds
end
theorem lowP_zip {n : Nat} : ∀ {ks ws : List D}, ks.length = ws.length → lowP n (ks.zip ws) = true → lowL n ws = true
  | [], [], _, _ => rfl
  | k :: ks, w :: ws, hl, h => by
    simp only [List.zip_cons_cons, lowP, Bool.and_eq_true] at h
    simp only [lowL, Bool.and_eq_true]
    exact ⟨h.1.2, lowP_zip (by simpa using hl) h.2⟩
  | [], _ :: _, hl, _ => by simp at hl
  | _ :: _, [], hl, _ => by simp at hl
theorem lowF_zip {n : Nat} : ∀ {ks : List Str} {ws : List D}, ks.length = ws.length → lowF n (ks.zip ws) = true → lowL n ws = true
  | [], [], _, _ => rfl
  | k :: ks, w :: ws, hl, h => by
    simp only [List.zip_cons_cons, lowF, Bool.and_eq_true] at h
    simp only [lowL, Bool.and_eq_true]
    exact ⟨h.1, lowF_zip (by simpa using hl) h.2⟩
  | [], _ :: _, hl, _ => by simp at hl
  | _ :: _, [], hl, _ => by simp at hl
theorem lowK_zip {n : Nat} : ∀ {ks : List (List Key)} {ws : List D}, ks.length = ws.length → lowK n (ks.zip ws) = true → lowL n ws = true
  | [], [], _, _ => rfl
  | k :: ks, w :: ws, hl, h => by
    simp only [List.zip_cons_cons, lowK, Bool.and_eq_true] at h
    simp only [lowL, Bool.and_eq_true]
    exact ⟨h.1, lowK_zip (by simpa using hl) h.2⟩
  | [], _ :: _, hl, _ => by simp at hl
  | _ :: _, [], hl, _ => by simp at hl
mutual
/-- it stands for the same over the first n things -/
theorem Rep.low {n : Nat} : ∀ {v : V} {d : D}, Rep wd K mg F β v d → lowD n d = true → Rep wd K mg F (β.take n) v d
  | _, _, .non, _ => .non
  | _, _, .bl b, _ => .bl b
  | _, _, .int i, _ => .int i
  | _, _, .str x, _ => .str x
  | _, _, .tup h r, q => .tup h (RepAll.low r (by simpa only [lowD] using q))
  | _, _, .lst h r, q => .lst h (RepAll.low r (by simpa only [lowD] using q))
  | _, _, .dK (kvs := kvs) h r, q => .dK h (RepAll.low r (lowP_zip (ks := kvs.map fun p => keyD p.1) (by have := r.length; simpa using this) (by simpa only [lowD] using q)))
  | _, _, .dxt (kvs := kvs) h hk r, q => .dxt h hk (RepAll.low r (lowK_zip (ks := kvs.map (·.1)) (by have := r.length; simpa using this) (by simpa only [lowD] using q)))
  | _, _, .obj (fs := fs) h hc r, q => .obj h hc (RepAll.low r (lowF_zip (ks := fs.map (·.1)) (by have := r.length; simpa using this) (by simpa only [lowD] using q)))
  | _, _, .wtp h r, q => .wtp h (RepAll.low r (by simpa only [lowD] using q))
  | _, _, .gl h, _ => .gl h
  | _, _, .ref h, q => .ref (by rw [List.getElem?_take_of_lt (by simpa only [lowD, decide_eq_true_eq] using q)]; exact h)
theorem RepAll.low {n : Nat} : ∀ {vs : List V} {ds : List D}, RepAll wd K mg F β vs ds → lowL n ds = true → RepAll wd K mg F (β.take n) vs ds
  | _, _, .nil, _ => .nil
  | _, _, .cons h r, q => by
    simp only [lowL, Bool.and_eq_true] at q
    exact .cons (Rep.low h q.1) (RepAll.low r q.2)
end
end
end DM

end

section
set_option Elab.async false
set_option linter.all false
set_option maxRecDepth 100000
set_option maxHeartbeats 2000000
/-! DMb: what is known of a state, readings by mirrors, how they are joined. -/
namespace DM
open PySem PySem.Spec PyProof.Rows L2

structure Gb where
  K : PySem.W.Frag
  mg : Str → Option Value
  T : List NdefX.NTab
  wd : World

def ObRep (G : Gb) (F : Hp) (β : List Addr) (H : Hp) (a : Addr) : Ob → Prop
  | .lst ds => ∃ vs, H a = some (.lst vs) ∧ RepAll G.wd G.K G.mg F β vs ds
  | .dct kvs => ∃ (ks : List (Key × V)) (ws : List D), H a = some (.dK ks) ∧ RepAll G.wd G.K G.mg F β (ks.map (·.2)) ws ∧ kvs = (ks.map fun p => keyD p.1).zip ws
  | .dxt kvs => ∃ (ks : List (List Key × Addr × V)) (ws : List D), H a = some (HX G.wd a ks) ∧ (∀ p ∈ ks, TupR G.K F p.2.1 (p.1.map kV)) ∧ RepAll G.wd G.K G.mg F β (ks.map (·.2.2)) ws ∧ kvs = (ks.map (·.1)).zip ws
  | .ins c fs => ∃ (C dx : Addr) (gs : List (Str × V)) (ws : List D), G.mg c = some (.ref C) ∧ H a = some (.ins C dx gs) ∧ RepAll G.wd G.K G.mg F β (gs.map (·.2)) ws ∧ fs = (gs.map (·.1)).zip ws

theorem ObRep.mono {G : Gb} {F F' : Hp} {β β' : List Addr} {H H' : Hp} {a : Addr} (e : Ex F F') (b : Pre β β') (h : ∀ o, H a = some o → H' a = some o) : ∀ {o : Ob}, ObRep G F β H a o → ObRep G F' β' H' a o
  | .lst _, ⟨vs, h1, r⟩ => ⟨vs, h _ h1, r.mono e b⟩
  | .dct _, ⟨ks, ws, h1, r, q⟩ => ⟨ks, ws, h _ h1, r.mono e b, q⟩
  | .dxt _, ⟨ks, ws, h1, hk, r, q⟩ => ⟨ks, ws, h _ h1, fun p z => (hk p z).ext e, r.mono e b, q⟩
  | .ins _ _, ⟨C, dx, gs, ws, h0, h1, r, q⟩ => ⟨C, dx, gs, ws, h0, h _ h1, r.mono e b, q⟩
/-- which objects may stand at an address of the store -/
def Ch : HO → Prop
  | .lst _ | .dK _ | .ins _ _ _ => True
  | .ext φ => ∃ wd a kvs, φ = DX wd a kvs
  | _ => False
theorem ObRep.at_ {G : Gb} {F : Hp} {β : List Addr} {H : Hp} {a : Addr} : ∀ {o : Ob}, ObRep G F β H a o → ∃ u, H a = some u ∧ Ch u
  | .lst _, ⟨vs, h1, r⟩ => ⟨_, h1, trivial⟩
  | .dct _, ⟨ks, ws, h1, r, q⟩ => ⟨_, h1, trivial⟩
  | .dxt _, ⟨ks, ws, h1, hk, r, q⟩ => ⟨_, h1, ⟨_, _, _, rfl⟩⟩
  | .ins _ _, ⟨C, dx, gs, ws, h0, h1, r, q⟩ => ⟨_, h1, trivial⟩

/-- a code object is no dict -/
theorem code_nch {c : Addr} {q : Str} : ¬ Ch (LamX.CodeO c q) := by
  unfold LamX.CodeO
  rintro ⟨wd, a, kvs, e⟩
  let oc : Obj := { cls := .none, data := .fields #[.none, .str q 0] }
  let h : Heap := { objs := Array.replicate (c + 1) oc }
  have hg : ∀ b o, h.get? b = some o → o = oc := fun b o q => by
    unfold Heap.get? at q
    have : h.objs[b]? = if b < c + 1 then some oc else none := Array.getElem?_replicate
    rw [this] at q
    by_cases hb : b < c + 1
    · rw [if_pos hb] at q
      exact (Option.some.inj q).symm
    · rw [if_neg hb] at q; cases q
  have h1 : ∃ (o : Obj) (vs : Array Value) (t : Tok), h.get? c = some o ∧ o.data = .fields vs ∧ vs[1]? = some (.str q t) := by
    refine ⟨oc, _, 0, ?_, rfl, rfl⟩
    unfold Heap.get?
    have : h.objs[c]? = some oc := by
      show (Array.replicate (c + 1) oc)[c]? = some oc
      rw [Array.getElem?_replicate, if_pos (Nat.lt_succ_self c)]
    rw [this]
  have h2 : DX wd a kvs h := by rw [← e]; exact h1
  obtain ⟨_, _, xs, _, o, es, ep, e1, _, e2, _⟩ := h2
  rw [hg a o e1] at e2
  cases e2
/-- F: what never changes; β: where the things of the store stand -/
structure Good (G : Gb) (F H : Hp) (β : List Addr) (st : Sto) : Prop where
  ex : Ex F H
  sep : ∀ (n : Nat) (a : Addr), β[n]? = some a → F a = none
  inj : ∀ (m n : Nat) (a : Addr), β[m]? = some a → β[n]? = some a → m = n
  len : β.length = st.length
  ob : ∀ (n : Nat) (a : Addr) (o : Ob), β[n]? = some a → st[n]? = some o → ObRep G F (β.take n) H a o
  tab : NdefX.TabsN G.T H
  nt : ∀ (a : Addr) (ps : Array Value), F a ≠ some (.tbl ps)

theorem take_pre {β β' : List Addr} (b : Pre β β') (n : Nat) : Pre (β.take n) (β'.take n) := fun m a h => by
  rw [List.getElem?_take] at h ⊢
  split at h
  · rename_i q
    rw [if_pos q]
    exact b m a h
  · cases h
theorem pre_take {β : List Addr} (n : Nat) : Pre (β.take n) β := fun m a h => by
  rw [List.getElem?_take] at h
  split at h
  · exact h
  · cases h
theorem pre_app (β γ : List Addr) : Pre β (β ++ γ) := fun m a h => by
  rw [List.getElem?_append_left (List.getElem?_eq_some_iff.mp h).1]
  exact h
theorem pre_len {β β' : List Addr} (b : Pre β β') : β.length ≤ β'.length := by
  rcases Nat.lt_or_ge β'.length β.length with h | h
  · have h1 : β[β'.length]? = some β[β'.length] := List.getElem?_eq_getElem h
    have h2 := b _ _ h1
    rw [List.getElem?_eq_none (Nat.le_refl _)] at h2
    cases h2
  · exact h
theorem pre_eq {β β' : List Addr} (b : Pre β β') : β'.take β.length = β := by
  apply List.ext_getElem?
  intro i
  rw [List.getElem?_take]
  split
  · rename_i h
    have h1 : β[i]? = some β[i] := List.getElem?_eq_getElem h
    rw [h1]; exact b _ _ h1
  · rename_i h
    exact (List.getElem?_eq_none (by omega)).symm

section
variable {G : Gb} {F H : Hp} {β : List Addr} {st : Sto}
theorem Good.at_ (g : Good G F H β st) {n : Nat} {a : Addr} (h : β[n]? = some a) : ∃ u, H a = some u ∧ Ch u := by
  have hn : n < st.length := by rw [← g.len]; exact (List.getElem?_eq_some_iff.mp h).1
  exact (g.ob n a st[n] h (List.getElem?_eq_getElem hn)).at_
theorem Good.ne (g : Good G F H β st) {n : Nat} {a p : Addr} (h : β[n]? = some a) (hp : H p = none) : a ≠ p := by
  obtain ⟨u, e, _⟩ := g.at_ h
  exact ne_of_none e hp
theorem tab_upd {T : List NdefX.NTab} (t : NdefX.TabsN T H) {p : Addr} {o : HO} (hp : H p = none) : NdefX.TabsN T (upd H p o) := t.ext fun b u e => by
  rw [upd_ne (ne_of_none e hp)]; exact e
/-- a new object, known from now on, that never changes -/
theorem Good.new (g : Good G F H β st) {p : Addr} (hp : H p = none) (o : HO) (ho : ∀ ps, o ≠ .tbl ps := by intro _ h; cases h) : Good G (upd F p o) (upd H p o) β st where
  ex := fun a u e => by
    by_cases q : a = p
    · subst q; rw [upd_same] at e ⊢; exact e
    · rw [upd_ne q] at e ⊢; exact g.ex a u e
  sep := fun n a h => by rw [upd_ne (g.ne h hp)]; exact g.sep n a h
  inj := g.inj
  len := g.len
  ob := fun n a u h hu => (g.ob n a u h hu).mono (Ex.new (g.ex.none hp)) (Pre.refl _) fun z e => by rw [upd_ne (g.ne h hp)]; exact e
  tab := tab_upd g.tab hp
  nt := fun a ps => by
    unfold upd
    split
    · exact fun z => ho ps (Option.some.inj z)
    · exact g.nt a ps
/-- a new object beside -/
theorem Good.beside (g : Good G F H β st) {p : Addr} (hp : H p = none) (o : HO) : Good G F (upd H p o) β st where
  ex := g.ex.trans (Ex.new hp)
  sep := g.sep
  inj := g.inj
  len := g.len
  ob := fun n a u h hu => (g.ob n a u h hu).mono (Ex.refl _) (Pre.refl _) fun z e => by rw [upd_ne (g.ne h hp)]; exact e
  tab := tab_upd g.tab hp
  nt := g.nt
/-- a new thing of the store -/
theorem Good.lay (g : Good G F H β st) {p : Addr} {o : HO} {u : Ob} (hp : H p = none) (r : ObRep G F β (upd H p o) p u) : Good G F (upd H p o) (β ++ [p]) (st ++ [u]) where
  ex := g.ex.trans (Ex.new hp)
  sep := fun n a h => by
    rcases Nat.lt_or_ge n β.length with q | q
    · rw [List.getElem?_append_left q] at h; exact g.sep n a h
    · rw [List.getElem?_append_right q] at h
      have : a = p := by
        cases e : n - β.length with
        | zero => rw [e] at h; simpa using h.symm
        | succ k => rw [e] at h; simp at h
      rw [this]; exact g.ex.none hp
  inj := fun m n a h1 h2 => by
    have key : ∀ {k : Nat}, (β ++ [p])[k]? = some a → (k < β.length ∧ β[k]? = some a ∧ a ≠ p) ∨ (k = β.length ∧ a = p) := fun {k} h => by
      rcases Nat.lt_or_ge k β.length with q | q
      · rw [List.getElem?_append_left q] at h; exact .inl ⟨q, h, g.ne h hp⟩
      · rw [List.getElem?_append_right q] at h
        cases e : k - β.length with
        | zero => rw [e] at h; exact .inr ⟨by omega, by simpa using h.symm⟩
        | succ j => rw [e] at h; simp at h
    rcases key h1 with ⟨_, a1, n1⟩ | ⟨a1, n1⟩ <;> rcases key h2 with ⟨_, a2, n2⟩ | ⟨a2, n2⟩
    · exact g.inj m n a a1 a2
    · exact absurd n2 n1
    · exact absurd n1 n2
    · rw [a1, a2]
  len := by rw [List.length_append, List.length_append, g.len]; rfl
  ob := fun n a o' h ho => by
    rcases Nat.lt_or_ge n β.length with q | q
    · rw [List.getElem?_append_left q] at h
      rw [List.getElem?_append_left (by rw [← g.len]; exact q)] at ho
      rw [List.take_append_of_le_length (Nat.le_of_lt q)]
      exact (g.ob n a o' h ho).mono (Ex.refl _) (Pre.refl _) fun z e => by rw [upd_ne (g.ne h hp)]; exact e
    · rw [List.getElem?_append_right q] at h
      rw [List.getElem?_append_right (by rw [← g.len]; exact q)] at ho
      have hn : n = β.length := by
        cases e : n - β.length with
        | zero => omega
        | succ k => rw [e] at h; simp at h
      subst hn
      simp at h
      subst h
      rw [g.len] at ho
      simp at ho
      subst ho
      rw [List.take_append_of_le_length (Nat.le_refl _), List.take_length]
      exact r
  tab := tab_upd g.tab hp
  nt := g.nt
theorem tab_ch {T : List NdefX.NTab} (t : NdefX.TabsN T H) {a : Addr} {u o : HO} (ha : H a = some u) (hc : Ch u) : NdefX.TabsN T (upd H a o) := fun p hp => by
  obtain ⟨ps, h1, h2, h3⟩ := t p hp
  have ne : ∀ {b : Addr} {w : HO}, H b = some w → ¬ Ch w → b ≠ a := fun {b w} e n z => by rw [z, ha] at e; cases e; exact n hc
  refine ⟨ps, by rw [upd_ne (ne h1 fun z => z)]; exact h1, h2, fun pos cv hcv => ?_⟩
  obtain ⟨c, e1, e2⟩ := h3 pos cv hcv
  refine ⟨c, e1, ?_⟩
  rw [upd_ne (ne e2 fun z => ?_)]
  · exact e2
  · exact code_nch z
/-- a thing of the store is changed -/
theorem Good.put (g : Good G F H β st) {n : Nat} {a : Addr} {o : HO} {u : Ob} (ha : β[n]? = some a) (r : ObRep G F (β.take n) (upd H a o) a u) : Good G F (upd H a o) β (st.set n u) where
  ex := fun b w e => by
    rw [upd_ne (fun z => by rw [z, g.sep n a ha] at e; cases e)]
    exact g.ex b w e
  sep := g.sep
  inj := g.inj
  len := by rw [List.length_set]; exact g.len
  ob := fun m b o' h ho => by
    by_cases q : m = n
    · subst q
      rw [ha] at h; cases h
      rw [List.getElem?_set_self (by rw [← g.len]; exact (List.getElem?_eq_some_iff.mp ha).1)] at ho
      cases ho
      exact r
    · rw [List.getElem?_set_ne (Ne.symm q)] at ho
      refine (g.ob m b o' h ho).mono (Ex.refl _) (Pre.refl _) fun z e => ?_
      rw [upd_ne (fun z : b = a => q (g.inj m n b h (by rw [z]; exact ha)))]
      exact e
  tab := by
    obtain ⟨u', e, c⟩ := g.at_ ha
    exact tab_ch g.tab e c
  nt := g.nt
end

/-! ### names -/
structure EnvR (G : Gb) (F : Hp) (β : List Addr) (σ : L2.St) (ρ : En) : Prop where
  len : σ.length = ρ.length
  at_ : ∀ (i : Nat) (d : D), ρ[i]? = some (some d) → ∃ v, σ[i]? = some (some v) ∧ Rep G.wd G.K G.mg F β v d
theorem EnvR.mono {G : Gb} {F F' : Hp} {β β' : List Addr} {σ : L2.St} {ρ : En} (e : Ex F F') (b : Pre β β') (h : EnvR G F β σ ρ) : EnvR G F' β' σ ρ :=
  ⟨h.len, fun i d q => let ⟨v, h1, r⟩ := h.at_ i d q; ⟨v, h1, r.mono e b⟩⟩
theorem EnvR.set {G : Gb} {F : Hp} {β : List Addr} {σ : L2.St} {ρ : En} (h : EnvR G F β σ ρ) {v : V} {d : D} (r : Rep G.wd G.K G.mg F β v d) (i : Nat) : EnvR G F β (σ.set i (some v)) (ρ.set i (some d)) := by
  refine ⟨by rw [List.length_set, List.length_set]; exact h.len, fun j d' q => ?_⟩
  by_cases e : i = j
  · subst e
    rcases Nat.lt_or_ge i ρ.length with hl | hl
    · rw [List.getElem?_set_self hl] at q
      cases q
      exact ⟨v, List.getElem?_set_self (by rw [h.len]; exact hl), r⟩
    · rw [List.getElem?_eq_none (by rw [List.length_set]; exact hl)] at q; cases q
  · rw [List.getElem?_set_ne e] at q ⊢
    exact h.at_ j d' q
def wipeM (ρ : En) : List Nat → En
  | [] => ρ
  | v :: vs => (wipeM ρ vs).set v none
theorem EnvR.setN {G : Gb} {F : Hp} {β : List Addr} {σ : L2.St} {ρ : En} (h : EnvR G F β σ ρ) (i : Nat) : EnvR G F β (σ.set i none) (ρ.set i none) := by
  refine ⟨by rw [List.length_set, List.length_set]; exact h.len, fun j d' q => ?_⟩
  by_cases e : i = j
  · subst e
    rcases Nat.lt_or_ge i ρ.length with hl | hl
    · rw [List.getElem?_set_self hl] at q
      cases q
    · rw [List.getElem?_eq_none (by rw [List.length_set]; exact hl)] at q; cases q
  · rw [List.getElem?_set_ne e] at q ⊢
    exact h.at_ j d' q
theorem EnvR.wipe {G : Gb} {F : Hp} {β : List Addr} {σ : L2.St} {ρ : En} (h : EnvR G F β σ ρ) : ∀ vs : List Nat, EnvR G F β (L2.wipe σ vs) (wipeM ρ vs)
  | [] => h
  | v :: vs => (EnvR.wipe h vs).setN v

/-! ### readings -/
/-- an exception of a class by name, its fields -/
def ExcR (G : Gb) (F : Hp) (β : List Addr) (cls : Value) (d : Option Addr) (c : Str) (fs : List (Str × D)) : Prop :=
  ∃ C : Addr, cls = .ref C ∧ G.mg c = some (.ref C) ∧ ((d = none ∧ fs = []) ∨ ∃ (dd : Addr) (gs : List (Str × V)) (ws : List D), d = some dd ∧ F dd = some (.xd gs) ∧ RepAll G.wd G.K G.mg F β (gs.map (·.2)) ws ∧ fs = (gs.map (·.1)).zip ws)
theorem ExcR.mono {G : Gb} {F F' : Hp} {β β' : List Addr} {cls : Value} {d : Option Addr} {c : Str} {fs : List (Str × D)} (e : Ex F F') (b : Pre β β') (h : ExcR G F β cls d c fs) : ExcR G F' β' cls d c fs := by
  obtain ⟨C, h1, h2, h3⟩ := h
  refine ⟨C, h1, h2, ?_⟩
  rcases h3 with h3 | ⟨dd, gs, ws, q1, q2, q3, q4⟩
  · exact .inl h3
  · exact .inr ⟨dd, gs, ws, q1, e _ _ q2, q3.mono e b, q4⟩
def PostX (G : Gb) (W : Value → Option Addr → Hp → Prop) (F : Hp) (β : List Addr) (c : Str) (fs : List (Str × D)) (st' : Sto) : Prop :=
  ∀ cls d H' F' β', Ex F F' → Pre β β' → Good G F' H' β' st' → ExcR G F' β' cls d c fs → W cls d H'
def PostE (G : Gb) (W : Value → Option Addr → Hp → Prop) (F : Hp) (β : List Addr) (Q : VK) : R D → Prop
  | .ok d st' => ∀ v H' F' β', Ex F F' → Pre β β' → Good G F' H' β' st' → Rep G.wd G.K G.mg F' β' v d → Q v H'
  | .exc c fs st' => PostX G W F β c fs st'
  | .bad => False
def PostA (G : Gb) (W : Value → Option Addr → Hp → Prop) (F : Hp) (β : List Addr) (Q : List V → Hp → Prop) : R (List D) → Prop
  | .ok ds st' => ∀ vs H' F' β', Ex F F' → Pre β β' → Good G F' H' β' st' → RepAll G.wd G.K G.mg F' β' vs ds → Q vs H'
  | .exc c fs st' => PostX G W F β c fs st'
  | .bad => False
def PostT (G : Gb) (W : Value → Option Addr → Hp → Prop) (F : Hp) (β : List Addr) (Q : Bool → Hp → Prop) : R Bool → Prop
  | .ok b st' => ∀ H' F' β', Ex F F' → Pre β β' → Good G F' H' β' st' → Q b H'
  | .exc c fs st' => PostX G W F β c fs st'
  | .bad => False
def PostS (G : Gb) (W : WX) (F : Hp) (β : List Addr) (D : Ends) : RS → Prop
  | .ok (.nx ρ) st' => ∀ σ' H' F' β', Ex F F' → Pre β β' → Good G F' H' β' st' → EnvR G F' β' σ' ρ → D.nx σ' H'
  | .ok (.bk ρ) st' => ∀ σ' H' F' β', Ex F F' → Pre β β' → Good G F' H' β' st' → EnvR G F' β' σ' ρ → D.bk σ' H'
  | .ok (.ct ρ) st' => ∀ σ' H' F' β', Ex F F' → Pre β β' → Good G F' H' β' st' → EnvR G F' β' σ' ρ → D.ct σ' H'
  | .ok (.rt d) st' => ∀ v H' F' β', Ex F F' → Pre β β' → Good G F' H' β' st' → Rep G.wd G.K G.mg F' β' v d → D.rt v H'
  | .ok (.xc c fs ρ) st' => ∀ cls d σ' H' F' β', Ex F F' → Pre β β' → Good G F' H' β' st' → EnvR G F' β' σ' ρ → ExcR G F' β' cls d c fs → W cls d σ' H'
  | .bad => False
abbrev wAt (W : WX) (σ : L2.St) : Value → Option Addr → Hp → Prop := fun cls d H => W cls d σ H
def tM (G : Gb) (W : WX) (m : ME) : TE := fun σ H Q => ∃ F β ρ st, Good G F H β st ∧ EnvR G F β σ ρ ∧ PostE G (wAt W σ) F β Q (m ρ st)
def tMA (G : Gb) (W : WX) (m : MA) : TA := fun σ H Q => ∃ F β ρ st, Good G F H β st ∧ EnvR G F β σ ρ ∧ PostA G (wAt W σ) F β Q (m ρ st)
def tMT (G : Gb) (W : WX) (m : MT) : TT := fun σ H Q => ∃ F β ρ st, Good G F H β st ∧ EnvR G F β σ ρ ∧ PostT G (wAt W σ) F β Q (m ρ st)
def tMS (G : Gb) (W : WX) (m : MS) : TS := fun D σ H => ∃ F β ρ st, Good G F H β st ∧ EnvR G F β σ ρ ∧ PostS G W F β D (m ρ st)

section
variable {G : Gb} {W : Value → Option Addr → Hp → Prop} {F F' H H' : Hp} {β β' : List Addr} {st : Sto}
theorem PostX.mono {c : Str} {fs : List (Str × D)} (e : Ex F F') (b : Pre β β') (h : PostX G W F β c fs st) : PostX G W F' β' c fs st :=
  fun cls d H1 F1 β1 a b1 g x => h cls d H1 F1 β1 (e.trans a) (b.trans b1) g x
theorem PostE.mono {Q : VK} (e : Ex F F') (b : Pre β β') : ∀ {r : R D}, PostE G W F β Q r → PostE G W F' β' Q r
  | .ok _ _, h => fun v H1 F1 β1 a b1 g x => h v H1 F1 β1 (e.trans a) (b.trans b1) g x
  | .exc _ _ _, h => PostX.mono e b h
  | .bad, h => h
theorem PostA.mono {Q : List V → Hp → Prop} (e : Ex F F') (b : Pre β β') : ∀ {r : R (List D)}, PostA G W F β Q r → PostA G W F' β' Q r
  | .ok _ _, h => fun v H1 F1 β1 a b1 g x => h v H1 F1 β1 (e.trans a) (b.trans b1) g x
  | .exc _ _ _, h => PostX.mono e b h
  | .bad, h => h
theorem PostT.mono {Q : Bool → Hp → Prop} (e : Ex F F') (b : Pre β β') : ∀ {r : R Bool}, PostT G W F β Q r → PostT G W F' β' Q r
  | .ok _ _, h => fun H1 F1 β1 a b1 g => h H1 F1 β1 (e.trans a) (b.trans b1) g
  | .exc _ _ _, h => PostX.mono e b h
  | .bad, h => h
theorem PostS.mono {W : WX} {Q : Ends} (e : Ex F F') (b : Pre β β') : ∀ {r : RS}, PostS G W F β Q r → PostS G W F' β' Q r
  | .ok (.nx _) _, h => fun s1 H1 F1 β1 a b1 g x => h s1 H1 F1 β1 (e.trans a) (b.trans b1) g x
  | .ok (.bk _) _, h => fun s1 H1 F1 β1 a b1 g x => h s1 H1 F1 β1 (e.trans a) (b.trans b1) g x
  | .ok (.ct _) _, h => fun s1 H1 F1 β1 a b1 g x => h s1 H1 F1 β1 (e.trans a) (b.trans b1) g x
  | .ok (.rt _) _, h => fun s1 H1 F1 β1 a b1 g x => h s1 H1 F1 β1 (e.trans a) (b.trans b1) g x
  | .ok (.xc _ _ _) _, h => fun cls d s1 H1 F1 β1 a b1 g x y => h cls d s1 H1 F1 β1 (e.trans a) (b.trans b1) g x y
  | .bad, h => h
end

section
variable {G : Gb} {W : WX} {F H : Hp} {β : List Addr} {st : Sto} {σ : L2.St} {ρ : En}
/-- an expression's value, then what follows in the mirror -/
theorem tM_then {α : Type} {P : (Value → Option Addr → Hp → Prop) → Hp → List Addr → R α → Prop} {m : ME} {k : D → Sto → R α}
    (g : Good G F H β st) (er : EnvR G F β σ ρ) (hx : ∀ c fs st', P (wAt W σ) F β (.exc c fs st') → PostX G (wAt W σ) F β c fs st') (hb : P (wAt W σ) F β .bad → False)
    (mono : ∀ F' β' r, Ex F F' → Pre β β' → P (wAt W σ) F β r → P (wAt W σ) F' β' r) (h : P (wAt W σ) F β ((m ρ st).bind k)) :
    tM G W m σ H fun v H1 => ∃ F1 β1 d st1, Ex F F1 ∧ Pre β β1 ∧ Good G F1 H1 β1 st1 ∧ EnvR G F1 β1 σ ρ ∧ Rep G.wd G.K G.mg F1 β1 v d ∧ P (wAt W σ) F1 β1 (k d st1) := by
  refine ⟨F, β, ρ, st, g, er, ?_⟩
  cases e : m ρ st with
  | ok d st1 =>
    rw [e] at h
    exact fun v H' F' β' a b g' r => ⟨F', β', d, st1, a, b, g', er.mono a b, r, mono F' β' _ a b h⟩
  | exc c fs st1 =>
    rw [e] at h
    exact hx _ _ _ h
  | bad =>
    rw [e] at h
    exact hb h
theorem tM_E {m : ME} {k : D → Sto → R D} {Q : VK} (g : Good G F H β st) (er : EnvR G F β σ ρ) (h : PostE G (wAt W σ) F β Q ((m ρ st).bind k)) :
    tM G W m σ H fun v H1 => ∃ F1 β1 d st1, Ex F F1 ∧ Pre β β1 ∧ Good G F1 H1 β1 st1 ∧ EnvR G F1 β1 σ ρ ∧ Rep G.wd G.K G.mg F1 β1 v d ∧ PostE G (wAt W σ) F1 β1 Q (k d st1) :=
  tM_then (P := fun W F β r => PostE G W F β Q r) g er (fun _ _ _ z => z) (fun z => z) (fun _ _ _ a b z => PostE.mono a b z) h
theorem tM_A {m : ME} {k : D → Sto → R (List D)} {Q : List V → Hp → Prop} (g : Good G F H β st) (er : EnvR G F β σ ρ) (h : PostA G (wAt W σ) F β Q ((m ρ st).bind k)) :
    tM G W m σ H fun v H1 => ∃ F1 β1 d st1, Ex F F1 ∧ Pre β β1 ∧ Good G F1 H1 β1 st1 ∧ EnvR G F1 β1 σ ρ ∧ Rep G.wd G.K G.mg F1 β1 v d ∧ PostA G (wAt W σ) F1 β1 Q (k d st1) :=
  tM_then (P := fun W F β r => PostA G W F β Q r) g er (fun _ _ _ z => z) (fun z => z) (fun _ _ _ a b z => PostA.mono a b z) h
theorem tM_T {m : ME} {k : D → Sto → R Bool} {Q : Bool → Hp → Prop} (g : Good G F H β st) (er : EnvR G F β σ ρ) (h : PostT G (wAt W σ) F β Q ((m ρ st).bind k)) :
    tM G W m σ H fun v H1 => ∃ F1 β1 d st1, Ex F F1 ∧ Pre β β1 ∧ Good G F1 H1 β1 st1 ∧ EnvR G F1 β1 σ ρ ∧ Rep G.wd G.K G.mg F1 β1 v d ∧ PostT G (wAt W σ) F1 β1 Q (k d st1) :=
  tM_then (P := fun W F β r => PostT G W F β Q r) g er (fun _ _ _ z => z) (fun z => z) (fun _ _ _ a b z => PostT.mono a b z) h
/-- an expression, then a statement's rest -/
def R.bindS {α : Type} (r : R α) (ρ : En) (f : α → Sto → RS) : RS := match r with
  | .ok a st => f a st
  | .exc c fs st => .ok (.xc c fs ρ) st
  | .bad => .bad
@[simp] theorem R.bindS_ok {α : Type} (a : α) (st : Sto) (ρ : En) (f : α → Sto → RS) : (R.ok a st).bindS ρ f = f a st := rfl
@[simp] theorem R.bindS_exc {α : Type} (c : Str) (fs : List (Str × D)) (st : Sto) (ρ : En) (f : α → Sto → RS) : (R.exc c fs st : R α).bindS ρ f = .ok (.xc c fs ρ) st := rfl
@[simp] theorem R.bindS_bad {α : Type} (ρ : En) (f : α → Sto → RS) : (R.bad : R α).bindS ρ f = .bad := rfl
theorem xc_of {Q : Ends} {c : Str} {fs : List (Str × D)} {st' : Sto} (er : EnvR G F β σ ρ) (h : PostS G W F β Q (.ok (.xc c fs ρ) st')) : PostX G (wAt W σ) F β c fs st' :=
  fun cls d H' F' β' a b g x => h cls d σ H' F' β' a b g (er.mono a b) x
theorem tM_S {m : ME} {k : D → Sto → RS} {Q : Ends} (g : Good G F H β st) (er : EnvR G F β σ ρ) (h : PostS G W F β Q ((m ρ st).bindS ρ k)) :
    tM G W m σ H fun v H1 => ∃ F1 β1 d st1, Ex F F1 ∧ Pre β β1 ∧ Good G F1 H1 β1 st1 ∧ EnvR G F1 β1 σ ρ ∧ Rep G.wd G.K G.mg F1 β1 v d ∧ PostS G W F1 β1 Q (k d st1) := by
  refine ⟨F, β, ρ, st, g, er, ?_⟩
  cases e : m ρ st with
  | ok d st1 =>
    rw [e] at h
    exact fun v H' F' β' a b g' r => ⟨F', β', d, st1, a, b, g', er.mono a b, r, PostS.mono a b h⟩
  | exc c fs st1 =>
    rw [e] at h
    exact xc_of er h
  | bad =>
    rw [e] at h
    exact h
theorem tMT_S {m : MT} {k : Bool → Sto → RS} {Q : Ends} (g : Good G F H β st) (er : EnvR G F β σ ρ) (h : PostS G W F β Q ((m ρ st).bindS ρ k)) :
    tMT G W m σ H fun v H1 => ∃ F1 β1 st1, Ex F F1 ∧ Pre β β1 ∧ Good G F1 H1 β1 st1 ∧ EnvR G F1 β1 σ ρ ∧ PostS G W F1 β1 Q (k v st1) := by
  refine ⟨F, β, ρ, st, g, er, ?_⟩
  cases e : m ρ st with
  | ok d st1 =>
    rw [e] at h
    exact fun H' F' β' a b g' => ⟨F', β', st1, a, b, g', er.mono a b, PostS.mono a b h⟩
  | exc c fs st1 =>
    rw [e] at h
    exact xc_of er h
  | bad =>
    rw [e] at h
    exact h
theorem tMT_E {m : MT} {k : Bool → Sto → R D} {Q : VK} (g : Good G F H β st) (er : EnvR G F β σ ρ) (h : PostE G (wAt W σ) F β Q ((m ρ st).bind k)) :
    tMT G W m σ H fun v H1 => ∃ F1 β1 st1, Ex F F1 ∧ Pre β β1 ∧ Good G F1 H1 β1 st1 ∧ EnvR G F1 β1 σ ρ ∧ PostE G (wAt W σ) F1 β1 Q (k v st1) := by
  refine ⟨F, β, ρ, st, g, er, ?_⟩
  cases e : m ρ st with
  | ok d st1 =>
    rw [e] at h
    exact fun H' F' β' a b g' => ⟨F', β', st1, a, b, g', er.mono a b, PostE.mono a b h⟩
  | exc c fs st1 =>
    rw [e] at h
    exact h
  | bad =>
    rw [e] at h
    exact h
theorem tMT_T {m : MT} {k : Bool → Sto → R Bool} {Q : Bool → Hp → Prop} (g : Good G F H β st) (er : EnvR G F β σ ρ) (h : PostT G (wAt W σ) F β Q ((m ρ st).bind k)) :
    tMT G W m σ H fun v H1 => ∃ F1 β1 st1, Ex F F1 ∧ Pre β β1 ∧ Good G F1 H1 β1 st1 ∧ EnvR G F1 β1 σ ρ ∧ PostT G (wAt W σ) F1 β1 Q (k v st1) := by
  refine ⟨F, β, ρ, st, g, er, ?_⟩
  cases e : m ρ st with
  | ok d st1 =>
    rw [e] at h
    exact fun H' F' β' a b g' => ⟨F', β', st1, a, b, g', er.mono a b, PostT.mono a b h⟩
  | exc c fs st1 =>
    rw [e] at h
    exact h
  | bad =>
    rw [e] at h
    exact h
theorem tMA_E {m : MA} {k : List D → Sto → R D} {Q : VK} (g : Good G F H β st) (er : EnvR G F β σ ρ) (h : PostE G (wAt W σ) F β Q ((m ρ st).bind k)) :
    tMA G W m σ H fun vs H1 => ∃ F1 β1 ds st1, Ex F F1 ∧ Pre β β1 ∧ Good G F1 H1 β1 st1 ∧ EnvR G F1 β1 σ ρ ∧ RepAll G.wd G.K G.mg F1 β1 vs ds ∧ PostE G (wAt W σ) F1 β1 Q (k ds st1) := by
  refine ⟨F, β, ρ, st, g, er, ?_⟩
  cases e : m ρ st with
  | ok d st1 =>
    rw [e] at h
    exact fun v H' F' β' a b g' r => ⟨F', β', d, st1, a, b, g', er.mono a b, r, PostE.mono a b h⟩
  | exc c fs st1 =>
    rw [e] at h
    exact h
  | bad =>
    rw [e] at h
    exact h
theorem tMA_A {m : MA} {k : List D → Sto → R (List D)} {Q : List V → Hp → Prop} (g : Good G F H β st) (er : EnvR G F β σ ρ) (h : PostA G (wAt W σ) F β Q ((m ρ st).bind k)) :
    tMA G W m σ H fun vs H1 => ∃ F1 β1 ds st1, Ex F F1 ∧ Pre β β1 ∧ Good G F1 H1 β1 st1 ∧ EnvR G F1 β1 σ ρ ∧ RepAll G.wd G.K G.mg F1 β1 vs ds ∧ PostA G (wAt W σ) F1 β1 Q (k ds st1) := by
  refine ⟨F, β, ρ, st, g, er, ?_⟩
  cases e : m ρ st with
  | ok d st1 =>
    rw [e] at h
    exact fun v H' F' β' a b g' r => ⟨F', β', d, st1, a, b, g', er.mono a b, r, PostA.mono a b h⟩
  | exc c fs st1 =>
    rw [e] at h
    exact h
  | bad =>
    rw [e] at h
    exact h
theorem tM_imp {m : ME} {Q Q' : VK} (h : tM G W m σ H Q) (i : ∀ v H1, Q v H1 → Q' v H1) : tM G W m σ H Q' := by
  obtain ⟨F, β, ρ, st, g, er, h⟩ := h
  refine ⟨F, β, ρ, st, g, er, ?_⟩
  cases e : m ρ st with
  | ok d st1 => rw [e] at h; exact fun v H' F' β' a b g' r => i _ _ (h v H' F' β' a b g' r)
  | exc c fs st1 => rw [e] at h; exact h
  | bad => rw [e] at h; exact h
theorem tMT_imp {m : MT} {Q Q' : Bool → Hp → Prop} (h : tMT G W m σ H Q) (i : ∀ v H1, Q v H1 → Q' v H1) : tMT G W m σ H Q' := by
  obtain ⟨F, β, ρ, st, g, er, h⟩ := h
  refine ⟨F, β, ρ, st, g, er, ?_⟩
  cases e : m ρ st with
  | ok d st1 => rw [e] at h; exact fun H' F' β' a b g' => i _ _ (h H' F' β' a b g')
  | exc c fs st1 => rw [e] at h; exact h
  | bad => rw [e] at h; exact h
theorem tMA_imp {m : MA} {Q Q' : List V → Hp → Prop} (h : tMA G W m σ H Q) (i : ∀ v H1, Q v H1 → Q' v H1) : tMA G W m σ H Q' := by
  obtain ⟨F, β, ρ, st, g, er, h⟩ := h
  refine ⟨F, β, ρ, st, g, er, ?_⟩
  cases e : m ρ st with
  | ok d st1 => rw [e] at h; exact fun v H' F' β' a b g' r => i _ _ (h v H' F' β' a b g' r)
  | exc c fs st1 => rw [e] at h; exact h
  | bad => rw [e] at h; exact h
end
end DM

end

section
set_option Elab.async false
set_option linter.all false
set_option maxRecDepth 100000
set_option maxHeartbeats 2000000
/-! DMc: expressions. -/
namespace DM
open PySem PySem.Spec PyProof.Rows L2

abbrev gX (T : List NdefX.NTab) (X : Cx) : Gb := ⟨X.K, X.mg, T, X.w⟩
section
variable (T : List NdefX.NTab) (X : Cx) (W : WX)
/-- an expression has the mirror m -/
def EvE (e : Expr) (m : ME) : Prop := PE X e (tM (gX T X) W m)
def EvT (e : Expr) (m : MT) : Prop := PT X e (tMT (gX T X) W m)
def EvW (e : Expr) (m : MT) : Prop := PW X e (tMT (gX T X) W m)
def EvA (es : List Expr) (m : MA) : Prop := PA X es (tMA (gX T X) W m)
def EvS (s : Stmt) (m : MS) : Prop := PS X s (tMS (gX T X) W m)
def EvSs (s : List Stmt) (m : MS) : Prop := PSs X s (tMS (gX T X) W m)
end
theorem pe_imp {X : Cx} {e : Expr} {t t' : TE} (h : PE X e t) (i : ∀ σ H Q, t' σ H Q → t σ H Q) : PE X e t' := ⟨fun pins s σ H Q I q => h.run pins s σ H Q I (i σ H Q q)⟩
theorem pt_imp {X : Cx} {e : Expr} {t t' : TT} (h : PT X e t) (i : ∀ σ H Q, t' σ H Q → t σ H Q) : PT X e t' := ⟨fun pins s σ H Q I q => h.run pins s σ H Q I (i σ H Q q)⟩
theorem pw_imp {X : Cx} {e : Expr} {t t' : TT} (h : PW X e t) (i : ∀ σ H Q, t' σ H Q → t σ H Q) : PW X e t' := ⟨fun wh pins s σ H Q I q => h.run wh pins s σ H Q I (i σ H Q q)⟩
theorem pa_imp {X : Cx} {e : List Expr} {t t' : TA} (h : PA X e t) (i : ∀ σ H Q, t' σ H Q → t σ H Q) : PA X e t' := ⟨fun pos pins s σ H Q I q => h.run pos pins s σ H Q I (i σ H Q q)⟩
theorem ps_imp {X : Cx} {e : Stmt} {t t' : TS} (h : PS X e t) (i : ∀ D σ H, t' D σ H → t D σ H) : PS X e t' := ⟨fun pins s σ H D I q => h.run pins s σ H D I (i D σ H q)⟩
theorem pss_imp {X : Cx} {e : List Stmt} {t t' : TS} (h : PSs X e t) (i : ∀ D σ H, t' D σ H → t D σ H) : PSs X e t' := ⟨fun pins s σ H D I q => h.run pins s σ H D I (i D σ H q)⟩
theorem EvW.pt {T : List NdefX.NTab} {X : Cx} {W : WX} {e : Expr} {m : MT} (h : EvW T X W e m) : EvT T X W e m := PW.pt h

/-! ### readings of data -/
mutual
def pdOf : D → Option PyData
  | .non => some .none
  | .bl b => some (.bool b)
  | .int i => some (.int i)
  | .str s => some (.str s)
  | .tup ds => (pdL ds).map .tuple
  | .lst ds => (pdL ds).map .list
  | .dct _ => none
  | .dxt _ => none
  | .obj _ _ => none
  | .gl _ => none
  | .fn _ _ => none
  | .ref _ => none
  | .wtp _ => none
def pdL : List D → Option (List PyData)
  | [] => some []
  | d :: ds => (pdOf d).bind fun p => (pdL ds).map fun ps => p :: ps
end
/-- what a list holds -/
def lstOf (st : Sto) : D → Option (List D)
  | .lst ds => some ds
  | .ref k => match st[k]? with
    | some (.lst ds) => some ds
    | _ => none
  | _ => none
def tupOf : D → Option (List D)
  | .tup ds => some ds
  | .wtp ds => some ds
  | _ => none
def insOf (st : Sto) : D → Option (Str × List (Str × D))
  | .obj c fs => some (c, fs)
  | .ref k => match st[k]? with
    | some (.ins c fs) => some (c, fs)
    | _ => none
  | _ => none
def dctOf (st : Sto) : D → Option (List (D × D))
  | .dct kvs => some kvs
  | .ref k => match st[k]? with
    | some (.dct kvs) => some kvs
    | _ => none
  | _ => none
def dxtOf (st : Sto) : D → Option (List (List Key × D))
  | .dxt kvs => some kvs
  | .ref k => match st[k]? with
    | some (.dxt kvs) => some kvs
    | _ => none
  | _ => none
def pdS (st : Sto) (d : D) : Option PyData := match d with
  | .ref k => (lstOf st (.ref k)).bind fun ds => (pdL ds).map .list
  | d => pdOf d
section
variable {wd : World} {K : PySem.W.Frag} {mg : Str → Option Value} {F H : Hp} {β : List Addr} {G : Gb} {st : Sto}
mutual
theorem Rep.dp (e : Ex F H) : ∀ {v : V} {d : D} {p : PyData}, Rep wd K mg F β v d → pdOf d = some p → Dp K H v p
  | _, _, _, .non, h => by cases h; exact .non
  | _, _, _, .bl b, h => by cases h; exact .bl b
  | _, _, _, .int i, h => by cases h; exact .int i
  | _, _, _, .str x, h => by cases h; exact .str x
  | _, _, _, .tup (ds := ds) s r, h => by
    rw [pdOf] at h
    cases e1 : pdL ds with
    | none => rw [e1] at h; cases h
    | some ps => rw [e1] at h; cases h; exact .tup (e.stp s.sq) (RepAll.dp e r e1)
  | _, _, _, .lst (ds := ds) s r, h => by
    rw [pdOf] at h
    cases e1 : pdL ds with
    | none => rw [e1] at h; cases h
    | some ps => rw [e1] at h; cases h; exact .lst (e.sl s) (RepAll.dp e r e1)
  | _, _, _, .dK _ _, h => by rw [pdOf] at h; cases h
  | _, _, _, .dxt _ _ _, h => by rw [pdOf] at h; cases h
  | _, _, _, .obj _ _ _, h => by rw [pdOf] at h; cases h
  | _, _, _, .gl _, h => by rw [pdOf] at h; cases h
  | _, _, _, .ref _, h => by rw [pdOf] at h; cases h
  | _, _, _, .wtp _ _, h => by rw [pdOf] at h; cases h
theorem RepAll.dp (e : Ex F H) : ∀ {vs : List V} {ds : List D} {ps : List PyData}, RepAll wd K mg F β vs ds → pdL ds = some ps → DpAll K H vs ps
  | _, _, _, .nil, h => by rw [pdL] at h; cases h; exact .nil
  | _, _, _, .cons (d := d) (ds := ds) h1 r, h => by
    rw [pdL] at h
    cases e1 : pdOf d with
    | none => rw [e1] at h; cases h
    | some p =>
      rw [e1] at h
      cases e2 : pdL ds with
      | none => rw [e2] at h; cases h
      | some ps => rw [e2] at h; cases h; exact .cons (Rep.dp e h1 e1) (RepAll.dp e r e2)
end
theorem lstOf_ref {k : Nat} {ds : List D} (h : lstOf st (.ref k) = some ds) : st[k]? = some (.lst ds) := by
  unfold lstOf at h
  simp only at h
  cases e : st[k]? with
  | none => rw [e] at h; cases h
  | some o =>
    rw [e] at h
    cases o with
    | lst ds' => cases h; rfl
    | _ => cases h
theorem Good.lst (g : Good G F H β st) {v : V} {d : D} {ds : List D} (r : Rep G.wd G.K G.mg F β v d) (h : lstOf st d = some ds) : ∃ a xs, v = .ref a ∧ SqL G.K H a xs ∧ RepAll G.wd G.K G.mg F β xs ds := by
  cases r with
  | lst s r => cases h; exact ⟨_, _, rfl, g.ex.sl s, r⟩
  | ref hb =>
    rename_i n a
    obtain ⟨vs, h1, r⟩ := g.ob n a _ hb (lstOf_ref h)
    exact ⟨a, vs, rfl, SqL.of h1, r.mono (Ex.refl _) (pre_take n)⟩
  | _ => cases h
theorem Good.tupl (g : Good G F H β st) {v : V} {d : D} {ds : List D} (r : Rep G.wd G.K G.mg F β v d) (h : tupOf d = some ds) : ∃ a xs, v = .ref a ∧ SqT G.K H a xs ∧ RepAll G.wd G.K G.mg F β xs ds := by
  cases r with
  | tup s r => cases h; exact ⟨_, _, rfl, g.ex.stp s.sq, r⟩
  | wtp s r => cases h; exact ⟨_, _, rfl, .inl (.inl (g.ex _ _ s)), r⟩
  | _ => cases h
theorem Good.dp (g : Good G F H β st) {v : V} {d : D} {p : PyData} (r : Rep G.wd G.K G.mg F β v d) (h : pdS st d = some p) : Dp G.K H v p := by
  cases d with
  | ref k =>
    unfold pdS at h
    cases e : lstOf st (.ref k) with
    | none => simp only [e] at h; cases h
    | some ds =>
      simp only [e] at h
      obtain ⟨a, xs, rfl, s, r⟩ := g.lst r e
      cases e2 : pdL ds with
      | none => simp only [Option.bind_some, e2] at h; cases h
      | some ps => simp only [Option.bind_some, e2] at h; cases h; exact .lst s (RepAll.dp g.ex r e2)
  | _ => exact Rep.dp g.ex r h
end

/-! ### names, constants -/
def mVar (i : Nat) : ME := fun ρ st => match ρ[i]? with
  | some (some d) => .ok d st
  | _ => .bad
def mC (d : D) : ME := fun _ st => .ok d st
section
variable {T : List NdefX.NTab} {X : Cx} {W : WX}
theorem ev_var (i : Nat) {x : Str} {pos : Pos} (hN : X.N[i]? = some x := by rfl) (hv : Vis X.env.scope x := by first | exact Or.inl rfl | exact Or.inr (Or.inl rfl) | exact Or.inr (Or.inr rfl)) (hd : (x == ("__debug__" : Str)) = false := by decide)
    (hcd : (x == ("__classdict__" : Str)) = false := by decide) : EvE T X W (.Name x pos) (mVar i) := by
  refine pe_imp (pe_var (i := i) hN hv hd hcd) fun σ H Q ⟨F, β, ρ, st, g, er, h⟩ => ?_
  unfold mVar at h
  split at h
  · rename_i d e
    obtain ⟨v, h1, r⟩ := er.at_ i d e
    exact ⟨v, h1, h v H F β (Ex.refl _) (Pre.refl _) g r⟩
  · exact h.elim
theorem ev_k {e : Expr} {v : V} {d : D} (h : PE X e (tC v)) (r : ∀ F β, Rep X.w X.K X.mg F β v d) : EvE T X W e (mC d) :=
  pe_imp h fun σ H Q ⟨F, β, ρ, st, g, er, h⟩ => h v H F β (Ex.refl _) (Pre.refl _) g (r F β)
theorem ev_int {i j pos} : EvE T X W (.Constant (.int i) j pos) (mC (.int i)) := ev_k pe_int fun _ _ => .int i
theorem ev_bl {b j pos} : EvE T X W (.Constant (.bool b) j pos) (mC (.bl b)) := ev_k pe_bl fun _ _ => .bl b
theorem ev_non {j pos} : EvE T X W (.Constant .none j pos) (mC .non) := ev_k pe_non fun _ _ => .non
theorem ev_str {x j pos} : EvE T X W (.Constant (.str x) j pos) (mC (.str x)) := ev_k pe_str fun _ _ => .str x
/-- what a module's name holds -/
def GlOk (wd : World) (K : PySem.W.Frag) (mg : Str → Option Value) (x : Str) (d : D) : Prop := ∃ v u, mg x = some u ∧ RelV v u ∧ ∀ F β, Rep wd K mg F β v d
theorem ev_gl {x : Str} {d : D} {pos : Pos} (h : GlOk X.w X.K X.mg x d) (hg : Gl X x := by rfl) (hd : (x == ("__debug__" : Str)) = false := by decide) : EvE T X W (.Name x pos) (mC d) := by
  obtain ⟨v, u, h1, h2, h3⟩ := h
  exact ev_k (pe_glob hg h1 h2 hd) h3

/-! ### operators -/
/-- an operation by values has the mirror f -/
def OpD (G : Gb) (r : R2) (f : D → D → Sto → R D) : Prop := ∀ (Wq : Value → Option Addr → Hp → Prop) (F H : Hp) (β : List Addr) (st : Sto) (x y : V) (d e : D) (Q : VK), Good G F H β st → Rep G.wd G.K G.mg F β x d → Rep G.wd G.K G.mg F β y e → PostE G Wq F β Q (f d e st) → r x y H Q
def mOp (f : D → D → Sto → R D) (a b : ME) : ME := fun ρ st => (a ρ st).bind fun x st => (b ρ st).bind fun y st => f x y st
theorem op_read {r : R2} {f : D → D → Sto → R D} {ma mb : ME} (hr : OpD (gX T X) r f) {σ : L2.St} {H : Hp} {Q : VK} (h : tM (gX T X) W (mOp f ma mb) σ H Q) : tOp r (tM (gX T X) W ma) (tM (gX T X) W mb) σ H Q := by
  obtain ⟨F, β, ρ, st, g, er, h⟩ := h
  refine tM_imp (tM_E g er h) fun v H1 ⟨F1, β1, d, st1, a1, b1, g1, er1, r1, h2⟩ => ?_
  refine tM_imp (tM_E g1 er1 h2) fun v' H2 ⟨F3, β3, d3, st3, a3, b3, g3, er3, r3, h3⟩ => ?_
  exact hr _ F3 H2 β3 st3 v v' d d3 Q g3 (r1.mono a3 b3) r3 h3
theorem ev_op {op : Operator} {r : R2} {f : D → D → Sto → R D} {ea eb : Expr} {ma mb : ME} {pos : Pos} (ho : OpR X (binaryOp op) r) (hr : OpD (gX T X) r f) (ha : EvE T X W ea ma) (hb : EvE T X W eb mb) : EvE T X W (.BinOp ea op eb pos) (mOp f ma mb) :=
  pe_imp (pe_op ho ha hb) fun _ _ _ => op_read hr
theorem ev_cmp {op : CmpOp} {r : R2} {f : D → D → Sto → R D} {ea eb : Expr} {ma mb : ME} {pos : Pos} (ho : OpR X (compareOp op) r) (hr : OpD (gX T X) r f) (ha : EvE T X W ea ma) (hb : EvE T X W eb mb) (hm : behindInMarks op eb = false := by first | exact nomark _ | rfl) :
    EvE T X W (.Compare ea [op] [eb] pos) (mOp f ma mb) := pe_imp (pe_cmpR ho ha hb hm) fun _ _ _ => op_read hr
/-- a value as a test -/
def mTst (m : ME) : MT := fun ρ st => (m ρ st).bind fun d st => match d with
  | .bl b => .ok b st
  | _ => .bad
theorem tst_read {m : ME} {σ : L2.St} {H : Hp} {Q : Bool → Hp → Prop} (h : tMT (gX T X) W (mTst m) σ H Q) : tM (gX T X) W m σ H fun x H' => ∃ k, x = .bl k ∧ Q k H' := by
  obtain ⟨F, β, ρ, st, g, er, h⟩ := h
  refine tM_imp (tM_T g er h) fun v H1 ⟨F1, β1, d, st1, a1, b1, g1, er1, r1, h2⟩ => ?_
  cases r1 with
  | bl b => exact ⟨b, rfl, h2 H1 F1 β1 (Ex.refl _) (Pre.refl _) g1⟩
  | _ => exact h2.elim
theorem et_cmp {op : CmpOp} {r : R2} {f : D → D → Sto → R D} {ea eb : Expr} {ma mb : ME} {pos : Pos} (ho : OpR X (compareOp op) r) (hr : OpD (gX T X) r f) (ha : EvE T X W ea ma) (hb : EvE T X W eb mb) (hm : behindInMarks op eb = false := by first | exact nomark _ | rfl) :
    EvT T X W (.Compare ea [op] [eb] pos) (mTst (mOp f ma mb)) := pt_imp (pt_cmpR ho ha hb hm) fun _ _ _ h => op_read hr (tst_read h)
theorem et_val {e : Expr} {m : ME} (h : EvE T X W e m) (he : ∀ whole, isTrue e X.env whole = (do let v ← whole; standAt e.pos; holding [v] (truthy v)) := by intro _; rfl) : EvT T X W e (mTst m) :=
  pt_imp (pt_val h he) fun _ _ _ h => tst_read h

/-! ### arithmetic -/
def opInt (C : Int → Int → Bool) (g : Int → Int → D) : D → D → Sto → R D
  | .int i, .int j, st => if C i j then .ok (g i j) st else .bad
  | _, _, _ => .bad
theorem opInt_ok {G : Gb} {C : Int → Int → Bool} {C' : Int → Int → Prop} {g : Int → Int → D} {g' : Int → Int → V} (hC : ∀ i j, C i j = true → C' i j) (hg : ∀ i j F β, Rep G.wd G.K G.mg F β (g' i j) (g i j)) : OpD G (rI C' g') (opInt C g) := by
  intro Wq F H β st x y d e Q gd rx ry h
  cases rx with
  | int i =>
    cases ry with
    | int j =>
      unfold opInt at h
      dsimp only at h
      split at h
      · rename_i hc
        exact ⟨i, j, rfl, rfl, hC i j hc, h _ H F β (Ex.refl _) (Pre.refl _) gd (hg i j F β)⟩
      · exact h.elim
    | _ => exact h.elim
  | _ => exact h.elim
def opInt0 (g : Int → Int → D) : D → D → Sto → R D
  | .int i, .int j, st => .ok (g i j) st
  | _, _, _ => .bad
theorem opInt0_ok {G : Gb} {g : Int → Int → D} {g' : Int → Int → V} (hg : ∀ i j F β, Rep G.wd G.K G.mg F β (g' i j) (g i j)) : OpD G (rI0 g') (opInt0 g) := by
  intro Wq F H β st x y d e Q gd rx ry h
  cases rx with
  | int i =>
    cases ry with
    | int j => exact ⟨i, j, rfl, rfl, h _ H F β (Ex.refl _) (Pre.refl _) gd (hg i j F β)⟩
    | _ => exact h.elim
  | _ => exact h.elim
abbrev mulOk (i j : Int) : Bool := decide (i.natAbs.log2 + j.natAbs.log2 < 1000000)
abbrev divOk (_ j : Int) : Bool := decide (0 < j ∧ j.natAbs.log2 < 9000)
abbrev modOk (_ j : Int) : Bool := decide (0 < j)
abbrev powOk (i j : Int) : Bool := decide (0 ≤ j ∧ j ≤ 1000000 ∧ i.natAbs < 2 ^ 64)
def dSub : D → D → Sto → R D := opInt0 fun i j => .int (i - j)
def dMul : D → D → Sto → R D := opInt mulOk fun i j => .int (i * j)
def dDiv : D → D → Sto → R D := opInt divOk fun i j => .int (i / j)
def dMod : D → D → Sto → R D := opInt modOk fun i j => .int (i % j)
def dPow : D → D → Sto → R D := opInt powOk fun i j => .int (i ^ j.toNat)
theorem od_sub {G : Gb} : OpD G (rI0 fun i j => .int (i - j)) dSub := opInt0_ok fun _ _ _ _ => .int _
theorem od_mul {G : Gb} : OpD G (rI CMulW fun i j => .int (i * j)) dMul := opInt_ok (fun i j h => by unfold CMulW; simpa using h) fun _ _ _ _ => .int _
theorem od_div {G : Gb} : OpD G (rI CDivW fun i j => .int (i / j)) dDiv := opInt_ok (fun i j h => by unfold CDivW; simpa using h) fun _ _ _ _ => .int _
theorem od_mod {G : Gb} : OpD G (rI (fun _ j => 0 < j) fun i j => .int (i % j)) dMod := opInt_ok (fun _ _ h => of_decide_eq_true h) fun _ _ _ _ => .int _
theorem od_pow {G : Gb} : OpD G (rI CPow fun i j => .int (i ^ j.toNat)) dPow := opInt_ok (fun i j h => by unfold CPow; exact of_decide_eq_true h) fun _ _ _ _ => .int _
/-- a + b: ints, texts, tuples, lists (a list + a list is new and never changed) -/
def rAddAll (K : PySem.W.Frag) : R2 := fun x y H Q => ((rI0 fun i j => .int (i + j)) x y H Q ∨ (∃ i j, x = .str i ∧ y = .str j ∧ i.length + j.length ≤ sizeLine ∧ Q (.str (i ++ j)) H)) ∨ (rCatF K x y H Q ∨
  ∃ a b xs ys, x = .ref a ∧ y = .ref b ∧ SqL K H a xs ∧ SqL K H b ys ∧ xs.length + ys.length ≤ sizeLine ∧ ∀ p, H p = none → Q (.ref p) (upd H p (.lst (xs ++ ys))))
theorem op_catL : OpR X (binaryOp .Add) (fun x y H Q => ∃ a b xs ys, x = .ref a ∧ y = .ref b ∧ SqL X.K H a xs ∧ SqL X.K H b ys ∧ xs.length + ys.length ≤ sizeLine ∧ ∀ p, H p = none → Q (.ref p) (upd H p (.lst (xs ++ ys)))) := by
  intro pins s σ H x y v u Q I rx ry h
  obtain ⟨l, b, xs, zs, rfl, rfl, hH, hB, hz, q⟩ := h
  cases rx
  cases ry
  obtain ⟨its, r, ⟨⟨oc, od, odat, osl⟩, n, e, hc, hd, hdat⟩, hl⟩ := I.list hH
  obtain ⟨its2, r2, ⟨⟨oc2, od2, odat2, osl2⟩, n2, e2, hc2, hd2, hdat2⟩, hl2⟩ := I.list hB
  have h1 := r.length
  have h2 := r2.length
  simp only at hc hd hdat hc2 hd2 hdat2
  subst hc hd hdat hc2 hd2 hdat2
  refine concat_meets ⟨_, e, rfl⟩ ⟨_, e2, rfl⟩ noFill_list_add seq_list_add PySem.F.slot_list_add PySem.F.entry_list_add (PySem.F.args_list_add_2 _ _) (PyProof.Rows.list_addW l b its.toArray its2.toArray n n2 none none osl osl2 (by rw [List.size_toArray, List.size_toArray]; omega)) ⟨e, e2, ?_⟩
  have ea : its.toArray ++ its2.toArray = (its ++ its2).toArray := by simp
  rw [ea]
  exact ⟨.ref _, _, I.lnew (t' := s.toks) (r.append r2) (by rw [List.length_append]; omega), rfl, q _ I.fresh⟩
theorem op_addAll : OpR X (binaryOp .Add) (rAddAll X.K) := (op_add.or op_add_str).or (op_catF.or op_catL)
def dAdd : D → D → Sto → R D := fun x y st => match x with
  | .int i => match y with
    | .int j => .ok (.int (i + j)) st
    | _ => .bad
  | .str i => match y with
    | .str j => if i.length + j.length ≤ sizeLine then .ok (.str (i ++ j)) st else .bad
    | _ => .bad
  | .tup a => match y with
    | .tup b => if a.length + b.length ≤ sizeLine then .ok (.tup (a ++ b)) st else .bad
    | _ => .bad
  | x => match lstOf st x with
    | some a => match lstOf st y with
      | some b => if a.length + b.length ≤ sizeLine then .ok (.lst (a ++ b)) st else .bad
      | none => .bad
    | none => .bad
theorem od_add {G : Gb} : OpD G (rAddAll G.K) dAdd := by
  intro Wq F H β st x y d e Q gd rx ry h
  have lists : ∀ a b, lstOf st d = some a → lstOf st e = some b → PostE G Wq F β Q (if a.length + b.length ≤ sizeLine then .ok (.lst (a ++ b)) st else .bad) → rAddAll G.K x y H Q := fun a b ea eb h => by
    split at h
    · rename_i hz
      obtain ⟨l, xs, rfl, s, r⟩ := gd.lst rx ea
      obtain ⟨l2, ys, rfl, s2, r2⟩ := gd.lst ry eb
      refine .inr (.inr ⟨l, l2, xs, ys, rfl, rfl, s, s2, by rw [r.length, r2.length]; exact hz, fun p hp => ?_⟩)
      have g2 := gd.new hp (.lst (xs ++ ys))
      exact h _ _ _ β (Ex.new (gd.ex.none hp)) (Pre.refl _) g2 (.lst (SqL.of upd_same) ((r.append r2).mono (Ex.new (gd.ex.none hp)) (Pre.refl _)))
    · exact h.elim
  have ll : PostE G Wq F β Q (match lstOf st d with
    | some a => match lstOf st e with
      | some b => if a.length + b.length ≤ sizeLine then .ok (.lst (a ++ b)) st else .bad
      | none => .bad
    | none => .bad) → rAddAll G.K x y H Q := fun h => by
    cases ea : lstOf st d with
    | none => rw [ea] at h; exact h.elim
    | some a =>
      rw [ea] at h
      cases eb : lstOf st e with
      | none => rw [eb] at h; exact h.elim
      | some b => rw [eb] at h; exact lists a b ea eb h
  unfold dAdd at h
  cases rx with
  | int i =>
    cases ry with
    | int j => exact .inl (.inl ⟨i, j, rfl, rfl, h _ H F β (Ex.refl _) (Pre.refl _) gd (.int _)⟩)
    | _ => exact h.elim
  | str i =>
    cases ry with
    | str j =>
      dsimp only at h
      split at h
      · rename_i hz
        exact .inl (.inr ⟨i, j, rfl, rfl, hz, h _ H F β (Ex.refl _) (Pre.refl _) gd (.str _)⟩)
      · exact h.elim
    | _ => exact h.elim
  | tup s r =>
    rename_i a xs ds
    cases ry with
    | tup s2 r2 =>
      rename_i b ys es
      dsimp only at h
      split at h
      · rename_i hz
        refine .inr (.inl ⟨a, b, xs, ys, rfl, rfl, gd.ex.stp s.sq, gd.ex.stp s2.sq, by rw [r.length, r2.length]; exact hz, fun e => ?_, fun _ e => ?_, fun _ _ p o hp po => ?_⟩)
        · subst e
          cases r
          exact h _ H F β (Ex.refl _) (Pre.refl _) gd (.tup s2 r2)
        · subst e
          cases r2
          rw [List.append_nil] at h
          exact h _ H F β (Ex.refl _) (Pre.refl _) gd (.tup s r)
        · exact h _ _ _ β (Ex.new (gd.ex.none hp)) (Pre.refl _) (gd.new hp (.frz o (.tup (xs ++ ys)))) (.tup (.inl ⟨o, upd_same, po⟩) ((r.append r2).mono (Ex.new (gd.ex.none hp)) (Pre.refl _)))
      · exact h.elim
    | _ => exact h.elim
  | lst s r => exact ll h
  | ref hb => exact ll h
  | _ => exact h.elim
end
end DM

end

section
set_option Elab.async false
set_option linter.all false
set_option maxRecDepth 100000
set_option maxHeartbeats 2000000
/-! DMd: comparisons, and or not, displays, subscripts. -/
namespace DM
open PySem PySem.Spec PyProof.Rows L2
section
variable {T : List NdefX.NTab} {X : Cx} {W : WX}

/-! ### comparisons -/
def dLt : D → D → Sto → R D := opInt0 fun i j => .bl (decide (i < j))
def dLe : D → D → Sto → R D := opInt0 fun i j => .bl (decide (i ≤ j))
def dGt : D → D → Sto → R D := opInt0 fun i j => .bl (decide (j < i))
def dGe : D → D → Sto → R D := opInt0 fun i j => .bl (decide (j ≤ i))
theorem od_lt {G : Gb} : OpD G (rI0 fun i j => .bl (decide (i < j))) dLt := opInt0_ok fun _ _ _ _ => .bl _
theorem od_le {G : Gb} : OpD G (rI0 fun i j => .bl (decide (i ≤ j))) dLe := opInt0_ok fun _ _ _ _ => .bl _
theorem od_gt {G : Gb} : OpD G (rI0 fun i j => .bl (decide (j < i))) dGt := opInt0_ok fun _ _ _ _ => .bl _
theorem od_ge {G : Gb} : OpD G (rI0 fun i j => .bl (decide (j ≤ i))) dGe := opInt0_ok fun _ _ _ _ => .bl _
/-- == of data -/
def eqB (st : Sto) (d e : D) : Option Bool := (pdS st d).bind fun p => (pdS st e).bind fun q => if SeqAt.shaped p && SeqAt.shaped q then some (PyData.eqv p q) else none
def dEq : D → D → Sto → R D := fun d e st => match eqB st d e with
  | some b => .ok (.bl b) st
  | none => .bad
def dNe : D → D → Sto → R D := fun d e st => match eqB st d e with
  | some b => .ok (.bl (!b)) st
  | none => .bad
theorem eqB_some {st : Sto} {d e : D} {b : Bool} (h : eqB st d e = some b) : ∃ p q, pdS st d = some p ∧ pdS st e = some q ∧ SeqAt.shaped p = true ∧ SeqAt.shaped q = true ∧ PyData.eqv p q = b := by
  unfold eqB at h
  cases e1 : pdS st d with
  | none => rw [e1] at h; cases h
  | some p =>
    cases e2 : pdS st e with
    | none => rw [e1, e2] at h; cases h
    | some q =>
      rw [e1, e2] at h
      simp only [Option.bind_some] at h
      split at h
      · rename_i hs
        rw [Bool.and_eq_true] at hs
        cases h
        exact ⟨p, q, rfl, rfl, hs.1, hs.2, rfl⟩
      · cases h
theorem od_eq {G : Gb} : OpD G (rEqD G.K) dEq := by
  intro Wq F H β st x y d e Q gd rx ry h
  unfold dEq at h
  cases eb : eqB st d e with
  | none => rw [eb] at h; exact h.elim
  | some b =>
    rw [eb] at h
    obtain ⟨p, q, hp, hq, sp, sq, rfl⟩ := eqB_some eb
    exact ⟨p, q, gd.dp rx hp, gd.dp ry hq, sp, sq, h _ H F β (Ex.refl _) (Pre.refl _) gd (.bl _)⟩
theorem od_ne {G : Gb} : OpD G (rNeD G.K) dNe := by
  intro Wq F H β st x y d e Q gd rx ry h
  unfold dNe at h
  cases eb : eqB st d e with
  | none => rw [eb] at h; exact h.elim
  | some b =>
    rw [eb] at h
    obtain ⟨p, q, hp, hq, sp, sq, rfl⟩ := eqB_some eb
    exact ⟨p, q, gd.dp rx hp, gd.dp ry hq, sp, sq, h _ H F β (Ex.refl _) (Pre.refl _) gd (.bl _)⟩
/-- is None, is not None -/
def dIsN : D → D → Sto → R D := fun d e st => match e with
  | .non => .ok (.bl (match d with | .non => true | _ => false)) st
  | _ => .bad
def dNotN : D → D → Sto → R D := fun d e st => match e with
  | .non => .ok (.bl (match d with | .non => false | _ => true)) st
  | _ => .bad
theorem od_isN {G : Gb} : OpD G (fun x y H Q => y = .non ∧ Q (.bl (decide (x = .non))) H) dIsN := by
  intro Wq F H β st x y d e Q gd rx ry h
  cases ry with
  | non =>
    refine ⟨rfl, ?_⟩
    have h := fun v r => h v H F β (Ex.refl _) (Pre.refl _) gd r
    cases rx <;> exact h _ (.bl _)
  | _ => exact h.elim
theorem od_notN {G : Gb} : OpD G (fun x y H Q => y = .non ∧ Q (.bl (!decide (x = .non))) H) dNotN := by
  intro Wq F H β st x y d e Q gd rx ry h
  cases ry with
  | non =>
    refine ⟨rfl, ?_⟩
    have h := fun v r => h v H F β (Ex.refl _) (Pre.refl _) gd r
    cases rx <;> exact h _ (.bl _)
  | _ => exact h.elim
/-- x in, x not in a list or a tuple of flat things -/
def flatD : D → Bool
  | .non => true
  | .bl _ => true
  | .int _ => true
  | .str _ => true
  | _ => false
def eqFl : D → D → Bool
  | .non, .non => true
  | .bl a, .bl b => a == b
  | .bl a, .int b => (if a then 1 else 0) == b
  | .int a, .bl b => a == (if b then 1 else 0)
  | .int a, .int b => a == b
  | .str a, .str b => a == b
  | _, _ => false
def inD (x : D) (ds : List D) : Bool := ds.any fun y => eqFl y x
def seqOf (st : Sto) : D → Option (List D)
  | .tup ds => some ds
  | d => lstOf st d
def dIn (neg : Bool) : D → D → Sto → R D := fun x d st => match seqOf st d with
  | some ds => if flatD x && ds.all flatD then .ok (.bl (if neg then !inD x ds else inD x ds)) st else .bad
  | none => .bad
section
variable {wd : World} {K : PySem.W.Frag} {mg : Str → Option Value} {F H : Hp} {β : List Addr} {G : Gb} {st : Sto}
theorem rep_flat {v : V} {d : D} (r : Rep wd K mg F β v d) (h : flatD d = true) : flatV v = true := by
  cases r <;> first | rfl | exact absurd (show false = true from h) Bool.false_ne_true
theorem rep_flats : ∀ {vs : List V} {ds : List D}, RepAll wd K mg F β vs ds → ds.all flatD = true → vs.all flatV = true
  | _, _, .nil, _ => rfl
  | _, _, .cons h r, q => by
    rw [List.all_cons, Bool.and_eq_true] at q
    rw [List.all_cons, rep_flat h q.1, rep_flats r q.2]; rfl
theorem rep_eqFl {v u : V} {d e : D} (r : Rep wd K mg F β v d) (s : Rep wd K mg F β u e) (h : flatD d = true) (h' : flatD e = true) : eqV v u = eqFl d e := by
  cases r <;> first
    | (cases s <;> first | rfl | exact absurd (show false = true from h') Bool.false_ne_true)
    | exact absurd (show false = true from h) Bool.false_ne_true
theorem rep_in {v : V} {d : D} (s : Rep wd K mg F β v d) (h' : flatD d = true) : ∀ {vs : List V} {ds : List D}, RepAll wd K mg F β vs ds → ds.all flatD = true → inV v vs = inD d ds
  | _, _, .nil, _ => rfl
  | _, _, .cons h r, q => by
    rw [List.all_cons, Bool.and_eq_true] at q
    have ih := rep_in s h' r q.2
    unfold inV inD at ih ⊢
    rw [List.any_cons, List.any_cons, rep_eqFl h s q.1 h', ih]
theorem Good.seq (g : Good G F H β st) {v : V} {d : D} {ds : List D} (r : Rep G.wd G.K G.mg F β v d) (h : seqOf st d = some ds) : ∃ a xs, v = .ref a ∧ (SqL G.K H a xs ∨ SqT G.K H a xs) ∧ RepAll G.wd G.K G.mg F β xs ds := by
  have ll : lstOf st d = some ds → ∃ a xs, v = .ref a ∧ (SqL G.K H a xs ∨ SqT G.K H a xs) ∧ RepAll G.wd G.K G.mg F β xs ds := fun h => by
    obtain ⟨a, xs, e, s, r⟩ := g.lst r h
    exact ⟨a, xs, e, .inl s, r⟩
  cases d with
  | tup es =>
    obtain ⟨a, xs, e, s', r⟩ := g.tupl r (show tupOf (.tup es) = some ds from h)
    exact ⟨a, xs, e, .inr s', r⟩
  | _ => exact ll h
end
theorem od_in {G : Gb} {neg : Bool} : OpD G (rIn G.K neg) (dIn neg) := by
  intro Wq F H β st x y d e Q gd rx ry h
  unfold dIn at h
  cases es : seqOf st e with
  | none => rw [es] at h; exact h.elim
  | some ds =>
    rw [es] at h
    dsimp only at h
    split at h
    · rename_i hf
      rw [Bool.and_eq_true] at hf
      obtain ⟨a, xs, rfl, s, r⟩ := gd.seq ry es
      refine ⟨a, xs, rfl, s, rep_flat rx hf.1, rep_flats r hf.2, ?_⟩
      rw [rep_in rx hf.1 r hf.2]
      exact h _ H F β (Ex.refl _) (Pre.refl _) gd (.bl _)
    · exact h.elim

/-! ### and, or, not, if else -/
def mAnd (a b : MT) : MT := fun ρ st => (a ρ st).bind fun c st => if c then b ρ st else .ok false st
def mOr (a b : MT) : MT := fun ρ st => (a ρ st).bind fun c st => if c then .ok true st else b ρ st
def mNot (a : MT) : MT := fun ρ st => (a ρ st).bind fun c st => .ok (!c) st
def mAndV (a b : ME) : ME := fun ρ st => (a ρ st).bind fun c st => match c with
  | .bl true => b ρ st
  | .bl false => .ok (.bl false) st
  | _ => .bad
def mOrV (a b : ME) : ME := fun ρ st => (a ρ st).bind fun c st => match c with
  | .bl true => .ok (.bl true) st
  | .bl false => b ρ st
  | _ => .bad
def mNotV (a : ME) : ME := fun ρ st => (a ρ st).bind fun c st => match c with
  | .bl k => .ok (.bl (!k)) st
  | _ => .bad
def mIf (c : MT) (a b : ME) : ME := fun ρ st => (c ρ st).bind fun k st => if k then a ρ st else b ρ st
section
variable {a b e : Expr} {rest : List Expr} {pos : Pos} {ta tb : MT} {ma mb : ME}
theorem ew_and1 (ha : EvT T X W a ta) : EvW T X W (.BoolOp .And [a] pos) ta := pw_and1 ha
theorem ew_or1 (ha : EvT T X W a ta) : EvW T X W (.BoolOp .Or [a] pos) ta := pw_or1 ha
theorem ew_and (ha : EvT T X W a ta) (hb : EvW T X W (.BoolOp .And (b :: rest) pos) tb) : EvW T X W (.BoolOp .And (a :: b :: rest) pos) (mAnd ta tb) :=
  pw_imp (pw_and ha hb) fun σ H Q ⟨F, β, ρ, st, g, er, h⟩ => tMT_imp (tMT_T g er h) fun c H1 ⟨F1, β1, st1, a1, b1, g1, er1, h1⟩ => by
    cases c with
    | true => exact ⟨F1, β1, ρ, st1, g1, er1, h1⟩
    | false => exact h1 H1 F1 β1 (Ex.refl _) (Pre.refl _) g1
theorem ew_or (ha : EvT T X W a ta) (hb : EvW T X W (.BoolOp .Or (b :: rest) pos) tb) : EvW T X W (.BoolOp .Or (a :: b :: rest) pos) (mOr ta tb) :=
  pw_imp (pw_or ha hb) fun σ H Q ⟨F, β, ρ, st, g, er, h⟩ => tMT_imp (tMT_T g er h) fun c H1 ⟨F1, β1, st1, a1, b1, g1, er1, h1⟩ => by
    cases c with
    | true => exact h1 H1 F1 β1 (Ex.refl _) (Pre.refl _) g1
    | false => exact ⟨F1, β1, ρ, st1, g1, er1, h1⟩
theorem et_not (ha : EvT T X W a ta) : EvT T X W (.UnaryOp .Not a pos) (mNot ta) :=
  pt_imp (pt_not ha) fun σ H Q ⟨F, β, ρ, st, g, er, h⟩ => tMT_imp (tMT_T g er h) fun c H1 ⟨F1, β1, st1, a1, b1, g1, er1, h1⟩ => h1 H1 F1 β1 (Ex.refl _) (Pre.refl _) g1
theorem ev_one {op} (h : EvE T X W a ma) : EvE T X W (.BoolOp op [a] pos) ma := pe_one h
theorem ev_and (ha : EvE T X W a ma) (hb : EvE T X W (.BoolOp .And (b :: rest) pos) mb) : EvE T X W (.BoolOp .And (a :: b :: rest) pos) (mAndV ma mb) :=
  pe_imp (pe_and ha hb) fun σ H Q ⟨F, β, ρ, st, g, er, h⟩ => tM_imp (tM_E g er h) fun v H1 ⟨F1, β1, d, st1, a1, b1, g1, er1, r1, h1⟩ => by
    cases r1 with
    | bl c =>
      refine ⟨c, rfl, ?_⟩
      cases c with
      | true => exact ⟨F1, β1, ρ, st1, g1, er1, h1⟩
      | false => exact h1 _ H1 F1 β1 (Ex.refl _) (Pre.refl _) g1 (.bl _)
    | _ => exact h1.elim
theorem ev_or (ha : EvE T X W a ma) (hb : EvE T X W (.BoolOp .Or (b :: rest) pos) mb) : EvE T X W (.BoolOp .Or (a :: b :: rest) pos) (mOrV ma mb) :=
  pe_imp (pe_or ha hb) fun σ H Q ⟨F, β, ρ, st, g, er, h⟩ => tM_imp (tM_E g er h) fun v H1 ⟨F1, β1, d, st1, a1, b1, g1, er1, r1, h1⟩ => by
    cases r1 with
    | bl c =>
      refine ⟨c, rfl, ?_⟩
      cases c with
      | true => exact h1 _ H1 F1 β1 (Ex.refl _) (Pre.refl _) g1 (.bl _)
      | false => exact ⟨F1, β1, ρ, st1, g1, er1, h1⟩
    | _ => exact h1.elim
theorem ev_not (ha : EvE T X W a ma) : EvE T X W (.UnaryOp .Not a pos) (mNotV ma) :=
  pe_imp (pe_not ha) fun σ H Q ⟨F, β, ρ, st, g, er, h⟩ => tM_imp (tM_E g er h) fun v H1 ⟨F1, β1, d, st1, a1, b1, g1, er1, r1, h1⟩ => by
    cases r1 with
    | bl c => exact ⟨c, rfl, h1 _ H1 F1 β1 (Ex.refl _) (Pre.refl _) g1 (.bl _)⟩
    | _ => exact h1.elim
theorem ev_if {c : Expr} {mc : MT} (hc : EvT T X W c mc) (ha : EvE T X W a ma) (hb : EvE T X W b mb) : EvE T X W (.IfExp c a b pos) (mIf mc ma mb) :=
  pe_imp (pe_ifExp hc ha hb) fun σ H Q ⟨F, β, ρ, st, g, er, h⟩ => tMT_imp (tMT_E g er h) fun k H1 ⟨F1, β1, st1, a1, b1, g1, er1, h1⟩ => by
    cases k with
    | true => exact ⟨F1, β1, ρ, st1, g1, er1, h1⟩
    | false => exact ⟨F1, β1, ρ, st1, g1, er1, h1⟩
def mNeg (a : ME) : ME := fun ρ st => (a ρ st).bind fun c st => match c with
  | .int k => .ok (.int (-k)) st
  | _ => .bad
theorem ev_neg (ha : EvE T X W a ma) : EvE T X W (.UnaryOp .USub a pos) (mNeg ma) :=
  pe_imp (pe_un un_neg ha) fun σ H Q ⟨F, β, ρ, st, g, er, h⟩ => tM_imp (tM_E g er h) fun v H1 ⟨F1, β1, d, st1, a1, b1, g1, er1, r1, h1⟩ => by
    cases r1 with
    | int c => exact ⟨c, rfl, h1 _ H1 F1 β1 (Ex.refl _) (Pre.refl _) g1 (.int _)⟩
    | _ => exact h1.elim
/-- a < b < c -/
def mChain (f f' : D → D → Sto → R D) (a b c : ME) : ME := fun ρ st => (a ρ st).bind fun x st => (b ρ st).bind fun y st => (f x y st).bind fun z st => match z with
  | .bl true => (c ρ st).bind fun u st => f' y u st
  | .bl false => .ok (.bl false) st
  | _ => .bad
/-- an operation that leaves all as it is -/
def Still (G : Gb) (r : R2) (f : D → D → Sto → R D) : Prop := ∀ (Wq : Value → Option Addr → Hp → Prop) (F H : Hp) (β : List Addr) (st : Sto) (x y : V) (d e : D) (Q : VK), Good G F H β st → Rep G.wd G.K G.mg F β x d → Rep G.wd G.K G.mg F β y e →
  (∀ v d' , f d e st = .ok d' st → Rep G.wd G.K G.mg F β v d' → Q v H) → (∃ d', f d e st = .ok d' st) → r x y H Q

/-! ### argument lists, displays -/
def mNil : MA := fun _ st => .ok [] st
def mCons (m : ME) (ms : MA) : MA := fun ρ st => (m ρ st).bind fun d st => (ms ρ st).bind fun ds st => .ok (d :: ds) st
/-- *e ahead of the rest: a tuple or a list -/
def mStar (m : ME) (ms : MA) : MA := fun ρ st => (m ρ st).bind fun d st => match seqOf st d with
  | some ds => (ms ρ st).bind fun es st => .ok (ds ++ es) st
  | none => .bad
variable {es : List Expr} {ms : MA}
theorem ea_nil : EvA T X W [] mNil := pa_imp pa_nil fun σ H Q ⟨F, β, ρ, st, g, er, h⟩ => h [] H F β (Ex.refl _) (Pre.refl _) g .nil
theorem ea_cons (he : EvE T X W e ma) (hr : EvA T X W es ms) (hs : starEach (e :: es) X.env = (false, eval e X.env) :: starEach es X.env := by rfl) : EvA T X W (e :: es) (mCons ma ms) :=
  pa_imp (pa_cons he hr hs) fun σ H Q ⟨F, β, ρ, st, g, er, h⟩ => tM_imp (tM_A g er h) fun v H1 ⟨F1, β1, d, st1, a1, b1, g1, er1, r1, h1⟩ =>
    tMA_imp (tMA_A g1 er1 h1) fun vs H2 ⟨F2, β2, ds, st2, a2, b2, g2, er2, r2, h2⟩ => h2 _ H2 F2 β2 (Ex.refl _) (Pre.refl _) g2 (.cons (r1.mono a2 b2) r2)
theorem ea_star {p : Pos} (he : EvE T X W e ma) (hr : EvA T X W es ms) (hs : starEach (.Starred e p :: es) X.env = (true, eval e X.env) :: starEach es X.env := by rfl) : EvA T X W (.Starred e p :: es) (mStar ma ms) :=
  pa_imp (StX.pa_star he hr hs) fun σ H Q ⟨F, β, ρ, st, g, er, h⟩ => tM_imp (tM_A g er h) fun v H1 ⟨F1, β1, d, st1, a1, b1, g1, er1, r1, h1⟩ => by
    cases es : seqOf st1 d with
    | none => rw [es] at h1; exact h1.elim
    | some ds =>
      rw [es] at h1
      obtain ⟨a, xs, rfl, s, r⟩ := g1.seq r1 es
      refine ⟨a, xs, rfl, s.symm, ?_⟩
      exact tMA_imp (tMA_A g1 er1 h1) fun vs H2 ⟨F2, β2, ds2, st2, a2, b2, g2, er2, r2, h2⟩ => h2 _ H2 F2 β2 (Ex.refl _) (Pre.refl _) g2 ((r.mono a2 b2).append r2)
def szOk {α : Type} (ds : List α) : Bool := decide (ds.length ≤ sizeLine)
def mTup (m : MA) : ME := fun ρ st => (m ρ st).bind fun ds st => if szOk ds then .ok (.tup ds) st else .bad
/-- a list that is never changed; one that may be -/
def mLst (m : MA) : ME := fun ρ st => (m ρ st).bind fun ds st => if szOk ds then .ok (.lst ds) st else .bad
def mLstM (m : MA) : ME := fun ρ st => (m ρ st).bind fun ds st => if szOk ds then .ok (.ref st.length) (st ++ [.lst ds]) else .bad
theorem ev_tup {x1} (h : EvA T X W es ms) : EvE T X W (.Tuple es x1 pos) (mTup ms) :=
  pe_imp (pe_tupF h) fun σ H Q ⟨F, β, ρ, st, g, er, h⟩ => tMA_imp (tMA_E g er h) fun vs H1 ⟨F1, β1, ds, st1, a1, b1, g1, er1, r1, h1⟩ => by
    split at h1
    · rename_i hz
      refine ⟨by rw [r1.length]; exact of_decide_eq_true hz, fun p o hp po => ?_⟩
      exact h1 _ _ _ β1 (Ex.new (g1.ex.none hp)) (Pre.refl _) (g1.new hp (.frz o (.tup vs))) (.tup (.inl ⟨o, upd_same, po⟩) (r1.mono (Ex.new (g1.ex.none hp)) (Pre.refl _)))
    · exact h1.elim
theorem ev_lst (h : EvA T X W es ms) : EvE T X W (.List es pos) (mLst ms) :=
  pe_imp (pe_lst h) fun σ H Q ⟨F, β, ρ, st, g, er, h⟩ => tMA_imp (tMA_E g er h) fun vs H1 ⟨F1, β1, ds, st1, a1, b1, g1, er1, r1, h1⟩ => by
    split at h1
    · rename_i hz
      refine ⟨by rw [r1.length]; exact of_decide_eq_true hz, fun p hp => ?_⟩
      exact h1 _ _ _ β1 (Ex.new (g1.ex.none hp)) (Pre.refl _) (g1.new hp (.lst vs)) (.lst (SqL.of upd_same) (r1.mono (Ex.new (g1.ex.none hp)) (Pre.refl _)))
    · exact h1.elim
theorem ref_last {wd : World} {K : PySem.W.Frag} {mg : Str → Option Value} {F : Hp} {β : List Addr} {p : Addr} {n : Nat} (h : β.length = n) : Rep wd K mg F (β ++ [p]) (.ref p) (.ref n) := by
  subst h
  exact .ref (by rw [List.getElem?_append_right (Nat.le_refl _)]; simp)
theorem ev_lstM (h : EvA T X W es ms) : EvE T X W (.List es pos) (mLstM ms) :=
  pe_imp (pe_lst h) fun σ H Q ⟨F, β, ρ, st, g, er, h⟩ => tMA_imp (tMA_E g er h) fun vs H1 ⟨F1, β1, ds, st1, a1, b1, g1, er1, r1, h1⟩ => by
    split at h1
    · rename_i hz
      refine ⟨by rw [r1.length]; exact of_decide_eq_true hz, fun p hp => ?_⟩
      exact h1 _ _ F1 (β1 ++ [p]) (Ex.refl _) (pre_app _ _) (g1.lay hp ⟨vs, upd_same, r1⟩) (ref_last g1.len)
    · exact h1.elim

/-! ### subscripts -/
def atD (st : Sto) : D → Int → Option D
  | .str s, i => if s.length ≤ sizeLine then (atI s.cps.toList i).map fun c => .str ⟨#[c]⟩ else none
  | d, i => (seqOf st d).bind fun ds => atI ds i
def dIx : D → D → Sto → R D := fun d e st => match e with
  | .int i => match atD st d i with
    | some x => .ok x st
    | none => .bad
  | _ => .bad
theorem ixN_len {α β : Type} {xs : List α} {ys : List β} (h : xs.length = ys.length) (i : Int) : ixN xs.length i = ixN ys.length i := by rw [h]
theorem rep_at {wd : World} {K : PySem.W.Frag} {mg : Str → Option Value} {F : Hp} {β : List Addr} {vs : List V} {ds : List D} (r : RepAll wd K mg F β vs ds) {i : Int} {d : D} (h : atI ds i = some d) : ∃ v, atI vs i = some v ∧ Rep wd K mg F β v d := by
  unfold atI at h ⊢
  rw [ixN_len r.length]
  cases e : ixN ds.length i with
  | none => rw [e] at h; cases h
  | some j => rw [e] at h; exact r.get h
theorem od_ix {G : Gb} : OpD G (rIx G.K) dIx := by
  intro Wq F H β st x y d e Q gd rx ry h
  cases ry with
  | int i =>
    unfold dIx at h
    dsimp only at h
    cases ea : atD st d i with
    | none => rw [ea] at h; exact h.elim
    | some z =>
      rw [ea] at h
      have sq : (seqOf st d).bind (fun ds => atI ds i) = some z → rIx G.K x (.int i) H Q := fun ea => by
        cases es : seqOf st d with
        | none => rw [es] at ea; cases ea
        | some ds =>
          rw [es] at ea
          obtain ⟨a, xs, rfl, s, r⟩ := gd.seq rx es
          obtain ⟨v, hv, rv⟩ := rep_at r ea
          have q := h v H F β (Ex.refl _) (Pre.refl _) gd rv
          rcases s with s | s
          · exact .inl ⟨a, xs, i, v, rfl, rfl, s, hv, q⟩
          · exact .inr (.inl ⟨a, xs, i, v, rfl, rfl, s, hv, q⟩)
      cases rx with
      | str s =>
        unfold atD at ea
        dsimp only at ea
        split at ea
        · rename_i hz
          cases ec : atI s.cps.toList i with
          | none => rw [ec] at ea; cases ea
          | some c =>
            rw [ec] at ea
            cases ea
            exact .inr (.inr ⟨s, i, c, rfl, rfl, hz, ec, h _ H F β (Ex.refl _) (Pre.refl _) gd (.str _)⟩)
        · cases ea
      | _ => exact sq ea
  | _ => exact h.elim
theorem ev_ix (ha : EvE T X W a ma) (hb : EvE T X W b mb) (hs : PlainIx b := by exact fun _ _ => rfl) : EvE T X W (.Subscript a b pos) (mOp dIx ma mb) := pe_imp (pe_ix ix_seq ha hb hs) fun _ _ _ => op_read od_ix
end
end
end DM

end

section
set_option Elab.async false
set_option linter.all false
set_option maxRecDepth 100000
set_option maxHeartbeats 2000000
/-! DMe: calls, statements. -/
namespace DM
open PySem PySem.Spec PyProof.Rows L2

/-- a def's promise: its mirror, for n arguments -/
def spM (G : Gb) (n : Nat) (m : List D → Sto → R D) : Sp := fun vs H Q E => ∃ F β st ds, Good G F H β st ∧ RepAll G.wd G.K G.mg F β vs ds ∧ PostE G E F β Q (if ds.length = n then m ds st else .bad)
theorem spM_len {G : Gb} {n : Nat} {m : List D → Sto → R D} {ps : List Str} (hp : ps.length = n) : ∀ vs H Q E, spM G n m vs H Q E → vs.length = ps.length := fun vs H Q E ⟨F, β, st, ds, g, r, h⟩ => by
  split at h
  · rename_i e
    rw [r.length, e, hp]
  · exact h.elim
def mCall (n : Nat) (f : List D → Sto → R D) (ms : MA) : ME := fun ρ st => (ms ρ st).bind fun ds st => if ds.length = n then f ds st else .bad
/-- a wish that does not look at the slots -/
abbrev wF (E : XK) : WX := fun cls d _ H => E cls d H
section
variable {T : List NdefX.NTab} {X : Cx} {W : WX} {E : XK} {k n : Nat} {f C : Addr} {fd : FuncData} {ps : List Str} {m : List D → Sto → R D} {x nm : Str} {p pos apos : Pos} {e o : Expr} {es : List Expr} {ms : MA} {mo : ME}
theorem ev_call (F : FnOk X.prog X.w X.K X.mg X.base (L2.CX X.prog X.w) k f fd ps (spM (gX T X) n m)) (hr : Room k X.A) (hm : X.mg x = some (.ref f)) (hk : PySem.W.keepIn X.K (.ref f) = true) (hb : Binds X.K fd ps []) (tk : Takes X W)
    (ha : EvA T X W (e :: es) ms) (hg : Gl X x := by rfl) (hdb : (x == ("__debug__" : Str)) = false := by decide) (he : starEach (e :: es) X.env = (false, eval e X.env) :: starEach es X.env := by rfl) (hpl : (backTo pos (starEach es X.env)).any (·.1) = false := by rfl) :
    EvE T X W (.Call (.Name x p) (e :: es) [] pos) (mCall n m ms) :=
  pe_imp (pe_callS F hr hg hm hk hb (fun σ => passAt tk σ) ha hdb he hpl) fun σ H Q ⟨F1, β, ρ, st, g, er, h⟩ =>
    tMA_imp (tMA_E g er h) fun vs H1 ⟨F2, β2, ds, st2, a2, b2, g2, er2, r2, h2⟩ => ⟨F2, β2, st2, ds, g2, r2, h2⟩
/-- f() -/
theorem ev_call0 (F : FnOk X.prog X.w X.K X.mg X.base (L2.CX X.prog X.w) k f fd ps (spM (gX T X) n m)) (hr : Room k X.A) (hm : X.mg x = some (.ref f)) (hk : PySem.W.keepIn X.K (.ref f) = true) (hb : Binds X.K fd ps []) (tk : Takes X (wF E))
    (hg : Gl X x := by rfl) (hdb : (x == ("__debug__" : Str)) = false := by decide) : EvE T X (wF E) (.Call (.Name x p) [] [] pos) (mCall n m mNil) :=
  pe_imp (pe_call0 F hr hg hm hk hb .nil (passes_call tk fun _ _ _ _ h => h) hdb) fun σ H Q ⟨F1, β, ρ, st, g, er, h⟩ => ⟨F1, β, st, [], g, .nil, h⟩
/-- o.m(e, ..), o of a class of one's own -/
def mMeth (c : Str) (nm : Str) (n : Nat) (f : List D → Sto → R D) (mo : ME) (ms : MA) : ME := fun ρ st => (mo ρ st).bind fun o st => match insOf st o with
  | some (c', fs) => if c' = c ∧ fs.lookup nm = none then (ms ρ st).bind fun ds st => if (o :: ds).length = n then f (o :: ds) st else .bad else .bad
  | none => .bad
theorem lookup_zip {α β : Type} {gs : List (Str × α)} {ws : List β} {x : Str} (hl : gs.length = ws.length) : (((gs.map (·.1)).zip ws).lookup x = none) → gs.lookup x = none := by
  induction gs generalizing ws with
  | nil => intro _; rfl
  | cons q gs ih =>
    obtain ⟨q1, q2⟩ := q
    cases ws with
    | nil => simp at hl
    | cons w ws =>
      simp only [List.map_cons, List.zip_cons_cons, List.lookup_cons]
      cases e : x == q1 with
      | true => intro h; cases h
      | false => exact fun h => ih (by simpa using hl) h
theorem lookup_zip_some {wd : World} {K : PySem.W.Frag} {mg : Str → Option Value} {F : Hp} {β : List Addr} {gs : List (Str × V)} {ws : List D} {x : Str} {d : D} (r : RepAll wd K mg F β (gs.map (·.2)) ws) (h : ((gs.map (·.1)).zip ws).lookup x = some d) : ∃ v, gs.lookup x = some v ∧ Rep wd K mg F β v d := by
  induction gs generalizing ws with
  | nil => simp at h
  | cons q gs ih =>
    obtain ⟨q1, q2⟩ := q
    rw [List.map_cons] at r
    cases r with
    | cons h1 r =>
      simp only [List.map_cons, List.zip_cons_cons, List.lookup_cons] at h ⊢
      cases e : x == q1 with
      | true => rw [e] at h; cases h; exact ⟨_, rfl, h1⟩
      | false => rw [e] at h; exact ih r h
theorem Good.insR {G : Gb} {F H : Hp} {β : List Addr} {st : Sto} (g : Good G F H β st) {v : V} {d : D} {c : Str} {fs : List (Str × D)} (r : Rep G.wd G.K G.mg F β v d) (h : insOf st d = some (c, fs)) :
    ∃ (a C dx : Addr) (gs : List (Str × V)) (ws : List D), v = .ref a ∧ G.mg c = some (.ref C) ∧ H a = some (.ins C dx gs) ∧ RepAll G.wd G.K G.mg F β (gs.map (·.2)) ws ∧ fs = (gs.map (·.1)).zip ws := by
  cases r with
  | obj s hc r => cases h; exact ⟨_, _, _, _, _, rfl, hc, g.ex _ _ s, r, rfl⟩
  | ref hb =>
    rename_i n a
    unfold insOf at h
    simp only at h
    cases e : st[n]? with
    | none => rw [e] at h; cases h
    | some ob =>
      rw [e] at h
      cases ob with
      | ins c' fs' =>
        cases h
        obtain ⟨C, dx, gs, ws, q1, q2, q3, q4⟩ := g.ob n a _ hb e
        exact ⟨a, C, dx, gs, ws, rfl, q1, q2, q3.mono (Ex.refl _) (pre_take n), q4⟩
      | _ => cases h
  | _ => cases h
theorem ev_meth {pl : Sem Bool} {c : Str} (he : EvE T X (wF E) o mo) (hc : X.mg c = some (.ref C)) (cl : Cls X.K C) (hm : Meth X.K C nm f) (F : FnOk X.prog X.w X.K X.mg X.base (L2.CX X.prog X.w) k f fd ps (spM (gX T X) n m)) (hr : Room k X.A) (hb : Binds X.K fd ps []) (tk : Takes X (wF E))
    (ha : EvA T X (wF E) (e :: es) ms) (hst : starEach (e :: es) X.env = (false, eval e X.env) :: starEach es X.env := by rfl) (hpl : (backTo pos (starEach es X.env)).any (·.1) = false := by rfl)
    (ht : eval (.Call (.Attribute o nm apos) (e :: es) [] pos) X.env = (do
      let ov ← eval o X.env
      standAt apos.atName
      let (f, first) ← holding [ov] (getMethod ov nm pl)
      callWith pos f first (backTo pos (starEach (e :: es) X.env)) (backToKw pos (keywordEach [] X.env))) := by rfl) :
    EvE T X (wF E) (.Call (.Attribute o nm apos) (e :: es) [] pos) (mMeth c nm n m mo ms) :=
  pe_imp (pe_meth he cl hm F hr hb .nil (passes_call tk fun _ _ _ _ h => h) ha hst hpl ht) fun σ H Q ⟨F1, β, ρ, st, g, er, h⟩ => tM_imp (tM_E g er h) fun v H1 ⟨F2, β2, d, st2, a2, b2, g2, er2, r2, h2⟩ => by
    cases ei : insOf st2 d with
    | none => rw [ei] at h2; exact h2.elim
    | some cf =>
      obtain ⟨c', fs⟩ := cf
      rw [ei] at h2
      dsimp only at h2
      split at h2
      · rename_i q
        obtain ⟨q1, q2⟩ := q
        subst q1
        obtain ⟨a, C', dx, gs, ws, rfl, hC, ho, rw', ef⟩ := g2.insR r2 ei
        have hC : X.mg c' = some (.ref C') := hC
        rw [hc] at hC; cases hC
        subst ef
        refine ⟨a, dx, gs, rfl, ho, lookup_zip (by have := rw'.length; simpa using this) q2, ?_⟩
        refine tMA_imp (tMA_E g2 er2 h2) fun vs H3 ⟨F3, β3, ds, st3, a3, b3, g3, er3, r3, h3⟩ => ⟨F3, β3, st3, d :: ds, g3, ?_, h3⟩
        rw [List.append_nil]
        exact .cons (r2.mono a3 b3) r3
      · exact h2.elim
theorem ev_meth0 {pl : Sem Bool} {c : Str} (he : EvE T X (wF E) o mo) (hc : X.mg c = some (.ref C)) (cl : Cls X.K C) (hm : Meth X.K C nm f) (F : FnOk X.prog X.w X.K X.mg X.base (L2.CX X.prog X.w) k f fd ps (spM (gX T X) n m)) (hr : Room k X.A) (hb : Binds X.K fd ps []) (tk : Takes X (wF E))
    (ht : eval (.Call (.Attribute o nm apos) [] [] pos) X.env = (do
      let ov ← eval o X.env
      standAt apos.atName
      let (f, first) ← holding [ov] (getMethod ov nm pl)
      callWith pos f first (backTo pos (starEach [] X.env)) (backToKw pos (keywordEach [] X.env))) := by rfl) :
    EvE T X (wF E) (.Call (.Attribute o nm apos) [] [] pos) (mMeth c nm n m mo mNil) :=
  pe_imp (pe_meth0 he cl hm F hr hb .nil (passes_call tk fun _ _ _ _ h => h) ht) fun σ H Q ⟨F1, β, ρ, st, g, er, h⟩ => tM_imp (tM_E g er h) fun v H1 ⟨F2, β2, d, st2, a2, b2, g2, er2, r2, h2⟩ => by
    cases ei : insOf st2 d with
    | none => rw [ei] at h2; exact h2.elim
    | some cf =>
      obtain ⟨c', fs⟩ := cf
      rw [ei] at h2
      dsimp only at h2
      split at h2
      · rename_i q
        obtain ⟨q1, q2⟩ := q
        subst q1
        obtain ⟨a, C', dx, gs, ws, rfl, hC, ho, rw', ef⟩ := g2.insR r2 ei
        have hC : X.mg c' = some (.ref C') := hC
        rw [hc] at hC; cases hC
        subst ef
        refine ⟨a, dx, gs, rfl, ho, lookup_zip (by have := rw'.length; simpa using this) q2, F2, β2, st2, [d], g2, ?_, h2⟩
        exact .cons r2 .nil
      · exact h2.elim
/-- o.f, a property of a class of one's own -/
def mProp (c : Str) (n : Nat) (f : List D → Sto → R D) (mo : ME) : ME := fun ρ st => (mo ρ st).bind fun o st => match insOf st o with
  | some (c', _) => if c' = c then (if [o].length = n then f [o] st else .bad) else .bad
  | none => .bad
theorem passN {X : Cx} {E : XK} : Passes (L2.CX X.prog X.w) X.nox E0 := fun _ _ _ _ _ _ _ h => by
  obtain ⟨_, _, _, _, _, _, _, _, _, _, _, _, z⟩ := h
  exact z.elim
def noX (r : R D) : R D := match r with
  | .ok d st => .ok d st
  | _ => .bad
theorem ev_prop {pr : Addr} {c : Str} (he : EvE T X W o mo) (hc : X.mg c = some (.ref C)) (cl : Cls X.K C) (hp : PropOf X.K C nm pr f) (F : FnOk X.prog X.w X.K X.mg X.base (L2.CX X.prog X.w) k f fd ps (spM (gX T X) n m)) (hr : Room (k + 1) X.A) (hb : Binds X.K fd ps [])
    (hab : attributeBase o nm X.env (eval o X.env) = eval o X.env := by rfl) : EvE T X W (.Attribute o nm pos) (mProp c n (fun ds st => noX (m ds st)) mo) :=
  pe_imp (pe_prop he cl hp F hr hb .nil (passN (E := E0)) hab) fun σ H Q ⟨F1, β, ρ, st, g, er, h⟩ => tM_imp (tM_E g er h) fun v H1 ⟨F2, β2, d, st2, a2, b2, g2, er2, r2, h2⟩ => by
    cases ei : insOf st2 d with
    | none => rw [ei] at h2; exact h2.elim
    | some cf =>
      obtain ⟨c', fs⟩ := cf
      rw [ei] at h2
      dsimp only at h2
      split at h2
      · rename_i q1
        subst q1
        obtain ⟨a, C', dx, gs, ws, rfl, hC, ho, rw', ef⟩ := g2.insR r2 ei
        have hC : X.mg c' = some (.ref C') := hC
        rw [hc] at hC; cases hC
        refine ⟨a, dx, gs, rfl, ho, F2, β2, st2, [d], g2, .cons r2 .nil, ?_⟩
        split at h2
        · rename_i hn
          rw [if_pos hn]
          cases em : m [d] st2 with
          | ok d' st' => rw [em] at h2; exact h2
          | exc c fs st' => rw [em] at h2; exact h2.elim
          | bad => rw [em] at h2; exact h2.elim
        · exact h2.elim
      · exact h2.elim
/-- o.f, an attribute -/
def mFld (c f : Str) (mo : ME) : ME := fun ρ st => (mo ρ st).bind fun o st => match insOf st o with
  | some (c', fs) => if c' = c then (match fs.lookup f with
    | some d => .ok d st
    | none => .bad) else .bad
  | none => .bad
theorem ev_fld {c : Str} (he : EvE T X W o mo) (hc : X.mg c = some (.ref C)) (cl : Cls X.K C) (na : NoAttr X.K C nm) (hab : attributeBase o nm X.env (eval o X.env) = eval o X.env := by rfl) : EvE T X W (.Attribute o nm pos) (mFld c nm mo) :=
  pe_imp (pe_fld he hab) fun σ H Q ⟨F1, β, ρ, st, g, er, h⟩ => tM_imp (tM_E g er h) fun v H1 ⟨F2, β2, d, st2, a2, b2, g2, er2, r2, h2⟩ => by
    cases ei : insOf st2 d with
    | none => rw [ei] at h2; exact h2.elim
    | some cf =>
      obtain ⟨c', fs⟩ := cf
      rw [ei] at h2
      dsimp only at h2
      split at h2
      · rename_i q1
        subst q1
        obtain ⟨a, C', dx, gs, ws, rfl, hC, ho, rw', ef⟩ := g2.insR r2 ei
        have hC : X.mg c' = some (.ref C') := hC
        rw [hc] at hC; cases hC
        subst ef
        cases el : ((gs.map (·.1)).zip ws).lookup nm with
        | none => rw [el] at h2; exact h2.elim
        | some z =>
          rw [el] at h2
          obtain ⟨v, hv, rv⟩ := lookup_zip_some rw' el
          exact ⟨a, C, dx, gs, v, rfl, ho, cl, na, hv, h2 v H1 F2 β2 (Ex.refl _) (Pre.refl _) g2 rv⟩
      · exact h2.elim

/-! ### built-in functions -/
/-- a call by values has the mirror f -/
def CaD (G : Gb) (r : List V → Hp → VK → Prop) (f : List D → Sto → R D) : Prop := ∀ (Wq : Value → Option Addr → Hp → Prop) (F H : Hp) (β : List Addr) (st : Sto) (vs : List V) (ds : List D) (Q : VK), Good G F H β st → RepAll G.wd G.K G.mg F β vs ds → PostE G Wq F β Q (f ds st) → r vs H Q
def mBi (f : List D → Sto → R D) (ms : MA) : ME := fun ρ st => (ms ρ st).bind fun ds st => f ds st
theorem bi_read {r : List V → Hp → VK → Prop} {bf : List D → Sto → R D} (hr : CaD (gX T X) r bf) {σ : L2.St} {H : Hp} {Q : VK} (h : tM (gX T X) W (mBi bf ms) σ H Q) : tCB r (tMA (gX T X) W ms) σ H Q := by
  obtain ⟨F, β, ρ, st, g, er, h⟩ := h
  exact tMA_imp (tMA_E g er h) fun vs H1 ⟨F1, β1, ds, st1, a1, b1, g1, er1, r1, h1⟩ => hr _ F1 H1 β1 st1 vs ds Q g1 r1 h1
theorem ev_bi {id : String} {r : List V → Hp → VK → Prop} {bf : List D → Sto → R D} (hc : CallR X (.builtin id) r) (hr : CaD (gX T X) r bf) (hm : X.mg x = none) (hv : bootBuiltins x = some (.builtin id)) (ha : EvA T X W (e :: es) ms) (hg : Gl X x := by rfl) (hn : x ≠ "__name__" := by decide) (hdb : (x == ("__debug__" : Str)) = false := by decide)
    (he : starEach (e :: es) X.env = (false, eval e X.env) :: starEach es X.env := by rfl) (hpl : (backTo pos (starEach es X.env)).any (·.1) = false := by rfl) : EvE T X W (.Call (.Name x p) (e :: es) [] pos) (mBi bf ms) :=
  pe_imp (pe_callB hc hg hm hv ha hn hdb he hpl) fun _ _ _ => bi_read hr
theorem ev_bt {ty : String} {r : List V → Hp → VK → Prop} {bf : List D → Sto → R D} (hc : CallR X (.type ty) r) (hr : CaD (gX T X) r bf) (hm : X.mg x = none) (hv : bootBuiltins x = some (.type ty)) (ha : EvA T X W (e :: es) ms) (hg : Gl X x := by rfl) (hn : x ≠ "__name__" := by decide) (hdb : (x == ("__debug__" : Str)) = false := by decide)
    (he : starEach (e :: es) X.env = (false, eval e X.env) :: starEach es X.env := by rfl) (hpl : (backTo pos (starEach es X.env)).any (·.1) = false := by rfl) : EvE T X W (.Call (.Name x p) (e :: es) [] pos) (mBi bf ms) :=
  pe_imp (pe_callTy hc hg hm hv ha hn hdb he hpl) fun _ _ _ => bi_read hr
end
end DM

end

section
set_option Elab.async false
set_option linter.all false
set_option maxRecDepth 100000
set_option maxHeartbeats 2000000
/-! DMf: statements, targets, loops, what is walked, comprehensions. -/
namespace DM
open PySem PySem.Spec PyProof.Rows L2
section
variable {T : List NdefX.NTab} {X : Cx} {W : WX} {E : XK}

/-! ### blocks -/
def mNext : MS := fun ρ st => .ok (.nx ρ) st
def mSeq (a b : MS) : MS := fun ρ st => match a ρ st with
  | .ok (.nx ρ) st => b ρ st
  | r => r
def mRet (m : ME) : MS := fun ρ st => (m ρ st).bindS ρ fun d st => .ok (.rt d) st
def mRetN : MS := fun _ st => .ok (.rt .non) st
def mDrop (m : ME) : MS := fun ρ st => (m ρ st).bindS ρ fun _ st => .ok (.nx ρ) st
def mIfS (c : MT) (a b : MS) : MS := fun ρ st => (c ρ st).bindS ρ fun k st => if k then a ρ st else b ρ st
def mNever : MS := fun _ _ => .bad
def mBrk : MS := fun ρ st => .ok (.bk ρ) st
def mCnt : MS := fun ρ st => .ok (.ct ρ) st
section
variable {s : Stmt} {ss a b : List Stmt} {m m1 m2 : MS} {me : ME} {mt : MT} {e c : Expr} {pos : Pos}
theorem ess_nil : EvSs T X W [] mNext := pss_imp pss_nil fun D σ H ⟨F, β, ρ, st, g, er, h⟩ => h σ H F β (Ex.refl _) (Pre.refl _) g er
theorem seq_post {G : Gb} {F : Hp} {β : List Addr} {D : Ends} {ρ : En} {st : Sto} {u : TS} (hu : ∀ σ H F' β' ρ' st', Ex F F' → Pre β β' → Good G F' H β' st' → EnvR G F' β' σ ρ' → PostS G W F' β' D (m2 ρ' st') → u D σ H) :
    PostS G W F β D (mSeq m1 m2 ρ st) → PostS G W F β { D with nx := u D } (m1 ρ st) := by
  intro h
  unfold mSeq at h
  cases e : m1 ρ st with
  | bad => rw [e] at h; exact h
  | ok f st' =>
    rw [e] at h
    cases f with
    | nx ρ' => exact fun σ' H' F' β' a b g er => hu σ' H' F' β' ρ' st' a b g er (PostS.mono a b h)
    | rt d => exact h
    | bk ρ' => exact h
    | ct ρ' => exact h
    | xc c fs ρ' => exact h
theorem ess_cons (h1 : EvS T X W s m1) (h2 : EvSs T X W ss m2) : EvSs T X W (s :: ss) (mSeq m1 m2) :=
  pss_imp (pss_cons h1 h2) fun D σ H ⟨F, β, ρ, st, g, er, h⟩ => ⟨F, β, ρ, st, g, er, seq_post (fun σ' H' F' β' ρ' st' _ _ g' er' h' => ⟨F', β', ρ', st', g', er', h'⟩) h⟩
theorem ess_one (h1 : EvS T X W s m1) : EvSs T X W [s] m1 := pss_one h1
theorem es_ret (he : EvE T X W e me) : EvS T X W (.Return (some e) pos) (mRet me) :=
  ps_imp (ps_ret he) fun D σ H ⟨F, β, ρ, st, g, er, h⟩ => tM_imp (tM_S g er h) fun v H1 ⟨F1, β1, d, st1, a1, b1, g1, er1, r1, h1⟩ => h1 v H1 F1 β1 (Ex.refl _) (Pre.refl _) g1 r1
theorem es_retN : EvS T X W (.Return none pos) mRetN := ps_imp ps_retN fun D σ H ⟨F, β, ρ, st, g, er, h⟩ => h .non H F β (Ex.refl _) (Pre.refl _) g .non
theorem es_drop (he : EvE T X W e me) (hs : swapsWith e none pos.line X.env = pure false := by rfl) : EvS T X W (.Expr e pos) (mDrop me) :=
  ps_imp (ps_expr he hs) fun D σ H ⟨F, β, ρ, st, g, er, h⟩ => tM_imp (tM_S g er h) fun v H1 ⟨F1, β1, d, st1, a1, b1, g1, er1, r1, h1⟩ => h1 σ H1 F1 β1 (Ex.refl _) (Pre.refl _) g1 er1
theorem es_if (hc : EvT T X W c mt) (ha : EvSs T X W a m1) (hb : EvSs T X W b m2) : EvS T X W (.If c a b pos) (mIfS mt m1 m2) :=
  ps_imp (ps_if hc ha hb) fun D σ H ⟨F, β, ρ, st, g, er, h⟩ => tMT_imp (tMT_S g er h) fun k H1 ⟨F1, β1, st1, a1, b1, g1, er1, h1⟩ => by
    cases k with
    | true => exact ⟨F1, β1, ρ, st1, g1, er1, h1⟩
    | false => exact ⟨F1, β1, ρ, st1, g1, er1, h1⟩
theorem es_pass : EvS T X W (.Pass pos) mNext := ps_imp ps_pass fun D σ H ⟨F, β, ρ, st, g, er, h⟩ => h σ H F β (Ex.refl _) (Pre.refl _) g er
theorem es_brk : EvS T X W (.Break pos) mBrk := ps_imp ps_break fun D σ H ⟨F, β, ρ, st, g, er, h⟩ => h σ H F β (Ex.refl _) (Pre.refl _) g er
theorem es_cnt : EvS T X W (.Continue pos) mCnt := ps_imp ps_continue fun D σ H ⟨F, β, ρ, st, g, er, h⟩ => h σ H F β (Ex.refl _) (Pre.refl _) g er
theorem es_never : EvS T X W s mNever := ps_imp ps_never fun D σ H ⟨F, β, ρ, st, g, er, h⟩ => h.elim
theorem ess_never : EvSs T X W ss mNever := pss_imp pss_never fun D σ H ⟨F, β, ρ, st, g, er, h⟩ => h.elim
end

/-! ### targets -/
inductive RG where
  | ok (ρ : En) (st : Sto) | bad
abbrev MG := D → En → Sto → RG
abbrev MGs := List D → En → Sto → RG
def PostG (G : Gb) (F : Hp) (β : List Addr) (Q : L2.St → Hp → Prop) : RG → Prop
  | .ok ρ st => ∀ σ' H' F' β', Ex F F' → Pre β β' → Good G F' H' β' st → EnvR G F' β' σ' ρ → Q σ' H'
  | .bad => False
theorem PostG.mono {G : Gb} {F F' : Hp} {β β' : List Addr} {Q : L2.St → Hp → Prop} (e : Ex F F') (b : Pre β β') : ∀ {r : RG}, PostG G F β Q r → PostG G F' β' Q r
  | .ok _ _, h => fun s1 H1 F1 β1 a b1 g x => h s1 H1 F1 β1 (e.trans a) (b.trans b1) g x
  | .bad, h => h
def tG (G : Gb) (m : MG) : TG := fun v σ H Q => ∃ F β ρ st d, Good G F H β st ∧ EnvR G F β σ ρ ∧ Rep G.wd G.K G.mg F β v d ∧ PostG G F β Q (m d ρ st)
def tGs (G : Gb) (m : MGs) : TGs := fun vs σ H Q => ∃ F β ρ st ds, Good G F H β st ∧ EnvR G F β σ ρ ∧ RepAll G.wd G.K G.mg F β vs ds ∧ PostG G F β Q (m ds ρ st)
def EvG (T : List NdefX.NTab) (X : Cx) (e : Expr) (m : MG) : Prop := PG X e (tG (gX T X) m)
def EvGs (T : List NdefX.NTab) (X : Cx) (es : List Expr) (m : MGs) : Prop := PGs X es (tGs (gX T X) m)
theorem pg_imp {X : Cx} {e : Expr} {t t' : TG} (h : PG X e t) (i : ∀ v σ H Q, t' v σ H Q → t v σ H Q) : PG X e t' := ⟨fun pins s σ H v u Q I r q => h.run pins s σ H v u Q I r (i v σ H Q q)⟩
theorem pgs_imp {X : Cx} {e : List Expr} {t t' : TGs} (h : PGs X e t) (i : ∀ v σ H Q, t' v σ H Q → t v σ H Q) : PGs X e t' := ⟨fun pins s σ H v u Q I r q => h.run pins s σ H v u Q I r (i v σ H Q q)⟩
def gN (i : Nat) : MG := fun d ρ st => .ok (ρ.set i (some d)) st
def gNilM : MGs := fun ds ρ st => match ds with
  | [] => .ok ρ st
  | _ => .bad
def gConsM (g : MG) (gs : MGs) : MGs := fun ds ρ st => match ds with
  | d :: ds => match g d ρ st with
    | .ok ρ st => gs ds ρ st
    | .bad => .bad
  | [] => .bad
def gTupM (n : Nat) (gs : MGs) : MG := fun d ρ st => match tupOf d with
  | some ds => if ds.length = n then gs ds ρ st else .bad
  | none => .bad
section
variable {e : Expr} {es : List Expr} {pos : Pos} {mg : MG} {mgs : MGs}
theorem eg_name (i : Nat) {x : Str} (hN : X.N.Nodup) (hi : X.N[i]? = some x := by rfl) (hx : Loc X.env.scope x := by first | exact Or.inl rfl | exact Or.inr rfl) (hf : X.fn x = true ∨ X.env.scope.names.lookup x = some .local := by first | exact .inl rfl | exact .inr rfl) : EvG T X (.Name x pos) (gN i) :=
  pg_imp (pg_name hN hi hx hf) fun v σ H Q ⟨F, β, ρ, st, d, g, er, r, h⟩ => h _ H F β (Ex.refl _) (Pre.refl _) g (er.set r i)
theorem egs_nil : EvGs T X [] gNilM := pgs_imp pgs_nil fun vs σ H Q ⟨F, β, ρ, st, ds, g, er, r, h⟩ => by
  cases r with
  | nil => exact ⟨rfl, h σ H F β (Ex.refl _) (Pre.refl _) g er⟩
  | cons _ _ => exact h.elim
theorem egs_cons (h1 : EvG T X e mg) (h2 : EvGs T X es mgs) (hs : (assignEach (e :: es) X.env).map (·.2) = assign e X.env :: (assignEach es X.env).map (·.2) := by rfl) : EvGs T X (e :: es) (gConsM mg mgs) :=
  pgs_imp (pgs_cons h1 h2 hs) fun vs σ H Q ⟨F, β, ρ, st, ds, g, er, r, h⟩ => by
    cases r with
    | nil => exact h.elim
    | @cons v vs d ds r1 rr =>
      refine ⟨_, _, rfl, F, β, ρ, st, d, g, er, r1, ?_⟩
      unfold gConsM at h
      dsimp only at h
      cases eg : mg d ρ st with
      | bad => rw [eg] at h; exact h
      | ok ρ1 st1 =>
        rw [eg] at h
        exact fun σ' H' F' β' a b g' er' => ⟨F', β', ρ1, st1, ds, g', er', rr.mono a b, PostG.mono a b h⟩
theorem eg_tup {k : Nat} {n : Nat} (hc : X.calm = true) (h : EvGs T X es mgs) (hn : (assignEach es X.env).length = n := by rfl) (hst : (assignEach es X.env).findIdx? (·.1) = none := by rfl) : EvG T X (.Tuple es k pos) (gTupM n mgs) :=
  pg_imp (pg_tup hc h hn hst) fun v σ H Q ⟨F, β, ρ, st, d, g, er, r, h⟩ => by
    unfold gTupM at h
    cases et : tupOf d with
    | none => rw [et] at h; exact h.elim
    | some ds =>
      rw [et] at h
      dsimp only at h
      split at h
      · rename_i hl
        obtain ⟨a, xs, rfl, s, rr⟩ := g.tupl r et
        exact ⟨a, xs, rfl, s, by rw [rr.length]; exact hl, F, β, ρ, st, ds, g, er, rr, h⟩
      · exact h.elim
end
/-- target = e -/
def mAsg (m : ME) (g : MG) : MS := fun ρ st => (m ρ st).bindS ρ fun d st => match g d ρ st with
  | .ok ρ st => .ok (.nx ρ) st
  | .bad => .bad
theorem es_asg {tg e : Expr} {me : ME} {mg : MG} {pos : Pos} (he : EvE T X W e me) (hg : EvG T X tg mg) (hs : swapsWithSole [tg] e pos.line X.env = pure false := by rfl) (hw : swappedStores [tg] e X.env = pure none := by rfl)
    (h1 : (assignEach [tg] X.env).map (·.2) = [assign tg X.env] := by rfl) : EvS T X W (.Assign [tg] e pos) (mAsg me mg) :=
  ps_imp (ps_asg he hg hs hw h1) fun D σ H ⟨F, β, ρ, st, g, er, h⟩ => tM_imp (tM_S g er h) fun v H1 ⟨F1, β1, d, st1, a1, b1, g1, er1, r1, h1⟩ => by
    refine ⟨F1, β1, ρ, st1, d, g1, er1, r1, ?_⟩
    cases eg : mg d ρ st1 with
    | bad => simp only [eg] at h1; exact h1
    | ok ρ2 st2 => simp only [eg] at h1; exact h1
/-- o.f = e (a thing of the store alone) -/
def putD (f : Str) (d : D) (fs : List (Str × D)) : List (Str × D) := match fs with
  | [] => [(f, d)]
  | (g, e) :: r => if g = f then (f, d) :: r else (g, e) :: putD f d r
def mSetF (c f : Str) (mo me : ME) : MS := fun ρ st => (me ρ st).bindS ρ fun d st => (mo ρ st).bindS ρ fun o st => match o with
  | .ref k => match st[k]? with
    | some (.ins c' fs) => if c' = c ∧ fs.length < 1000 ∧ lowD k d = true then .ok (.nx ρ) (st.set k (.ins c (putD f d fs))) else .bad
    | _ => .bad
  | _ => .bad
theorem put_zip {f : Str} {v : V} {d : D} : ∀ {gs : List (Str × V)} {ws : List D}, gs.length = ws.length → putD f d ((gs.map (·.1)).zip ws) = ((putF f v gs).map (·.1)).zip (match gs.findIdx? (fun q => decide (q.1 = f)) with | some i => ws.set i d | none => ws ++ [d])
  | [], [], _ => rfl
  | [], _ :: _, h => by simp at h
  | _ :: _, [], h => by simp at h
  | (g, u) :: gs, w :: ws, h => by
    have ih := put_zip (f := f) (v := v) (d := d) (gs := gs) (ws := ws) (by simpa using h)
    simp only [List.map_cons, List.zip_cons_cons, putD, putF, List.findIdx?_cons]
    by_cases e : g = f
    · subst e
      simp
    · simp only [e, if_false, decide_false, Bool.false_eq_true, ih, List.map_cons]
      cases q : gs.findIdx? (fun q => decide (q.1 = f)) with
      | none => simp
      | some i => simp
theorem rep_put {wd : World} {K : PySem.W.Frag} {mg : Str → Option Value} {F : Hp} {β : List Addr} {f : Str} {v : V} {d : D} (r : Rep wd K mg F β v d) : ∀ {gs : List (Str × V)} {ws : List D}, RepAll wd K mg F β (gs.map (·.2)) ws →
    RepAll wd K mg F β ((putF f v gs).map (·.2)) (match gs.findIdx? (fun q => decide (q.1 = f)) with | some i => ws.set i d | none => ws ++ [d])
  | [], _, h => by cases h; exact .cons r .nil
  | (g, u) :: gs, _, h => by
    rw [List.map_cons] at h
    cases h with
    | cons h1 rr =>
      have ih := rep_put (f := f) r rr
      simp only [putF, List.findIdx?_cons]
      by_cases e : g = f
      · subst e
        simp only [if_true, decide_true, List.map_cons]
        exact .cons r rr
      · simp only [e, if_false, decide_false, Bool.false_eq_true, List.map_cons]
        cases q : gs.findIdx? (fun q => decide (q.1 = f)) with
        | none => rw [q] at ih; exact .cons h1 ih
        | some i => rw [q] at ih; exact .cons h1 ih
theorem es_setF {c f : Str} {C : Addr} {o e : Expr} {mo me : ME} {pos pos' : Pos} (ho : EvE T X W o mo) (he : EvE T X W e me) (hc : X.mg c = some (.ref C)) (cl : Cls X.K C) (na : NoAttr X.K C f) (hs : swapsWith e (some (.Attribute o f pos')) pos.line X.env = pure false := by rfl) :
    EvS T X W (.Assign [.Attribute o f pos'] e pos) (mSetF c f mo me) :=
  ps_imp (ps_fld ho he hs) fun D σ H ⟨F, β, ρ, st, g, er, h⟩ => tM_imp (tM_S g er h) fun v H1 ⟨F1, β1, d, st1, a1, b1, g1, er1, r1, h1⟩ =>
    tM_imp (tM_S g1 er1 h1) fun vo H2 ⟨F2, β2, d2, st2, a2, b2, g2, er2, r2, h2⟩ => by
      cases r2 with
      | @ref n a hb =>
        dsimp only at h2
        cases eo : st2[n]? with
        | none => rw [eo] at h2; exact h2.elim
        | some ob =>
          rw [eo] at h2
          cases ob with
          | ins c' fs =>
            dsimp only at h2
            split at h2
            · rename_i q
              obtain ⟨q1, q2, q3⟩ := q
              subst q1
              obtain ⟨C', dx, gs, ws, z1, z2, z3, z4⟩ := g2.ob n a _ hb eo
              have z1 : X.mg c' = some (.ref C') := z1
              rw [hc] at z1; cases z1
              subst z4
              have hl : gs.length = ws.length := by have := z3.length; simpa using this
              refine ⟨a, C, dx, gs, rfl, z2, cl, na, by simp at q2; omega, ?_⟩
              refine h2 σ _ F2 β2 (Ex.refl _) (Pre.refl _) (g2.put hb ⟨C, dx, _, _, hc, upd_same, rep_put ((r1.mono a2 b2).low q3) z3, put_zip hl⟩) er2
            · exact h2.elim
          | _ => exact h2.elim
      | _ => exact h2.elim

/-! ### what is walked -/
/-- it walks ds -/
def Wk (G : Gb) (J : It) (F0 : Hp) (β0 : List Addr) (ds : List D) : Prop := ∀ (i : Nat) (F H : Hp) (β : List Addr) (st : Sto), Ex F0 F → Pre β0 β → Good G F H β st →
  (ds.length ≤ i → J.stop i H) ∧ ∀ d, ds[i]? = some d → J.go i H ∧ ∀ x H', J.yld i H x H' → ∃ F', Ex F F' ∧ Good G F' H' β st ∧ Rep G.wd G.K G.mg F' β x d
abbrev MI := En → Sto → R (List D)
def PostI (G : Gb) (W : Value → Option Addr → Hp → Prop) (F : Hp) (β : List Addr) (Q : It → Hp → Prop) : R (List D) → Prop
  | .ok ds st' => ∀ J H' F' β', Ex F F' → Pre β β' → Good G F' H' β' st' → Wk G J F' β' ds → Q J H'
  | .exc c fs st' => PostX G W F β c fs st'
  | .bad => False
theorem PostI.mono {G : Gb} {W : Value → Option Addr → Hp → Prop} {F F' : Hp} {β β' : List Addr} {Q : It → Hp → Prop} (e : Ex F F') (b : Pre β β') : ∀ {r : R (List D)}, PostI G W F β Q r → PostI G W F' β' Q r
  | .ok _ _, h => fun v H1 F1 β1 a b1 g x => h v H1 F1 β1 (e.trans a) (b.trans b1) g x
  | .exc _ _ _, h => PostX.mono e b h
  | .bad, h => h
def tI (G : Gb) (W : WX) (m : MI) : TI := fun σ H Q => ∃ F β ρ st, Good G F H β st ∧ EnvR G F β σ ρ ∧ PostI G (wAt W σ) F β Q (m ρ st)
def EvI (T : List NdefX.NTab) (X : Cx) (W : WX) (tg e : Expr) (m : MI) : Prop := PI X tg e (tI (gX T X) W m)
theorem pi_imp {X : Cx} {tg e : Expr} {t t' : TI} (h : PI X tg e t) (i : ∀ σ H Q, t' σ H Q → t σ H Q) : PI X tg e t' := ⟨fun pins s σ H Q I q => h.run pins s σ H Q I (i σ H Q q)⟩
theorem tI_imp {G : Gb} {W : WX} {m : MI} {σ : L2.St} {H : Hp} {Q Q' : It → Hp → Prop} (h : tI G W m σ H Q) (i : ∀ v H1, Q v H1 → Q' v H1) : tI G W m σ H Q' := by
  obtain ⟨F, β, ρ, st, g, er, h⟩ := h
  refine ⟨F, β, ρ, st, g, er, ?_⟩
  cases e : m ρ st with
  | ok d st1 => rw [e] at h; exact fun v H' F' β' a b g' r => i _ _ (h v H' F' β' a b g' r)
  | exc c fs st1 => rw [e] at h; exact h
  | bad => rw [e] at h; exact h
theorem tI_S {G : Gb} {W : WX} {m : MI} {σ : L2.St} {H F : Hp} {β : List Addr} {st : Sto} {ρ : En} {k : List D → Sto → RS} {Q : Ends} (g : Good G F H β st) (er : EnvR G F β σ ρ) (h : PostS G W F β Q ((m ρ st).bindS ρ k)) :
    tI G W m σ H fun J H1 => ∃ F1 β1 ds st1, Ex F F1 ∧ Pre β β1 ∧ Good G F1 H1 β1 st1 ∧ EnvR G F1 β1 σ ρ ∧ Wk G J F1 β1 ds ∧ PostS G W F1 β1 Q (k ds st1) := by
  refine ⟨F, β, ρ, st, g, er, ?_⟩
  cases e : m ρ st with
  | ok d st1 =>
    rw [e] at h
    exact fun v H' F' β' a b g' r => ⟨F', β', d, st1, a, b, g', er.mono a b, r, PostS.mono a b h⟩
  | exc c fs st1 => rw [e] at h; exact xc_of er h
  | bad => rw [e] at h; exact h
theorem tI_E {G : Gb} {W : WX} {m : MI} {σ : L2.St} {H F : Hp} {β : List Addr} {st : Sto} {ρ : En} {k : List D → Sto → R D} {Q : VK} (g : Good G F H β st) (er : EnvR G F β σ ρ) (h : PostE G (wAt W σ) F β Q ((m ρ st).bind k)) :
    tI G W m σ H fun J H1 => ∃ F1 β1 ds st1, Ex F F1 ∧ Pre β β1 ∧ Good G F1 H1 β1 st1 ∧ EnvR G F1 β1 σ ρ ∧ Wk G J F1 β1 ds ∧ PostE G (wAt W σ) F1 β1 Q (k ds st1) := by
  refine ⟨F, β, ρ, st, g, er, ?_⟩
  cases e : m ρ st with
  | ok d st1 =>
    rw [e] at h
    exact fun v H' F' β' a b g' r => ⟨F', β', d, st1, a, b, g', er.mono a b, r, PostE.mono a b h⟩
  | exc c fs st1 => rw [e] at h; exact h
  | bad => rw [e] at h; exact h
/-- for target in iter -/
def forM (g : MG) (b : MS) : List D → MS
  | [], ρ, st => .ok (.nx ρ) st
  | d :: ds, ρ, st => match g d ρ st with
    | .bad => .bad
    | .ok ρ st => match b ρ st with
      | .ok (.nx ρ) st => forM g b ds ρ st
      | .ok (.ct ρ) st => forM g b ds ρ st
      | .ok (.bk ρ) st => .ok (.nx ρ) st
      | r => r
def mFor (mi : MI) (g : MG) (b : MS) : MS := fun ρ st => (mi ρ st).bindS ρ fun ds st => forM g b ds ρ st
theorem es_for {tg iter : Expr} {body : List Stmt} {mi : MI} {mg : MG} {mb : MS} {pos : Pos} (hi : EvI T X W tg iter mi) (hg : EvG T X tg mg) (hb : EvSs T X W body mb) (hp : PassesOwn (model X.prog X.w) X.A X.env X.xe) (hc : X.calm = true := by rfl)
    (hs : ∀ x, foldedSetIterable iter X.env x = pure x := by intro _; rfl) : EvS T X W (.For tg iter body [] pos) (mFor mi mg mb) :=
  ps_imp (ps_for hp hc hi hg hb hs) fun D σ H ⟨F, β, ρ, st, g, er, h⟩ => tI_imp (tI_S g er h) fun J H1 ⟨F1, β1, ds, st1, a1, b1, g1, er1, wk, h1⟩ => by
    refine ⟨fun i m σ H => i ≤ ds.length ∧ m = ds.length - i ∧ ∃ F2 β2 ρ2 st2, Ex F1 F2 ∧ Pre β1 β2 ∧ Good (gX T X) F2 H β2 st2 ∧ EnvR (gX T X) F2 β2 σ ρ2 ∧ PostS (gX T X) W F2 β2 D (forM mg mb (ds.drop i) ρ2 st2),
      ⟨ds.length, Nat.zero_le _, rfl, F1, β1, ρ, st1, Ex.refl _, Pre.refl _, g1, er1, h1⟩, ?_⟩
    rintro i m σ' H' ⟨hi, rfl, F2, β2, ρ2, st2, a2, b2, g2, er2, h2⟩
    obtain ⟨w1, w2⟩ := wk i F2 H' β2 st2 a2 b2 g2
    rcases Nat.lt_or_ge i ds.length with hlt | hge
    · have hd : ds[i]? = some ds[i] := List.getElem?_eq_getElem hlt
      obtain ⟨go, yl⟩ := w2 _ hd
      refine .inr ⟨go, fun σ3 H3 => ∃ F3 β3 ρ3 st3, Ex F1 F3 ∧ Pre β1 β3 ∧ Good (gX T X) F3 H3 β3 st3 ∧ EnvR (gX T X) F3 β3 σ3 ρ3 ∧ PostS (gX T X) W F3 β3 D (forM mg mb (ds.drop (i + 1)) ρ3 st3),
        fun σ3 H3 q => ⟨ds.length - (i + 1), by omega, hlt, rfl, q⟩, fun x H3 y => ?_⟩
      obtain ⟨F3, a3, g3, r3⟩ := yl x H3 y
      rw [List.drop_eq_getElem_cons hlt] at h2
      refine ⟨F3, β2, ρ2, st2, ds[i], g3, er2.mono a3 (Pre.refl _), r3, ?_⟩
      unfold forM at h2
      cases eg : mg ds[i] ρ2 st2 with
      | bad => simp only [eg] at h2; exact h2
      | ok ρ4 st4 =>
        simp only [eg] at h2
        intro σ4 H4 F4 β4 a4 b4 g4 er4
        refine ⟨F4, β4, ρ4, st4, g4, er4, ?_⟩
        cases eb : mb ρ4 st4 with
        | bad => simp only [eb] at h2; exact h2
        | ok f st5 =>
          simp only [eb] at h2
          have up : Ex F1 F4 := (a2.trans a3).trans a4
          have ub : Pre β1 β4 := b2.trans b4
          have h3 := fun {r : RS} (q : PostS (gX T X) W F2 β2 D r) => PostS.mono (a3.trans a4) b4 q
          cases f with
          | nx ρ5 => exact fun σ5 H5 F5 β5 a5 b5 g5 er5 => ⟨F5, β5, ρ5, st5, up.trans a5, ub.trans b5, g5, er5, PostS.mono ((a3.trans a4).trans a5) (b4.trans b5) h2⟩
          | ct ρ5 => exact fun σ5 H5 F5 β5 a5 b5 g5 er5 => ⟨F5, β5, ρ5, st5, up.trans a5, ub.trans b5, g5, er5, PostS.mono ((a3.trans a4).trans a5) (b4.trans b5) h2⟩
          | bk ρ5 => exact h3 h2
          | rt d => exact h3 h2
          | xc c fs ρ5 => exact h3 h2
    · have e : i = ds.length := Nat.le_antisymm hi hge
      subst e
      rw [List.drop_length] at h2
      exact .inl ⟨w1 (Nat.le_refl _), h2 σ' H' F2 β2 (Ex.refl _) (Pre.refl _) g2 er2⟩
/-- while, by fuel -/
def whileM (c : MT) (b : MS) : Nat → MS
  | 0, _, _ => .bad
  | n + 1, ρ, st => (c ρ st).bindS ρ fun k st => if k then (match b ρ st with
      | .ok (.nx ρ) st => whileM c b n ρ st
      | .ok (.ct ρ) st => whileM c b n ρ st
      | .ok (.bk ρ) st => .ok (.nx ρ) st
      | r => r) else .ok (.nx ρ) st
theorem es_while (n : Nat) {c : Expr} {body : List Stmt} {mc : MT} {mb : MS} {pos : Pos} (hc : EvT T X W c mc) (hb : EvSs T X W body mb) (hp : PassesOwn (model X.prog X.w) X.A X.env X.xe) : EvS T X W (.While c body [] pos) (whileM mc mb n) :=
  ps_imp (ps_while hp hc hb) fun D σ H ⟨F, β, ρ, st, g, er, h⟩ => by
    refine ⟨fun m σ H => ∃ F2 β2 ρ2 st2, Ex F F2 ∧ Pre β β2 ∧ Good (gX T X) F2 H β2 st2 ∧ EnvR (gX T X) F2 β2 σ ρ2 ∧ PostS (gX T X) W F2 β2 D (whileM mc mb m ρ2 st2), ⟨n, F, β, ρ, st, Ex.refl _, Pre.refl _, g, er, h⟩, ?_⟩
    rintro m σ' H' ⟨F2, β2, ρ2, st2, a2, b2, g2, er2, h2⟩
    cases m with
    | zero => exact h2.elim
    | succ m =>
      unfold whileM at h2
      refine tMT_imp (tMT_S g2 er2 h2) fun k H1 ⟨F3, β3, st3, a3, b3, g3, er3, h3⟩ => ?_
      cases k with
      | false => exact h3 σ' H1 F3 β3 (Ex.refl _) (Pre.refl _) g3 er3
      | true =>
        simp only [if_true] at h3 ⊢
        refine ⟨fun σ4 H4 => ∃ F4 β4 ρ4 st4, Ex F F4 ∧ Pre β β4 ∧ Good (gX T X) F4 H4 β4 st4 ∧ EnvR (gX T X) F4 β4 σ4 ρ4 ∧ PostS (gX T X) W F4 β4 D (whileM mc mb m ρ4 st4), fun σ4 H4 q => ⟨m, Nat.lt_succ_self m, q⟩, F3, β3, ρ2, st3, g3, er3, ?_⟩
        have up : Ex F F3 := a2.trans a3
        have ub : Pre β β3 := b2.trans b3
        cases eb : mb ρ2 st3 with
        | bad => simp only [eb] at h3; exact h3
        | ok f st5 =>
          simp only [eb] at h3
          cases f with
          | nx ρ5 => exact fun σ5 H5 F5 β5 a5 b5 g5 er5 => ⟨F5, β5, ρ5, st5, up.trans a5, ub.trans b5, g5, er5, PostS.mono a5 b5 h3⟩
          | ct ρ5 => exact fun σ5 H5 F5 β5 a5 b5 g5 er5 => ⟨F5, β5, ρ5, st5, up.trans a5, ub.trans b5, g5, er5, PostS.mono a5 b5 h3⟩
          | bk ρ5 => exact h3
          | rt d => exact h3
          | xc c fs ρ5 => exact h3
end
end DM

end

section
set_option Elab.async false
set_option linter.all false
set_option maxRecDepth 100000
set_option maxHeartbeats 2000000
/-! DMg: forgetting and freezing things of the store; comprehensions; what is walked; a def by its body. -/
namespace DM
open PySem PySem.Spec PyProof.Rows L2
section
variable {G : Gb} {F H : Hp} {β : List Addr} {st : Sto}
/-- the things from the n-th on are let go -/
theorem Good.cut (g : Good G F H β st) (n : Nat) : Good G F H (β.take n) (st.take n) where
  ex := g.ex
  sep := fun m a h => g.sep m a (pre_take n m a h)
  inj := fun i j a h1 h2 => g.inj i j a (pre_take n i a h1) (pre_take n j a h2)
  len := by rw [List.length_take, List.length_take, g.len]
  ob := fun m a o h ho => by
    have hm : m < n := by
      rw [List.getElem?_take] at h
      split at h
      · assumption
      · cases h
    rw [List.getElem?_take_of_lt hm] at h ho
    have q := g.ob m a o h ho
    rw [List.take_take, Nat.min_eq_left (Nat.le_of_lt hm)]
    exact q
  tab := g.tab
  nt := g.nt
/-- one of them never changes any more -/
theorem Good.freeze (g : Good G F H β st) {n k : Nat} {a : Addr} {o : HO} (hk : n ≤ k) (ha : β[k]? = some a) (ho : H a = some o) : Good G (upd F a o) H (β.take n) (st.take n) := by
  have g' := g.cut n
  have fa : F a = none := g.sep k a ha
  refine ⟨fun b u e => ?_, fun m b h => ?_, g'.inj, g'.len, fun m b u h hu => (g'.ob m b u h hu).mono (Ex.new fa) (Pre.refl _) fun _ z => z, g'.tab, fun b ps => ?_⟩
  · by_cases q : b = a
    · subst q; rw [upd_same] at e; cases e; exact ho
    · rw [upd_ne q] at e; exact g.ex b u e
  · have hm : m < n := by
      rw [List.getElem?_take] at h
      split at h
      · assumption
      · cases h
    have ne : b ≠ a := fun z => by
      subst z
      have := g.inj m k b (pre_take n m b h) ha
      omega
    rw [upd_ne ne]
    exact g'.sep m b h
  · unfold upd
    split
    · intro z
      obtain ⟨u', e, c⟩ := g.at_ ha
      rw [ho] at e
      cases e
      cases z
      exact c
    · exact g.nt b ps
theorem pre_cut {β1 β' : List Addr} {n : Nat} (b : Pre β1 β') (h : β1.length = n) : Pre β1 (β'.take n) := fun m a e => by
  rw [List.getElem?_take_of_lt (by rw [← h]; exact (List.getElem?_eq_some_iff.mp e).1)]
  exact b m a e
end

/-! ### patterns -/
inductive Pt where
  | nm (i : Nat) | tp (ps : List Pt)
mutual
def gPt (K : PySem.W.Frag) : Pt → TG
  | .nm i => gName i
  | .tp ps => gTup K ps.length (gPts K ps)
def gPts (K : PySem.W.Frag) : List Pt → TGs
  | [] => gNil
  | p :: ps => gCons (gPt K p) (gPts K ps)
end
mutual
def setP : Pt → D → En → Option En
  | .nm i, d, ρ => some (ρ.set i (some d))
  | .tp ps, d, ρ => (tupOf d).bind fun ds => if ds.length = ps.length then setPs ps ds ρ else none
def setPs : List Pt → List D → En → Option En
  | [], _, ρ => some ρ
  | p :: ps, d :: ds, ρ => (setP p d ρ).bind fun ρ => setPs ps ds ρ
  | _ :: _, [], _ => none
end
mutual
def inP (vs : List Nat) : Pt → Bool
  | .nm i => decide (i ∈ vs)
  | .tp ps => inPs vs ps
def inPs (vs : List Nat) : List Pt → Bool
  | [] => true
  | p :: ps => inP vs p && inPs vs ps
end
theorem wipe_set {σ : L2.St} {i : Nat} {x : Option V} : ∀ {vs : List Nat}, i ∈ vs → L2.wipe (σ.set i x) vs = L2.wipe σ vs := by
  have key : ∀ {vs : List Nat} (τ : L2.St) (j : Nat) (y : Option V), j ∉ vs → L2.wipe (τ.set j y) vs = (L2.wipe τ vs).set j y := by
    intro vs
    induction vs with
    | nil => intro τ j y _; rfl
    | cons v vs ih =>
      intro τ j y hj
      simp only [List.mem_cons, not_or] at hj
      show (L2.wipe (τ.set j y) vs).set v none = ((L2.wipe τ vs).set v none).set j y
      rw [ih τ j y hj.2, List.set_comm _ _ hj.1]
  intro vs
  induction vs with
  | nil => intro h; cases h
  | cons v vs ih =>
    intro h
    show (L2.wipe (σ.set i x) vs).set v none = (L2.wipe σ vs).set v none
    by_cases hm : i ∈ vs
    · rw [ih hm]
    · have e : i = v := by
        rcases List.mem_cons.mp h with e | e
        · exact e
        · exact absurd e hm
      subst e
      rw [key σ i x hm, List.set_set]
section
variable {G : Gb} {F H : Hp} {β : List Addr}
mutual
theorem gPt_ok (vs : List Nat) (st : Sto) (g : Good G F H β st) : ∀ (p : Pt) {v : V} {d : D} {σ : L2.St} {ρ ρ' : En} {Q : L2.St → Hp → Prop}, inP vs p = true → EnvR G F β σ ρ → Rep G.wd G.K G.mg F β v d → setP p d ρ = some ρ' →
    (∀ σ', EnvR G F β σ' ρ' → L2.wipe σ' vs = L2.wipe σ vs → Q σ' H) → gPt G.K p v σ H Q
  | .nm i, v, d, σ, ρ, ρ', Q, hp, er, r, hs, k => by
    rw [setP] at hs
    cases hs
    rw [gPt]
    exact k _ (er.set r i) (wipe_set (by simpa [inP] using hp))
  | .tp ps, v, d, σ, ρ, ρ', Q, hp, er, r, hs, k => by
    rw [setP] at hs
    rw [inP] at hp
    rw [gPt]
    cases e : tupOf d with
    | none => rw [e] at hs; cases hs
    | some ds =>
      rw [e] at hs
      simp only [Option.bind_some] at hs
      split at hs
      · rename_i hl
        obtain ⟨a, xs, rfl, s, rr⟩ := g.tupl r e
        exact ⟨a, xs, rfl, s, by rw [rr.length]; exact hl, gPts_ok vs st g ps hp er rr hs k (by rw [rr.length]; exact hl)⟩
      · cases hs
theorem gPts_ok (vs : List Nat) (st : Sto) (g : Good G F H β st) : ∀ (ps : List Pt) {us : List V} {ds : List D} {σ : L2.St} {ρ ρ' : En} {Q : L2.St → Hp → Prop}, inPs vs ps = true → EnvR G F β σ ρ → RepAll G.wd G.K G.mg F β us ds → setPs ps ds ρ = some ρ' →
    (∀ σ', EnvR G F β σ' ρ' → L2.wipe σ' vs = L2.wipe σ vs → Q σ' H) → us.length = ps.length → gPts G.K ps us σ H Q
  | [], us, ds, σ, ρ, ρ', Q, hp, er, r, hs, k, hl => by
    rw [setPs] at hs
    cases hs
    rw [gPts]
    exact ⟨List.eq_nil_of_length_eq_zero hl, k σ er rfl⟩
  | p :: ps, us, ds, σ, ρ, ρ', Q, hp, er, r, hs, k, hl => by
    rw [inPs, Bool.and_eq_true] at hp
    rw [gPts]
    cases r with
    | nil => rw [setPs] at hs; cases hs
    | @cons u us d ds r1 rr =>
      rw [setPs] at hs
      cases e : setP p d ρ with
      | none => rw [e] at hs; cases hs
      | some ρ1 =>
        rw [e] at hs
        refine ⟨u, us, rfl, gPt_ok vs st g p hp.1 er r1 e fun σ1 er1 w1 => ?_⟩
        exact gPts_ok vs st g ps hp.2 er1 rr hs (fun σ' er' w' => k σ' er' (w'.trans w1)) (by simpa using hl)
end
end
/-- .. as they are written -/
def PtOk (X : Cx) (e : Expr) (p : Pt) : Prop := PG X e (gPt X.K p)
def PtsOk (X : Cx) (es : List Expr) (ps : List Pt) : Prop := PGs X es (gPts X.K ps)
section
variable {X : Cx} {e : Expr} {es : List Expr} {pos : Pos} {p : Pt} {ps : List Pt}
theorem pt_name (i : Nat) {x : Str} (hN : X.N.Nodup) (hi : X.N[i]? = some x := by rfl) (hx : Loc X.env.scope x := by first | exact Or.inl rfl | exact Or.inr rfl) (hf : X.fn x = true ∨ X.env.scope.names.lookup x = some .local := by first | exact .inl rfl | exact .inr rfl) : PtOk X (.Name x pos) (.nm i) := by
  unfold PtOk
  rw [gPt]
  exact pg_name hN hi hx hf
theorem pt_nil : PtsOk X [] [] := by
  unfold PtsOk
  rw [gPts]
  exact pgs_nil
theorem pt_cons (h1 : PtOk X e p) (h2 : PtsOk X es ps) (hs : (assignEach (e :: es) X.env).map (·.2) = assign e X.env :: (assignEach es X.env).map (·.2) := by rfl) : PtsOk X (e :: es) (p :: ps) := by
  unfold PtsOk
  rw [gPts]
  exact pgs_cons h1 h2 hs
theorem pt_tup {k : Nat} (hc : X.calm = true) (h : PtsOk X es ps) (hn : (assignEach es X.env).length = ps.length := by rfl) (hst : (assignEach es X.env).findIdx? (·.1) = none := by rfl) : PtOk X (.Tuple es k pos) (.tp ps) := by
  unfold PtOk
  rw [gPt]
  exact pg_tup hc h hn hst
end

/-! ### comprehensions -/
def R.nox {α : Type} : R α → R α
  | .ok a st => .ok a st
  | _ => .bad
@[simp] theorem R.nox_ok {α : Type} (a : α) (st : Sto) : (R.ok a st).nox = .ok a st := rfl
def mYes : MT := fun _ st => .ok true st
def lcM (p : Pt) (t : MT) (e : ME) (k : Nat) (ρ : En) : List D → Sto → R Unit
  | [], st => .ok () st
  | d :: ds, st => match setP p d ρ with
    | none => .bad
    | some ρ1 => (t ρ1 st).nox.bind fun b st => if b then ((e ρ1 st).nox.bind fun y st => match st[k]? with
        | some (.lst acc) => if acc.length < sizeLine ∧ lowD k y = true then lcM p t e k ρ ds (st.set k (.lst (acc ++ [y]))) else .bad
        | _ => .bad) else lcM p t e k ρ ds st
def lcEnd (k : Nat) (st : Sto) : R D := match st[k]? with
  | some (.lst acc) => .ok (.lst acc) (st.take k)
  | _ => .bad
def mLc (mi : MI) (p : Pt) (t : MT) (e : ME) (vs : List Nat) : ME := fun ρ st => (mi ρ st).bind fun ds st =>
  (lcM p t e st.length (wipeM ρ vs) ds (st ++ [.lst []])).bind fun _ st' => lcEnd st.length st'
def EvTs (T : List NdefX.NTab) (X : Cx) (W : WX) (ifs : List Expr) (m : MT) : Prop := PTs X ifs (tMT (gX T X) W m)
section
variable {T : List NdefX.NTab} {X : Cx} {W : WX}
abbrev W0 : WX := wF E0
theorem ets_nil : EvTs T X W [] mYes := ⟨fun pins s σ H Q I ⟨F, β, ρ, st, g, er, h⟩ => pts_nil.run pins s σ H Q I (h H F β (Ex.refl _) (Pre.refl _) g)⟩
theorem ets_one {c : Expr} {m : MT} (h : EvT T X W c m) : EvTs T X W [c] m := pts_one h
theorem nox_E {G : Gb} {Wq Wq' : Value → Option Addr → Hp → Prop} {α : Type} {F : Hp} {β : List Addr} {Q : VK} {r : R α} {k : α → Sto → R D} (h : PostE G Wq F β Q (r.nox.bind k)) : ∃ a st, r = .ok a st ∧ PostE G Wq F β Q (k a st) := by
  cases r with
  | ok a st => exact ⟨a, st, rfl, h⟩
  | exc _ _ _ => exact h.elim
  | bad => exact h.elim
theorem nox_U {α : Type} {β : Type} {r : R α} {k : α → Sto → R β} {a : β} {st' : Sto} (h : r.nox.bind k = .ok a st') : ∃ b st, r = .ok b st ∧ k b st = .ok a st' := by
  cases r with
  | ok b st => exact ⟨b, st, rfl, h⟩
  | exc _ _ _ => cases h
  | bad => cases h
theorem lc_read {own : List (Str × Nat)} {mi : MI} {p : Pt} {t : MT} {me : ME} {σ : L2.St} {H : Hp} {Q : VK} (hp : inP (own.map (·.2)) p = true) (h : tM (gX T X) W (mLc mi p t me (own.map (·.2))) σ H Q) :
    tLc (tI (gX T X) W mi) (gPt X.K p) (tMT (gX T X) W0 t) (tM (gX T X) W0 me) (own.map (·.2)) σ H Q := by
  obtain ⟨F, β, ρ, st, g, er, h⟩ := h
  refine tI_imp (tI_E g er h) fun J H1 ⟨F1, β1, ds, st1, a1, b1, g1, er1, wk, h1⟩ => fun Dl hD => ?_
  exact by
    have hk : ∀ {βx : List Addr}, Pre (β1 ++ [Dl]) βx → βx[st1.length]? = some Dl := fun b => b _ _ (by rw [← g1.len, List.getElem?_append_right (Nat.le_refl _)]; simp)
    have fin : ∀ {H' F' β' st'}, Ex F1 F' → Pre (β1 ++ [Dl]) β' → Good (gX T X) F' H' β' st' → PostE (gX T X) (wAt W σ) F1 β1 Q (lcEnd st1.length st') → Q (.ref Dl) H' := fun {H' F' β' st'} a b g' h => by
      unfold lcEnd at h
      cases eo : st'[st1.length]? with
      | none => simp only [eo] at h; exact h.elim
      | some ob =>
        simp only [eo] at h
        cases ob with
        | lst acc =>
          obtain ⟨vs, z1, z2⟩ := g'.ob _ _ _ (hk b) eo
          refine h _ H' (upd F' Dl (.lst vs)) (β'.take st1.length) (a.trans (Ex.new (g'.sep _ _ (hk b)))) ?_ (g'.freeze (Nat.le_refl _) (hk b) z1) (.lst (SqL.of upd_same) (z2.mono (Ex.new (g'.sep _ _ (hk b))) (Pre.refl _)))
          exact pre_cut ((pre_app β1 [Dl]).trans b) g1.len
        | _ => exact h.elim
    cases el : lcM p t me st1.length (wipeM ρ (own.map (·.2))) ds (st1 ++ [.lst []]) with
    | bad => simp only [el] at h1; exact h1.elim
    | exc c fs st' =>
      exfalso
      have key : ∀ (ds : List D) (st : Sto) c fs st', lcM p t me st1.length (wipeM ρ (own.map (·.2))) ds st ≠ .exc c fs st' := by
        intro ds
        induction ds with
        | nil => intro st c fs st' q; cases q
        | cons d ds ih =>
          intro st c fs st' q
          rw [lcM] at q
          cases e1 : setP p d (wipeM ρ (own.map (·.2))) with
          | none => simp only [e1] at q; cases q
          | some ρ1 =>
            simp only [e1] at q
            cases e2 : t ρ1 st with
            | bad => rw [e2] at q; cases q
            | exc _ _ _ => rw [e2] at q; cases q
            | ok b st2 =>
              rw [e2] at q
              simp only [R.nox_ok, R.bind_ok] at q
              cases b with
              | false => exact ih _ _ _ _ q
              | true =>
                simp only [if_true] at q
                cases e3 : me ρ1 st2 with
                | bad => rw [e3] at q; cases q
                | exc _ _ _ => rw [e3] at q; cases q
                | ok y st3 =>
                  rw [e3] at q
                  simp only [R.nox_ok, R.bind_ok] at q
                  split at q
                  · split at q
                    · exact ih _ _ _ _ q
                    · cases q
                  · cases q
      exact key _ _ _ _ _ el
    | ok u stE =>
      simp only [el, R.bind_ok] at h1
      refine ⟨fun i m H => i ≤ ds.length ∧ m = ds.length - i ∧ ∃ F2 β2 st2, Ex F1 F2 ∧ Pre (β1 ++ [Dl]) β2 ∧ Good (gX T X) F2 H β2 st2 ∧ lcM p t me st1.length (wipeM ρ (own.map (·.2))) (ds.drop i) st2 = .ok u stE, ⟨ds.length, Nat.zero_le _, rfl, F1, β1 ++ [Dl], st1 ++ [.lst []], Ex.refl _, Pre.refl _, ?_, by rw [List.drop_zero]; exact el⟩, ?_⟩
      · exact g1.lay hD ⟨[], upd_same, .nil⟩
      rintro i m H' ⟨hi, rfl, F2, β2, st2, a2, b2, g2, h2⟩
      obtain ⟨w1, w2⟩ := wk i F2 H' β2 st2 a2 ((pre_app β1 [Dl]).trans b2) g2
      rcases Nat.lt_or_ge i ds.length with hlt | hge
      · have hd : ds[i]? = some ds[i] := List.getElem?_eq_getElem hlt
        obtain ⟨go, yl⟩ := w2 _ hd
        refine .inr ⟨go, fun H3 => ∃ F3 β3 st3, Ex F1 F3 ∧ Pre (β1 ++ [Dl]) β3 ∧ Good (gX T X) F3 H3 β3 st3 ∧ lcM p t me st1.length (wipeM ρ (own.map (·.2))) (ds.drop (i + 1)) st3 = .ok u stE, fun H3 q => ⟨ds.length - (i + 1), by omega, hlt, rfl, q⟩, fun x H3 y => ?_⟩
        obtain ⟨F3, a3, g3, r3⟩ := yl x H3 y
        rw [List.drop_eq_getElem_cons hlt, lcM] at h2
        cases e1 : setP p ds[i] (wipeM ρ (own.map (·.2))) with
        | none => simp only [e1] at h2; cases h2
        | some ρ1 =>
          simp only [e1] at h2
          have er3 : EnvR (gX T X) F3 β2 (L2.wipe σ (own.map (·.2))) (wipeM ρ (own.map (·.2))) := (er1.mono (a2.trans a3) ((pre_app β1 [Dl]).trans b2)).wipe _
          refine gPt_ok (G := gX T X) (own.map (·.2)) st2 g3 p hp er3 r3 e1 fun σ4 er4 w4 => ⟨w4.trans ?_, ?_⟩
          · have idem : ∀ (vs : List Nat) (τ : L2.St), L2.wipe (L2.wipe τ vs) vs = L2.wipe τ vs := by
              intro vs
              induction vs with
              | nil => intro τ; rfl
              | cons v vs ih =>
                intro τ
                show (L2.wipe ((L2.wipe τ vs).set v none) vs).set v none = (L2.wipe τ vs).set v none
                by_cases hm : v ∈ vs
                · rw [wipe_set hm, ih]
                · have z : ∀ {vs : List Nat} (τ : L2.St) (j : Nat) (y : Option V), j ∉ vs → L2.wipe (τ.set j y) vs = (L2.wipe τ vs).set j y := by
                    intro vs
                    induction vs with
                    | nil => intro τ j y _; rfl
                    | cons v vs ih =>
                      intro τ j y hj
                      simp only [List.mem_cons, not_or] at hj
                      show (L2.wipe (τ.set j y) vs).set v none = ((L2.wipe τ vs).set v none).set j y
                      rw [ih τ j y hj.2, List.set_comm _ _ hj.1]
                  rw [z _ _ _ hm, ih, List.set_set]
            exact idem _ _
          obtain ⟨b, st3, e2, h3⟩ := nox_U h2
          refine ⟨F3, β2, ρ1, st2, g3, er4, ?_⟩
          rw [e2]
          intro H5 F5 β5 a5 b5 g5
          cases b with
          | false => exact ⟨F5, β5, st3, (a2.trans a3).trans a5, b2.trans b5, g5, h3⟩
          | true =>
            simp only [if_true] at h3 ⊢
            obtain ⟨y, st4, e3, h4⟩ := nox_U h3
            refine ⟨F5, β5, ρ1, st3, g5, er4.mono a5 b5, ?_⟩
            rw [e3]
            intro v H6 F6 β6 a6 b6 g6 r6
            have b16 : Pre (β1 ++ [Dl]) β6 := (b2.trans b5).trans b6
            cases eo : st4[st1.length]? with
            | none => simp only [eo] at h4; cases h4
            | some ob =>
              cases ob with
              | lst acc =>
                simp only [eo] at h4
                split at h4
                · rename_i q
                  obtain ⟨vs, z1, z2⟩ := g6.ob _ _ _ (hk b16) eo
                  refine ⟨vs, z1, by rw [z2.length]; exact q.1, F6, β6, _, ((a2.trans a3).trans a5).trans a6, b16, g6.put (u := .lst (acc ++ [y])) (hk b16) ⟨vs ++ [v], upd_same, z2.append (.cons (r6.low q.2) .nil)⟩, h4⟩
                · cases h4
              | _ => simp only [eo] at h4; cases h4
      · have e : i = ds.length := Nat.le_antisymm hi hge
        subst e
        rw [List.drop_length, lcM] at h2
        cases h2
        exact .inl ⟨w1 (Nat.le_refl _), fin a2 b2 g2 h1⟩
theorem ev_lc {elt tg iter : Expr} {ifs : List Expr} {scope : Scope} {own : List (Str × Nat)} {pos : Pos} {mi : MI} {p : Pt} {t : MT} {me : ME} (hN : X.N.Nodup) (hi : EvI T X W tg iter mi) (ok : BlkOk X.N X.env.scope scope own) (hp : inP (own.map (·.2)) p = true)
    (hg : ∀ (s : Shared) (H : Hp) (C : Addr) (cl : List (Str × Addr)) (fp : List Addr), PtOk (X.blk s H scope (compEnvC scope cl C X.env) fp) tg p) (ht : ∀ (s : Shared) (H : Hp) (C : Addr) (cl : List (Str × Addr)) (fp : List Addr), EvTs T (X.blk s H scope (compEnvC scope cl C X.env) fp) W0 ifs t)
    (he : ∀ (s : Shared) (H : Hp) (C : Addr) (cl : List (Str × Addr)) (fp : List Addr), EvE T (X.blk s H scope (compEnvC scope cl C X.env) fp) W0 elt me) (hc : X.calm = true := by rfl) (hs : ∀ x, foldedSetIterable iter X.env x = pure x := by intro _; rfl) :
    EvE T X W (.ListComp elt [⟨tg, iter, ifs, 0⟩] scope pos) (mLc mi p t me (own.map (·.2))) :=
  pe_imp (pe_lc (g := gPt X.K p) (tt := tMT (gX T X) W0 t) (te := tM (gX T X) W0 me) hc hN hi ok hg ht he hs) fun σ H Q h => lc_read hp h
/-- name = [..] on one line -/
theorem es_setLc {i : Nat} {y : Str} {elt tg iter : Expr} {ifs : List Expr} {scope : Scope} {own : List (Str × Nat)} {pos py spos : Pos} {mi : MI} {p : Pt} {t : MT} {me : ME} (hN : X.N.Nodup) (hi : EvI T X W tg iter mi) (ok : BlkOk X.N X.env.scope scope own) (hp : inP (own.map (·.2)) p = true)
    (hg : ∀ (s : Shared) (H : Hp) (C : Addr) (cl : List (Str × Addr)) (fp : List Addr), PtOk (X.blk s H scope (compEnvC scope cl C X.env) fp) tg p) (ht : ∀ (s : Shared) (H : Hp) (C : Addr) (cl : List (Str × Addr)) (fp : List Addr), EvTs T (X.blk s H scope (compEnvC scope cl C X.env) fp) W0 ifs t)
    (he : ∀ (s : Shared) (H : Hp) (C : Addr) (cl : List (Str × Addr)) (fp : List Addr), EvE T (X.blk s H scope (compEnvC scope cl C X.env) fp) W0 elt me) (hc : X.calm = true := by rfl) (hs : ∀ x, foldedSetIterable iter X.env x = pure x := by intro _; rfl)
    (hy : X.N[i]? = some y := by rfl) (hyl : X.env.scope.names.lookup y = some .local := by rfl) (hsw : swapsWith (.ListComp elt [⟨tg, iter, ifs, 0⟩] scope pos) (some (.Name y py)) spos.line X.env = pure true := by exact sw_true rfl rfl rfl rfl) :
    EvS T X W (.Assign [.Name y py] (.ListComp elt [⟨tg, iter, ifs, 0⟩] scope pos) spos) (mAsg (mLc mi p t me (own.map (·.2))) (gN i)) :=
  ps_imp (ps_setLc (g := gPt X.K p) (tt := tMT (gX T X) W0 t) (te := tM (gX T X) W0 me) hc hN hy hyl hsw hi ok hg ht he hs) fun D σ H ⟨F, β, ρ, st, g, er, h⟩ => lc_read hp (tM_imp (tM_S g er h) fun v H1 ⟨F1, β1, d, st1, a1, b1, g1, er1, r1, h1⟩ => h1 _ H1 F1 β1 (Ex.refl _) (Pre.refl _) g1 (er1.set r1 i))
end
end DM

end

section
set_option Elab.async false
set_option linter.all false
set_option maxRecDepth 100000
set_option maxHeartbeats 2000000
/-! DMh: what is walked; a def by its body. -/
namespace DM
open PySem PySem.Spec PyProof.Rows L2
section
variable {T : List NdefX.NTab} {X : Cx} {W : WX} {tg e : Expr} {m : ME} {ms : MA} {p pos : Pos}
/-- a list, a tuple, a text -/
def iAny (K : PySem.W.Frag) (te : TE) : TI := fun σ H R => te σ H fun x H1 => (∃ a, x = .ref a ∧ (∃ xs, SqL K H1 a xs) ∧ R (Itl K a) H1) ∨ (∃ a, x = .ref a ∧ (∃ xs, SqT K H1 a xs) ∧ R (Itt K a) H1) ∨ ∃ z, x = .str z ∧ R (Its z) H1
theorem pi_any {te : TE} (he : PE X e te) : PI X tg e (iAny X.K te) := by
  refine ⟨fun pins s σ H R I h => ?_⟩
  refine thn (he.run pins s σ H _ I h) fun v s1 ⟨x, H1, I1, r1, q1⟩ => ?_
  rcases q1 with ⟨a, rfl, ⟨xs, hq⟩, q⟩ | ⟨a, rfl, ⟨xs, hq⟩, q⟩ | ⟨z, rfl, q⟩
  · cases r1
    obtain ⟨its, rv, pl, hz⟩ := I1.list hq
    refine wpAny_pyIter_list pl.isList (pi_one (tk := s1.toks) I1 _ (turn_list a _) ⟨_, Heap.get?_push_size _ rfl, rfl, rfl⟩ q)
  · cases r1
    obtain ⟨its, rv, pl, hz⟩ := I1.tuple hq
    refine wpAny_pyIter_tuple (show s1.heap.IsTuple a its.toArray from pl) (pi_one (tk := s1.toks) I1 _ (turn_tuple a _) ⟨_, Heap.get?_push_size _ rfl, rfl, rfl⟩ q)
  · obtain ⟨t, rfl⟩ := r1
    cases ha : z.cps.all (· < 128) with
    | false => exact wpAny_pyIter_wide ha (pi_one (tk := s1.toks) I1 _ (turn_str _ z t "str_iterator" (.inr rfl)) ⟨_, Heap.get?_push_size _ rfl, rfl, rfl⟩ q)
    | true => exact wpAny_pyIter_ascii ha (pi_one (tk := s1.toks) I1 _ (turn_str _ z t "str_ascii_iterator" (.inl rfl)) ⟨_, Heap.get?_push_size _ rfl, rfl, rfl⟩ q)
def signs (z : Str) : List D := z.cps.toList.map fun c => .str ⟨#[c]⟩
def itemsOf : D → Option (List D)
  | .lst ds => some ds
  | .tup ds => some ds
  | .str z => some (signs z)
  | _ => none
def mIter (m : ME) : MI := fun ρ st => (m ρ st).bind fun d st => match itemsOf d with
  | some ds => .ok ds st
  | none => .bad
theorem wk_list {G : Gb} {F : Hp} {β : List Addr} {a : Addr} {xs : List V} {ds : List D} (s : SqL G.K F a xs) (r : RepAll G.wd G.K G.mg F β xs ds) : Wk G (Itl G.K a) F β ds := fun i F2 H2 β2 st2 a2 b2 g2 =>
  have s2 : SqL G.K H2 a xs := g2.ex.sl (a2.sl s)
  ⟨fun h => ⟨xs, s2, by rw [r.length]; exact h⟩, fun d hd => by
    obtain ⟨v, hv, rv⟩ := r.get hd
    refine ⟨⟨xs, v, s2, hv⟩, fun x H' y => ?_⟩
    obtain ⟨rfl, y⟩ := y
    have := y xs s2
    rw [hv] at this; cases this
    exact ⟨F2, Ex.refl _, g2, rv.mono a2 b2⟩⟩
theorem wk_tup {G : Gb} {F : Hp} {β : List Addr} {a : Addr} {xs : List V} {ds : List D} (s : SqT G.K F a xs) (r : RepAll G.wd G.K G.mg F β xs ds) : Wk G (Itt G.K a) F β ds := fun i F2 H2 β2 st2 a2 b2 g2 =>
  have s2 : SqT G.K H2 a xs := g2.ex.stp (a2.stp s)
  ⟨fun h => ⟨xs, s2, by rw [r.length]; exact h⟩, fun d hd => by
    obtain ⟨v, hv, rv⟩ := r.get hd
    refine ⟨⟨xs, v, s2, hv⟩, fun x H' y => ?_⟩
    obtain ⟨rfl, y⟩ := y
    have := y xs s2
    rw [hv] at this; cases this
    exact ⟨F2, Ex.refl _, g2, rv.mono a2 b2⟩⟩
theorem wk_str {G : Gb} {F : Hp} {β : List Addr} {z : Str} : Wk G (Its z) F β (signs z) := fun i F2 H2 β2 st2 a2 b2 g2 =>
  ⟨fun h => by simpa [Its, signs] using h, fun d hd => by
    unfold signs at hd
    rw [List.getElem?_map, Array.getElem?_toList] at hd
    cases ec : z.cps[i]? with
    | none => rw [ec] at hd; cases hd
    | some c =>
      rw [ec] at hd
      cases hd
      refine ⟨(Array.getElem?_eq_some_iff.mp ec).1, fun x H' y => ?_⟩
      obtain ⟨rfl, c', ec', rfl⟩ := y
      rw [ec] at ec'; cases ec'
      exact ⟨F2, Ex.refl _, g2, .str _⟩⟩
theorem ei_any (he : EvE T X W e m) : EvI T X W tg e (mIter m) :=
  pi_imp (pi_any he) fun σ H Q ⟨F, β, ρ, st, g, er, h⟩ => by
    refine tM_imp (tM_then (P := fun W F β r => PostI (gX T X) W F β Q r) g er (fun _ _ _ z => z) (fun z => z) (fun _ _ _ a b z => PostI.mono a b z) h) fun v H1 ⟨F1, β1, d, st1, a1, b1, g1, er1, r1, h1⟩ => ?_
    cases r1 with
    | lst s r => exact .inl ⟨_, rfl, ⟨_, g1.ex.sl s⟩, h1 _ H1 F1 β1 (Ex.refl _) (Pre.refl _) g1 (wk_list s r)⟩
    | tup s r => exact .inr (.inl ⟨_, rfl, ⟨_, g1.ex.stp s.sq⟩, h1 _ H1 F1 β1 (Ex.refl _) (Pre.refl _) g1 (wk_tup s.sq r)⟩)
    | str z => exact .inr (.inr ⟨z, rfl, h1 _ H1 F1 β1 (Ex.refl _) (Pre.refl _) g1 wk_str⟩)
    | _ => exact h1.elim
theorem tMA_I {m : MA} {σ : L2.St} {H F : Hp} {β : List Addr} {st : Sto} {ρ : En} {k : List D → Sto → R (List D)} {G : Gb} {Q : It → Hp → Prop} (g : Good G F H β st) (er : EnvR G F β σ ρ) (h : PostI G (wAt W σ) F β Q ((m ρ st).bind k)) :
    tMA G W m σ H fun vs H1 => ∃ F1 β1 ds st1, Ex F F1 ∧ Pre β β1 ∧ Good G F1 H1 β1 st1 ∧ EnvR G F1 β1 σ ρ ∧ RepAll G.wd G.K G.mg F1 β1 vs ds ∧ PostI G (wAt W σ) F1 β1 Q (k ds st1) := by
  refine ⟨F, β, ρ, st, g, er, ?_⟩
  cases e : m ρ st with
  | ok d st1 =>
    rw [e] at h
    exact fun v H' F' β' a b g' r => ⟨F', β', d, st1, a, b, g', er.mono a b, r, PostI.mono a b h⟩
  | exc c fs st1 => rw [e] at h; exact h
  | bad => rw [e] at h; exact h
def rngD (lo : Int) (n : Nat) : List D := (List.range n).map fun (i : Nat) => .int (lo + (i : Int))
theorem wk_rng {G : Gb} {F : Hp} {β : List Addr} {lo : Int} {n : Nat} : Wk G (Itr lo n) F β (rngD lo n) := fun i F2 H2 β2 st2 a2 b2 g2 =>
  ⟨fun h => by simpa [Itr, rngD] using h, fun d hd => by
    unfold rngD at hd
    rw [List.getElem?_map] at hd
    rcases Nat.lt_or_ge i n with hi | hi
    · rw [List.getElem?_range hi] at hd
      cases hd
      refine ⟨hi, fun x H' y => ?_⟩
      obtain ⟨rfl, rfl⟩ := y
      exact ⟨F2, Ex.refl _, g2, .int _⟩
    · rw [List.getElem?_eq_none (by simpa using hi)] at hd; cases hd⟩
abbrev b62 (j : Int) : Bool := decide (-(2 ^ 62) ≤ j ∧ j < 2 ^ 62)
def mRng1 (ms : MA) : MI := fun ρ st => (ms ρ st).bind fun ds st => match ds with
  | [.int j] => if b62 j then .ok (rngD 0 j.toNat) st else .bad
  | _ => .bad
def mRng2 (ms : MA) : MI := fun ρ st => (ms ρ st).bind fun ds st => match ds with
  | [.int i, .int j] => if b62 i && b62 j then .ok (rngD i (j - i).toNat) st else .bad
  | _ => .bad
theorem ei_rng1 {a : Expr} (hm : X.mg "range" = none) (ha : EvA T X W [a] ms) (hg : Gl X "range" := by rfl) (hs : starEach [a] X.env = [(false, eval a X.env)] := by rfl) : EvI T X W tg (.Call (.Name "range" p) [a] [] pos) (mRng1 ms) :=
  pi_imp (pi_range1 hg hm ha hs) fun σ H Q ⟨F, β, ρ, st, g, er, h⟩ => tMA_imp (tMA_I g er h) fun vs H1 ⟨F1, β1, ds, st1, a1, b1, g1, er1, r1, h1⟩ => by
    split at h1
    · rename_i j
      split at h1
      · rename_i hb
        have hb := of_decide_eq_true hb
        cases r1 with
        | cons q rr =>
          cases rr
          cases q
          exact ⟨j, rfl, hb.1, hb.2, h1 _ H1 F1 β1 (Ex.refl _) (Pre.refl _) g1 wk_rng⟩
      · exact h1.elim
    · exact h1.elim
theorem ei_rng2 {a b : Expr} (hm : X.mg "range" = none) (ha : EvA T X W [a, b] ms) (hg : Gl X "range" := by rfl) (hs : starEach [a, b] X.env = [(false, eval a X.env), (false, eval b X.env)] := by rfl) (hs2 : starEach [b] X.env = [(false, eval b X.env)] := by rfl) : EvI T X W tg (.Call (.Name "range" p) [a, b] [] pos) (mRng2 ms) :=
  pi_imp (pi_range2 hg hm ha hs hs2) fun σ H Q ⟨F, β, ρ, st, g, er, h⟩ => tMA_imp (tMA_I g er h) fun vs H1 ⟨F1, β1, ds, st1, a1, b1, g1, er1, r1, h1⟩ => by
    split at h1
    · rename_i i j
      split at h1
      · rename_i hb
        rw [Bool.and_eq_true] at hb
        have hb1 := of_decide_eq_true hb.1
        have hb2 := of_decide_eq_true hb.2
        cases r1 with
        | cons q rr =>
          cases rr with
          | cons q2 rr =>
            cases rr
            cases q
            cases q2
            exact ⟨i, j, rfl, ⟨hb1.1, hb1.2, hb2.1, hb2.2⟩, h1 _ H1 F1 β1 (Ex.refl _) (Pre.refl _) g1 wk_rng⟩
      · exact h1.elim
    · exact h1.elim

/-! ### a def by its body -/
/-- what a def hands back: the things that it made are let go; a list or a dict or an object of them, handed back, never changes from then on -/
def sealR (n : Nat) : D → Sto → R D
  | .ref k, st => if k < n then .ok (.ref k) (st.take n) else match st[k]? with
    | some (.lst ds) => if lowL n ds then .ok (.lst ds) (st.take n) else .bad
    | some (.dct kvs) => if lowP n kvs then .ok (.dct kvs) (st.take n) else .bad
    | some (.dxt kvs) => if lowK n kvs then .ok (.dxt kvs) (st.take n) else .bad
    | some (.ins c fs) => if lowF n fs then .ok (.obj c fs) (st.take n) else .bad
    | none => .bad
  | d, st => if lowD n d then .ok d (st.take n) else .bad
/-- .. a list that may still be changed -/
def sealM (n : Nat) : D → Sto → R D
  | .ref k, st => if k < n then .ok (.ref k) (st.take n) else match st[k]? with
    | some (.lst ds) => if lowL n ds then .ok (.ref n) (st.take n ++ [.lst ds]) else .bad
    | _ => .bad
  | d, st => if lowD n d then .ok d (st.take n) else .bad
def startM (N : Nat) (ds : List D) : En := ds.map some ++ List.replicate (N - ds.length) none
def fnM (sl : Nat → D → Sto → R D) (N : Nat) (b : MS) : List D → Sto → R D := fun ds st => match b (startM N ds) st with
  | .ok (.rt d) st' => sl st.length d st'
  | .ok (.nx _) st' => sl st.length .non st'
  | .ok (.xc c fs _) st' => if lowF st.length fs then .exc c fs (st'.take st.length) else .bad
  | _ => .bad
/-- a sealing is sound -/
def SealOk (G : Gb) (sl : Nat → D → Sto → R D) : Prop := ∀ (Wq : Value → Option Addr → Hp → Prop) (F F' H' : Hp) (β β' : List Addr) (st' : Sto) (v : V) (d : D) (Q : VK), Ex F F' → Pre β β' → Good G F' H' β' st' → Rep G.wd G.K G.mg F' β' v d → PostE G Wq F β Q (sl β.length d st') → Q v H'
theorem low_rep {wd : World} {K : PySem.W.Frag} {mg : Str → Option Value} {F : Hp} {β β' : List Addr} {v : V} {d : D} (b : Pre β β') (r : Rep wd K mg F β' v d) (h : lowD β.length d = true) : Rep wd K mg F β v d := by
  have q := r.low h
  rw [pre_eq b] at q
  exact q
theorem seal_plain {G : Gb} {Wq : Value → Option Addr → Hp → Prop} {F F' H' : Hp} {β β' : List Addr} {st' : Sto} {v : V} {d : D} {Q : VK} (a : Ex F F') (b : Pre β β') (g : Good G F' H' β' st') (r : Rep G.wd G.K G.mg F' β' v d)
    (h : PostE G Wq F β Q (if lowD β.length d then .ok d (st'.take β.length) else .bad)) : Q v H' := by
  split at h
  · rename_i hl
    have g2 := g.cut β.length
    rw [pre_eq b] at g2
    exact h v H' F' β a (Pre.refl _) g2 (low_rep b r hl)
  · exact h.elim
theorem seal_frz {G : Gb} {F' H' : Hp} {β β' : List Addr} {st' : Sto} {k : Nat} {p : Addr} {o : HO} (b : Pre β β') (g : Good G F' H' β' st') (hk : β.length ≤ k) (hp : β'[k]? = some p) (ho : H' p = some o) : Good G (upd F' p o) H' β (st'.take β.length) := by
  have g2 := g.freeze hk hp ho
  rw [pre_eq b] at g2
  exact g2
theorem lowP_of {n : Nat} {ks ws : List D} (hl : ks.length = ws.length) (h : lowP n (ks.zip ws) = true) : lowL n ws = true := lowP_zip hl h
theorem reps_low {wd : World} {K : PySem.W.Frag} {mg : Str → Option Value} {F F' : Hp} {β β' : List Addr} {vs : List V} {ds : List D} {k : Nat} (e : Ex F F') (b : Pre β β') (r : RepAll wd K mg F (β'.take k) vs ds) (hk : β.length ≤ k) (h : lowL β.length ds = true) : RepAll wd K mg F' β vs ds := by
  have q := r.low h
  rw [List.take_take, Nat.min_eq_left hk, pre_eq b] at q
  exact q.mono e (Pre.refl _)
theorem sealR_ok {G : Gb} : SealOk G sealR := by
  intro Wq F F' H' β β' st' v d Q a b g r h
  cases r with
  | @ref k p hp =>
    unfold sealR at h
    dsimp only at h
    split at h
    · rename_i hk
      have g2 := g.cut β.length
      rw [pre_eq b] at g2
      refine h _ H' F' β a (Pre.refl _) g2 (.ref ?_)
      have : β'[k]? = β[k]? := by
        rw [← pre_eq b, List.getElem?_take_of_lt hk]
      rw [← this]; exact hp
    · rename_i hk
      have hk : β.length ≤ k := Nat.le_of_not_lt hk
      have fp : F' p = none := g.sep k p hp
      split at h
      · rename_i ds eo
        split at h
        · rename_i hl
          obtain ⟨vs, z1, z2⟩ := g.ob k p _ hp eo
          exact h _ H' _ β (a.trans (Ex.new fp)) (Pre.refl _) (seal_frz b g hk hp z1) (.lst (SqL.of upd_same) (reps_low (Ex.new fp) b z2 hk hl))
        · exact h.elim
      · rename_i kvs eo
        split at h
        · rename_i hl
          obtain ⟨ks, ws, z1, z2, rfl⟩ := g.ob k p _ hp eo
          exact h _ H' _ β (a.trans (Ex.new fp)) (Pre.refl _) (seal_frz b g hk hp z1) (.dK (.inl upd_same) (reps_low (Ex.new fp) b z2 hk (lowP_zip (ks := ks.map fun p => keyD p.1) (by have := z2.length; simpa using this) hl)))
        · exact h.elim
      · rename_i kvs eo
        split at h
        · rename_i hl
          obtain ⟨ks, ws, z1, zk, z2, rfl⟩ := g.ob k p _ hp eo
          exact h _ H' _ β (a.trans (Ex.new fp)) (Pre.refl _) (seal_frz b g hk hp z1) (.dxt upd_same (fun p q => (zk p q).ext (Ex.new fp)) (reps_low (Ex.new fp) b z2 hk (lowK_zip (ks := ks.map (·.1)) (by have := z2.length; simpa using this) hl)))
        · exact h.elim
      · rename_i c fs eo
        split at h
        · rename_i hl
          obtain ⟨C, dx, gs, ws, z0, z1, z2, rfl⟩ := g.ob k p _ hp eo
          exact h _ H' _ β (a.trans (Ex.new fp)) (Pre.refl _) (seal_frz b g hk hp z1) (.obj upd_same z0 (reps_low (Ex.new fp) b z2 hk (lowF_zip (ks := gs.map (·.1)) (by have := z2.length; simpa using this) hl)))
        · exact h.elim
      · exact h.elim
  | non => exact seal_plain a b g .non h
  | bl x => exact seal_plain a b g (.bl x) h
  | int x => exact seal_plain a b g (.int x) h
  | str x => exact seal_plain a b g (.str x) h
  | tup s r => exact seal_plain a b g (.tup s r) h
  | lst s r => exact seal_plain a b g (.lst s r) h
  | dK s r => exact seal_plain a b g (.dK s r) h
  | dxt s hk r => exact seal_plain a b g (.dxt s hk r) h
  | obj s hc r => exact seal_plain a b g (.obj s hc r) h
  | wtp s r => exact seal_plain a b g (.wtp s r) h
  | gl s => exact seal_plain a b g (.gl s) h
theorem start_rep {G : Gb} {F : Hp} {β : List Addr} {N : List Str} {vs : List V} {ds : List D} (r : RepAll G.wd G.K G.mg F β vs ds) : EnvR G F β (L2.start N vs) (startM N.length ds) := by
  have hl := r.length
  refine ⟨by unfold L2.start startM; simp [hl], fun i d h => ?_⟩
  unfold startM at h
  unfold L2.start
  rcases Nat.lt_or_ge i ds.length with hi | hi
  · rw [List.getElem?_append_left (by simpa using hi), List.getElem?_map] at h
    cases e : ds[i]? with
    | none => rw [e] at h; cases h
    | some d' =>
      rw [e] at h
      cases h
      obtain ⟨v, hv, rv⟩ := r.get e
      exact ⟨v, by rw [List.getElem?_append_left (by simpa [hl] using hi), List.getElem?_map, hv]; rfl, rv⟩
  · rw [List.getElem?_append_right (by simpa using hi), List.getElem?_replicate] at h
    split at h <;> cases h
end
section
variable {P : Program} {w : World} {wd : World} {K : PySem.W.Frag} {mg : Str → Option Value} {base : Heap}
/-- the code object of the def at a -/
def codeAd (K : PySem.W.Frag) (a : Addr) : Addr := match K.lookup a with
  | some ⟨_, _, .func fd, _⟩ => (match fd.code with
    | .ref c => c
    | _ => 0)
  | _ => 0
theorem okXC {x qual : Str} {st : Stmt} {f : Addr} {fd : FuncData} {N ps : List Str} {k : Nat} {sp : Sp} (F : Fun K x qual st f fd) (S : FnScope N ps (defScope st)) (len : ∀ vs H Q E, sp vs H Q E → vs.length = ps.length)
    (hbody : ∀ (cdv : Value) (A : Around) (outer : List Env) (s : Shared) (H : Hp) (vs : List V) (Q : VK) (E : XK), cdv = .ref (codeAd K f) → Room k (A.deeper (envOfC qual (defScope st) s.heap.objs.size f cdv)) → sp vs H Q E →
      ∃ t, PSs (cxOf (L2.CX P w) P w K mg base N qual (defScope st) f cdv A outer s H E) (defBody st) t ∧ t { nx := fun _ H' => Q .non H', rt := Q } (start N vs) H) : FnOk P w K mg base (L2.CX P w) (k + 1) f fd ps sp := by
  obtain ⟨oc, od, kV, doc, pm, an, cdv, ct, osl, rfl, lk, hcd⟩ := F.ex
  have hc : cdv = .ref (codeAd K f) := by
    cases cdv with
    | ref c =>
      unfold codeAd
      rw [lk]
    | _ => cases hcd
  exact fn_of lk hcd S len fun A outer s H vs Q E hr hsp => hbody cdv A outer s H vs Q E hc hr hsp
/-- THE RULE: a def keeps the promise of its mirror -/
theorem fn_M {T : List NdefX.NTab} {x qual : Str} {st : Stmt} {f : Addr} {fd : FuncData} {N ps : List Str} {k : Nat} {sl : Nat → D → Sto → R D} {b : MS} (F : Fun K x qual st f fd) (S : FnScope N ps (defScope st)) (so : SealOk ⟨K, mg, T, w⟩ sl)
    (hb : ∀ (cdv : Value) (A : Around) (outer : List Env) (s : Shared) (H : Hp) (E : XK), cdv = .ref (codeAd K f) → Room k (A.deeper (envOfC qual (defScope st) s.heap.objs.size f cdv)) →
      EvSs T (cxOf (L2.CX P w) P w K mg base N qual (defScope st) f cdv A outer s H E) (wF E) (defBody st) b) :
    FnOk P w K mg base (L2.CX P w) (k + 1) f fd ps (spM ⟨K, mg, T, w⟩ ps.length (fnM sl N.length b)) := by
  refine okXC F S (spM_len rfl) fun cdv A outer s H vs Q E hc hr hsp => ⟨_, hb cdv A outer s H E hc hr, ?_⟩
  obtain ⟨F0, β, st0, ds, g, r, h⟩ := hsp
  refine ⟨F0, β, _, st0, g, start_rep r, ?_⟩
  split at h
  · unfold fnM at h
    cases eb : b (startM N.length ds) st0 with
    | bad => rw [eb] at h; exact h
    | ok fl st1 =>
      simp only [eb] at h
      rw [← g.len] at h
      cases fl with
      | nx ρ => exact fun σ' H' F' β' a b' g' er => so E F0 F' H' β β' st1 .non .non Q a b' g' .non h
      | rt d => exact fun v H' F' β' a b' g' rv => so E F0 F' H' β β' st1 v d Q a b' g' rv h
      | bk ρ => exact h.elim
      | ct ρ => exact h.elim
      | xc c fs ρ =>
        intro cls d σ' H' F' β' a b' g' er x
        dsimp only at h
        split at h
        · rename_i hl
          have g2 := g'.cut β.length
          rw [pre_eq b'] at g2
          refine h cls d H' F' β a (Pre.refl _) g2 ?_
          obtain ⟨C, h1, h2, h3⟩ := x
          refine ⟨C, h1, h2, ?_⟩
          rcases h3 with h3 | ⟨dd, gs, ws, q1, q2, q3, q4⟩
          · exact .inl h3
          · subst q4
            have hw := lowF_zip (ks := gs.map (·.1)) (by have := q3.length; simpa using this) hl
            have q := q3.low hw
            rw [pre_eq b'] at q
            exact .inr ⟨dd, gs, ws, q1, q2, q, rfl⟩
        · exact h.elim
  · exact h.elim
end
end DM

end

section
set_option Elab.async false
set_option linter.all false
set_option maxRecDepth 100000
set_option maxHeartbeats 2000000
/-! DMi: built-in functions, methods, slices, kinds. -/
namespace DM
open PySem PySem.Spec PyProof.Rows L2
section
variable {G : Gb}
/-! ### len, abs, max, min, int, str, divmod, gcd -/
def lenD (st : Sto) : D → Option Nat
  | .str s => if s.length ≤ sizeLine then some s.length else none
  | d => (seqOf st d).map List.length
def dLen : List D → Sto → R D
  | [d], st => match lenD st d with
    | some n => .ok (.int n) st
    | none => .bad
  | _, _ => .bad
theorem cd_len : CaD G (fun xs H Q => ∃ x n, xs = [x] ∧ LenV G.K x H n ∧ Q (.int n) H) dLen := by
  intro Wq F H β st vs ds Q g r h
  cases r with
  | nil => exact h.elim
  | @cons v vs d ds r1 rr =>
    cases rr with
    | cons _ _ => exact h.elim
    | nil =>
      unfold dLen at h
      dsimp only at h
      cases el : lenD st d with
      | none => rw [el] at h; exact h.elim
      | some n =>
        rw [el] at h
        have q := fun (k : Nat) (e : k = n) => (show Q (.int (k : Int)) H by rw [e]; exact h _ H F β (Ex.refl _) (Pre.refl _) g (.int _))
        have sq : (seqOf st d).map List.length = some n → ∃ x m, [v] = [x] ∧ LenV G.K x H m ∧ Q (.int m) H := fun e => by
          cases es : seqOf st d with
          | none => rw [es] at e; cases e
          | some ds =>
            rw [es] at e
            cases e
            obtain ⟨a, xs, rfl, s, rr⟩ := g.seq r1 es
            refine ⟨_, xs.length, rfl, ?_, q _ rr.length⟩
            rcases s with s | s
            · exact .inl ⟨xs, s, rfl⟩
            · exact .inr ⟨xs, s, rfl⟩
        cases r1 with
        | str s =>
          unfold lenD at el
          dsimp only at el
          split at el
          · rename_i hz
            cases el
            exact ⟨_, s.length, rfl, ⟨hz, rfl⟩, q _ rfl⟩
          · cases el
        | _ => exact sq el
def dI1 (f : Int → D) : List D → Sto → R D
  | [.int i], st => .ok (f i) st
  | _, _ => .bad
def dI2 (c : Int → Int → Bool) (f : Int → Int → D) : List D → Sto → R D
  | [.int i, .int j], st => if c i j then .ok (f i j) st else .bad
  | _, _ => .bad
theorem cd_I1 {f : Int → D} {g : Int → V} (hg : ∀ i F β, Rep G.wd G.K G.mg F β (g i) (f i)) : CaD G (fun xs H Q => ∃ i, xs = [.int i] ∧ Q (g i) H) (dI1 f) := by
  intro Wq F H β st vs ds Q gd r h
  cases r with
  | nil => exact h.elim
  | cons r1 rr =>
    cases rr with
    | cons _ _ => cases r1 <;> exact h.elim
    | nil =>
      cases r1 with
      | int i => exact ⟨i, rfl, h _ H F β (Ex.refl _) (Pre.refl _) gd (hg i F β)⟩
      | _ => exact h.elim
theorem two_ints {F : Hp} {β : List Addr} {vs : List V} {ds : List D} {i j : Int} (r : RepAll G.wd G.K G.mg F β vs ds) (h : ds = [.int i, .int j]) : vs = [.int i, .int j] := by
  subst h
  cases r with
  | cons r1 rr =>
    cases rr with
    | cons r2 rr =>
      cases rr
      cases r1
      cases r2
      rfl
theorem dI2_ok {c : Int → Int → Bool} {f : Int → Int → D} {ds : List D} {st : Sto} {Wq : Value → Option Addr → Hp → Prop} {F : Hp} {β : List Addr} {Q : VK} (h : PostE G Wq F β Q (dI2 c f ds st)) : ∃ i j, ds = [.int i, .int j] ∧ c i j = true ∧ PostE G Wq F β Q (.ok (f i j) st) := by
  unfold dI2 at h
  split at h
  · rename_i i j
    split at h
    · rename_i hc
      exact ⟨i, j, rfl, hc, h⟩
    · exact h.elim
  · exact h.elim
theorem cd_I2 {c : Int → Int → Bool} {f : Int → Int → D} {C : Int → Int → Prop} {g : Int → Int → V} (hc : ∀ i j, c i j = true → C i j) (hg : ∀ i j F β, Rep G.wd G.K G.mg F β (g i j) (f i j)) : CaD G (fun xs H Q => ∃ i j, xs = [.int i, .int j] ∧ C i j ∧ Q (g i j) H) (dI2 c f) := by
  intro Wq F H β st vs ds Q gd r h
  obtain ⟨i, j, e, q, h⟩ := dI2_ok h
  exact ⟨i, j, two_ints r e, hc i j q, h _ H F β (Ex.refl _) (Pre.refl _) gd (hg i j F β)⟩
def dAbs : List D → Sto → R D := dI1 fun i => .int (if i < 0 then -i else i)
theorem cd_abs : CaD G (fun xs H Q => ∃ i, xs = [.int i] ∧ Q (.int (if i < 0 then -i else i)) H) dAbs := cd_I1 fun _ _ _ => .int _
def dMax2 : List D → Sto → R D := dI2 (fun _ _ => true) fun i j => .int (if j > i then j else i)
def dMin2 : List D → Sto → R D := dI2 (fun _ _ => true) fun i j => .int (if j < i then j else i)
theorem cd_max2 : CaD G (fun xs H Q => ∃ i j, xs = [.int i, .int j] ∧ Q (.int (if j > i then j else i)) H) dMax2 := by
  intro Wq F H β st vs ds Q gd r h
  obtain ⟨i, j, e, _, h⟩ := dI2_ok h
  exact ⟨i, j, two_ints r e, h _ H F β (Ex.refl _) (Pre.refl _) gd (.int _)⟩
theorem cd_min2 : CaD G (fun xs H Q => ∃ i j, xs = [.int i, .int j] ∧ Q (.int (if j < i then j else i)) H) dMin2 := by
  intro Wq F H β st vs ds Q gd r h
  obtain ⟨i, j, e, _, h⟩ := dI2_ok h
  exact ⟨i, j, two_ints r e, h _ H F β (Ex.refl _) (Pre.refl _) gd (.int _)⟩
def dGcd : List D → Sto → R D := dI2 (fun _ _ => true) fun i j => .int ((Nat.gcd i.natAbs j.natAbs : Nat) : Int)
theorem cd_gcd : CaD G rGcd dGcd := by
  intro Wq F H β st vs ds Q gd r h
  obtain ⟨i, j, e, _, h⟩ := dI2_ok h
  exact ⟨i, j, two_ints r e, h _ H F β (Ex.refl _) (Pre.refl _) gd (.int _)⟩
def dInt : List D → Sto → R D := dI1 fun i => .int i
theorem cd_int : CaD G (fun xs H Q => (∃ i, xs = [.int i] ∧ Q (.int i) H) ∨ ∃ k, xs = [.bl k] ∧ Q (.int (if k then 1 else 0)) H) dInt := fun Wq F H β st vs ds Q gd r h =>
  .inl (cd_I1 (g := fun i => .int i) (fun _ _ _ => .int _) Wq F H β st vs ds Q gd r h)
abbrev div30 (_ j : Int) : Bool := decide (0 < j ∧ j < 1073741824)
def dDivmod : List D → Sto → R D := dI2 div30 fun i j => .tup [.int (i / j), .int (i % j)]
theorem cd_divmod : CaD G (fun xs H Q => ∃ i j, xs = [.int i, .int j] ∧ CDiv i j ∧ NewT H [.int (i / j), .int (i % j)] Q) dDivmod := by
  intro Wq F H β st vs ds Q gd r h
  obtain ⟨i, j, e, hc, h⟩ := dI2_ok h
  exact ⟨i, j, two_ints r e, by unfold CDiv; exact of_decide_eq_true hc, fun p o hp po => h _ _ _ β (Ex.new (gd.ex.none hp)) (Pre.refl _) (gd.new hp _) (.tup (.inl ⟨o, upd_same, po⟩) (.cons (.int _) (.cons (.int _) .nil)))⟩
abbrev strOk (i : Int) : Bool := decide (i.natAbs.log2 < 1920)
def dStr : List D → Sto → R D
  | [.int i], st => if strOk i then .ok (.str (toString i)) st else .bad
  | _, _ => .bad
theorem cd_str : CaD G (fun xs H Q => ∃ i, xs = [.int i] ∧ i.natAbs.log2 < 1920 ∧ Q (.str (toString i)) H) dStr := by
  intro Wq F H β st vs ds Q gd r h
  unfold dStr at h
  split at h
  · rename_i i
    split at h
    · rename_i hc
      cases r with
      | cons r1 rr =>
        cases rr
        cases r1
        exact ⟨i, rfl, of_decide_eq_true hc, h _ H F β (Ex.refl _) (Pre.refl _) gd (.str _)⟩
    · exact h.elim
  · exact h.elim

/-! ### all, any, tuple, list, sorted -/
def blsOf : List D → Option (List Bool)
  | [] => some []
  | .bl b :: ds => (blsOf ds).map fun bs => b :: bs
  | _ :: _ => none
theorem bls_rep {F : Hp} {β : List Addr} : ∀ {vs : List V} {ds : List D} {bs : List Bool}, RepAll G.wd G.K G.mg F β vs ds → blsOf ds = some bs → vs = bs.map V.bl
  | _, _, _, .nil, h => by cases h; rfl
  | _, _, _, .cons h1 r, h => by
    cases h1 with
    | bl b =>
      rename_i vs ds
      rw [blsOf] at h
      cases e : blsOf ds with
      | none => rw [e] at h; cases h
      | some bs =>
        rw [e] at h
        cases h
        rw [bls_rep r e]
        rfl
    | _ => cases h
def dBls (f : List Bool → Bool) : List D → Sto → R D
  | [d], st => match lstOf st d with
    | some ds => match blsOf ds with
      | some bs => .ok (.bl (f bs)) st
      | none => .bad
    | none => .bad
  | _, _ => .bad
theorem cd_bls {f : List Bool → Bool} : CaD G (fun vs H Q => ∃ (a : Addr) (bs : List Bool), vs = [V.ref a] ∧ SqL G.K H a (bs.map V.bl) ∧ Q (.bl (f bs)) H) (dBls f) := by
  intro Wq F H β st vs ds Q gd r h
  unfold dBls at h
  split at h
  · rename_i d
    cases r with
    | cons r1 rr =>
      cases rr
      cases el : lstOf st d with
      | none => simp only [el] at h; exact h.elim
      | some es =>
        simp only [el] at h
        cases eb : blsOf es with
        | none => simp only [eb] at h; exact h.elim
        | some bs =>
          simp only [eb] at h
          obtain ⟨a, xs, rfl, s, rr⟩ := gd.lst r1 el
          rw [bls_rep rr eb] at s
          exact ⟨a, bs, rfl, s, h _ H F β (Ex.refl _) (Pre.refl _) gd (.bl _)⟩
  · exact h.elim
def dAll : List D → Sto → R D := dBls fun bs => bs.all id
def dAny : List D → Sto → R D := dBls fun bs => bs.any id
theorem cd_all : CaD G (rAll G.K) dAll := cd_bls
theorem cd_any : CaD G (rAny G.K) dAny := cd_bls
def dTupOf : List D → Sto → R D
  | [d], st => match seqOf st d with
    | some ds => .ok (.tup ds) st
    | none => .bad
  | _, _ => .bad
def dLstOf : List D → Sto → R D
  | [d], st => match seqOf st d with
    | some ds => .ok (.lst ds) st
    | none => .bad
  | _, _ => .bad
theorem cd_tupOf : CaD G (fun xs H Q => ∃ p ys, xs = [.ref p] ∧ ((SqL G.K H p ys ∧ NewT H ys Q) ∨ (SqT G.K H p ys ∧ Q (.ref p) H))) dTupOf := by
  intro Wq F H β st vs ds Q gd r h
  unfold dTupOf at h
  split at h
  · rename_i d
    cases r with
    | cons r1 rr =>
      cases rr
      cases es : seqOf st d with
      | none => simp only [es] at h; exact h.elim
      | some ds =>
        simp only [es] at h
        cases d with
        | tup es' =>
          cases es
          obtain ⟨a, xs, rfl, s', rr⟩ := gd.tupl r1 (show tupOf (.tup ds) = some ds from rfl)
          exact ⟨a, xs, rfl, .inr ⟨s', h _ H F β (Ex.refl _) (Pre.refl _) gd r1⟩⟩
        | _ =>
          obtain ⟨a, xs, rfl, s, rr⟩ := gd.lst r1 es
          exact ⟨a, xs, rfl, .inl ⟨s, fun l o hl po => h _ _ _ β (Ex.new (gd.ex.none hl)) (Pre.refl _) (gd.new hl _) (.tup (.inl ⟨o, upd_same, po⟩) (rr.mono (Ex.new (gd.ex.none hl)) (Pre.refl _)))⟩⟩
  · exact h.elim
theorem cd_lstOf : CaD G (fun xs H Q => ∃ p ys, xs = [.ref p] ∧ (SqL G.K H p ys ∨ SqT G.K H p ys) ∧ ∀ l, H l = none → Q (.ref l) (upd H l (.lst ys))) dLstOf := by
  intro Wq F H β st vs ds Q gd r h
  unfold dLstOf at h
  split at h
  · rename_i d
    cases r with
    | cons r1 rr =>
      cases rr
      cases es : seqOf st d with
      | none => simp only [es] at h; exact h.elim
      | some ds =>
        simp only [es] at h
        obtain ⟨a, xs, rfl, s, rr⟩ := gd.seq r1 es
        exact ⟨a, xs, rfl, s, fun l hl => h _ _ _ β (Ex.new (gd.ex.none hl)) (Pre.refl _) (gd.new hl _) (.lst (SqL.of upd_same) (rr.mono (Ex.new (gd.ex.none hl)) (Pre.refl _)))⟩
  · exact h.elim
def intsOf : List D → Option (List Int)
  | [] => some []
  | .int b :: ds => (intsOf ds).map fun bs => b :: bs
  | _ :: _ => none
theorem ints_rep {F : Hp} {β : List Addr} : ∀ {vs : List V} {ds : List D} {bs : List Int}, RepAll G.wd G.K G.mg F β vs ds → intsOf ds = some bs → vs = bs.map V.int
  | _, _, _, .nil, h => by cases h; rfl
  | _, _, _, .cons h1 r, h => by
    cases h1 with
    | int b =>
      rename_i vs ds
      rw [intsOf] at h
      cases e : intsOf ds with
      | none => rw [e] at h; cases h
      | some bs =>
        rw [e] at h
        cases h
        rw [ints_rep r e]
        rfl
    | _ => cases h
theorem rep_ints {wd : World} {K : PySem.W.Frag} {mg : Str → Option Value} {F : Hp} {β : List Addr} : ∀ ns : List Int, RepAll wd K mg F β (ns.map V.int) (ns.map D.int)
  | [] => .nil
  | n :: ns => .cons (.int n) (rep_ints ns)
/-- the ints in order -/
def sortI (ns : List Int) : List Int := ns.mergeSort fun a b => decide (a ≤ b)
theorem sorted_one : ∀ {l₁ l₂ : List Int}, l₁.Perm l₂ → l₁.Pairwise (· ≤ ·) → l₂.Pairwise (· ≤ ·) → l₁ = l₂
  | [], l₂, p, _, _ => (List.nil_perm.mp p).symm
  | a :: l₁, [], p, _, _ => absurd p.length_eq (by simp)
  | a :: l₁, b :: l₂, p, h1, h2 => by
    rw [List.pairwise_cons] at h1 h2
    have hab : a = b := by
      have ha : a ∈ b :: l₂ := p.subset List.mem_cons_self
      have hb : b ∈ a :: l₁ := p.symm.subset List.mem_cons_self
      have x1 : b ≤ a := by
        rcases List.mem_cons.mp ha with e | e
        · omega
        · exact h2.1 a e
      have x2 : a ≤ b := by
        rcases List.mem_cons.mp hb with e | e
        · omega
        · exact h1.1 b e
      omega
    subst hab
    rw [sorted_one ((List.perm_cons a).mp p) h1.2 h2.2]
theorem sortI_perm (ns : List Int) : (sortI ns).Perm ns := List.mergeSort_perm _ _
theorem sortI_up (ns : List Int) : (sortI ns).Pairwise (· ≤ ·) := by
  have h := List.pairwise_mergeSort (le := fun (a b : Int) => decide (a ≤ b)) (fun a b c h1 h2 => by simp at h1 h2 ⊢; omega) (fun a b => by simp; omega) ns
  exact h.imp fun h => of_decide_eq_true h
theorem sortI_eq {ns l : List Int} (p : l.Perm ns) (h : l.Pairwise (· ≤ ·)) : sortI ns = l := sorted_one ((sortI_perm ns).trans p.symm) (sortI_up ns) h
def dSortI : List D → Sto → R D
  | [d], st => match lstOf st d with
    | some ds => match intsOf ds with
      | some ns => .ok (.lst ((sortI ns).map .int)) st
      | none => .bad
    | none => .bad
  | _, _ => .bad
theorem cd_sortI : CaD G (rSortedI G.K) dSortI := by
  intro Wq F H β st vs ds Q gd r h
  unfold dSortI at h
  split at h
  · rename_i d
    cases r with
    | cons r1 rr =>
      cases rr
      cases el : lstOf st d with
      | none => simp only [el] at h; exact h.elim
      | some es =>
        simp only [el] at h
        cases eb : intsOf es with
        | none => simp only [eb] at h; exact h.elim
        | some ns =>
          simp only [eb] at h
          obtain ⟨a, xs, rfl, s, rr⟩ := gd.lst r1 el
          rw [ints_rep rr eb] at s
          refine ⟨a, ns, rfl, s, fun ns' p hp hs hl => ?_⟩
          rw [← sortI_eq hp hs]
          exact h _ _ _ β (Ex.new (gd.ex.none hl)) (Pre.refl _) (gd.new hl _) (.lst (SqL.of upd_same) (rep_ints _))
  · exact h.elim
end

section
variable {T : List NdefX.NTab} {X : Cx} {W : WX} {e o : Expr} {es : List Expr} {m mo : ME} {ms : MA} {p pos : Pos}
/-! ### methods of built-in types -/
def MeD (G : Gb) (r : V → List V → Hp → VK → Prop) (f : D → List D → Sto → R D) : Prop := ∀ (Wq : Value → Option Addr → Hp → Prop) (F H : Hp) (β : List Addr) (st : Sto) (v : V) (vs : List V) (d : D) (ds : List D) (Q : VK), Good G F H β st → Rep G.wd G.K G.mg F β v d → RepAll G.wd G.K G.mg F β vs ds → PostE G Wq F β Q (f d ds st) → r v vs H Q
/-- which built-in type a value has -/
def tyB (st : Sto) : D → Option String
  | .non => some "NoneType"
  | .bl _ => some "bool"
  | .int _ => some "int"
  | .str _ => some "str"
  | .tup _ => some "tuple"
  | .lst _ => some "list"
  | .dct _ => some "dict"
  | .ref k => match st[k]? with
    | some (.lst _) => some "list"
    | some (.dct _) => some "dict"
    | _ => none
  | _ => none
def mBm (ty : String) (f : D → List D → Sto → R D) (mo : ME) (ms : MA) : ME := fun ρ st => (mo ρ st).bind fun d st => if tyB st d = some ty ∧ (ty = "list" ∨ ty = "str") then (ms ρ st).bind fun ds st => f d ds st else .bad
theorem tyV_of {G : Gb} {F H : Hp} {β : List Addr} {st : Sto} {v : V} {d : D} {ty : String} (g : Good G F H β st) (r : Rep G.wd G.K G.mg F β v d) (h : tyB st d = some ty) (hs : ty = "list" ∨ ty = "str") : tyV G.K ty v H := by
  cases r with
  | str x => cases h; exact rfl
  | @tup a xs ds s r =>
    cases h
    rcases hs with e | e <;> exact absurd e (by decide)
  | @lst a xs ds s r =>
    cases h
    exact .inl ⟨rfl, _, g.ex.sl s⟩
  | @ref n a hb =>
    unfold tyB at h
    simp only at h
    split at h
    · rename_i ds eo
      cases h
      obtain ⟨vs, h1, _⟩ := g.ob n a _ hb eo
      exact .inl ⟨rfl, _, SqL.of h1⟩
    · cases h
      rcases hs with e | e <;> exact absurd e (by decide)
    · cases h
  | non => cases h; rcases hs with e | e <;> exact absurd e (by decide)
  | bl _ => cases h; rcases hs with e | e <;> exact absurd e (by decide)
  | int _ => cases h; rcases hs with e | e <;> exact absurd e (by decide)
  | dK _ _ => cases h; rcases hs with e | e <;> exact absurd e (by decide)
  | dxt _ _ _ => cases h
  | obj _ _ _ => cases h
  | wtp _ _ => cases h
  | gl _ => cases h
theorem ev_bm {ty id : String} {name : Str} {apos cpos : Pos} {r : V → List V → Hp → VK → Prop} {f : D → List D → Sto → R D} (pa : PlainAttrs ty) (slot : Slot ty name id) (hty : typeOf (.builtin id) = pure (.type "method_descriptor")) (hm : MtR X id r) (hr : MeD (gX T X) r f) (ho : EvE T X W o mo) (ha : EvA T X W (e :: es) ms)
    (hbase : attributeBase o name X.env (eval o X.env) = eval o X.env := by rfl)
    (hfew : ((backTo cpos (starEach (e :: es) X.env)).all (fun x => !x.1) && (backToKw cpos (keywordEach [] X.env)).all (fun x => x.1.isSome)
      && decide ((e :: es).length + ([] : List Keyword).length + (if ([] : List Keyword).isEmpty then 0 else 1) < 30)) = true := by rfl)
    (hline : (apos.endLine == cpos.line) = true := by rfl) (hs : starEach (e :: es) X.env = (false, eval e X.env) :: starEach es X.env := by rfl) (hplain : (backTo cpos (starEach es X.env)).any (·.1) = false := by rfl) :
    EvE T X W (.Call (.Attribute o name apos) (e :: es) [] cpos) (mBm ty f mo ms) :=
  pe_imp (pe_bm pa slot hty hm ho ha hbase hfew hline hs hplain) fun σ H Q ⟨F, β, ρ, st, g, er, h⟩ => tM_imp (tM_E g er h) fun v H1 ⟨F1, β1, d, st1, a1, b1, g1, er1, r1, h1⟩ => by
    split at h1
    · rename_i q
      refine ⟨tyV_of g1 r1 q.1 q.2, ?_⟩
      exact tMA_imp (tMA_E g1 er1 h1) fun vs H2 ⟨F2, β2, ds, st2, a2, b2, g2, er2, r2, h2⟩ => hr _ F2 H2 β2 st2 v vs d ds Q g2 (r1.mono a2 b2) r2 h2
    · exact h1.elim
theorem ev_bm0 {ty id : String} {name : Str} {apos cpos : Pos} {r : V → List V → Hp → VK → Prop} {f : D → List D → Sto → R D} (pa : PlainAttrs ty) (slot : Slot ty name id) (hty : typeOf (.builtin id) = pure (.type "method_descriptor")) (hm : MtR X id r) (hr : MeD (gX T X) r f) (ho : EvE T X W o mo)
    (hbase : attributeBase o name X.env (eval o X.env) = eval o X.env := by rfl) (hline : (apos.endLine == cpos.line) = true := by rfl) : EvE T X W (.Call (.Attribute o name apos) [] [] cpos) (mBm ty f mo mNil) :=
  pe_imp (pe_bm0 pa slot hty hm ho hbase hline) fun σ H Q ⟨F, β, ρ, st, g, er, h⟩ => tM_imp (tM_E g er h) fun v H1 ⟨F1, β1, d, st1, a1, b1, g1, er1, r1, h1⟩ => by
    split at h1
    · rename_i q
      exact ⟨tyV_of g1 r1 q.1 q.2, hr _ F1 H1 β1 st1 v [] d [] Q g1 r1 .nil h1⟩
    · exact h1.elim
/-- a list of the store changed by a method -/
theorem store_lst {G : Gb} {F H : Hp} {β : List Addr} {st : Sto} {v : V} {k : Nat} {ds : List D} (g : Good G F H β st) (r : Rep G.wd G.K G.mg F β v (.ref k)) (h : st[k]? = some (.lst ds)) : ∃ a vs, v = .ref a ∧ β[k]? = some a ∧ H a = some (.lst vs) ∧ RepAll G.wd G.K G.mg F (β.take k) vs ds := by
  cases r with
  | ref hb =>
    obtain ⟨vs, h1, r⟩ := g.ob k _ _ hb h
    exact ⟨_, vs, rfl, hb, h1, r⟩
def dAppend : D → List D → Sto → R D
  | .ref k, [y], st => match st[k]? with
    | some (.lst ds) => if ds.length < sizeLine ∧ lowD k y = true then .ok .non (st.set k (.lst (ds ++ [y]))) else .bad
    | _ => .bad
  | _, _, _ => .bad
theorem md_append {G : Gb} : MeD G rAppend dAppend := by
  intro Wq F H β st v vs d ds Q g r rs h
  unfold dAppend at h
  split at h
  · rename_i k y
    cases rs with
    | @cons u us _ _ r1 rr =>
      cases rr
      split at h
      · rename_i es eo
        split at h
        · rename_i q
          obtain ⟨a, xs, rfl, hb, h1, r2⟩ := store_lst g r eo
          exact ⟨a, xs, u, rfl, rfl, h1, by rw [r2.length]; exact q.1, h _ _ F β (Ex.refl _) (Pre.refl _) (g.put (u := .lst (es ++ [y])) hb ⟨_, upd_same, r2.append (.cons (r1.low q.2) .nil)⟩) .non⟩
        · exact h.elim
      · exact h.elim
  · exact h.elim
/-- xs.pop() -/
def dPop : D → List D → Sto → R D
  | .ref k, [], st => match st[k]? with
    | some (.lst ds) => match ds[ds.length - 1]? with
      | some y => .ok y (st.set k (.lst ds.dropLast))
      | none => .bad
    | _ => .bad
  | _, _, _ => .bad
theorem RepAll.dropLast {wd : World} {K : PySem.W.Frag} {mg : Str → Option Value} {F : Hp} {β : List Addr} {vs : List V} {ds : List D} (r : RepAll wd K mg F β vs ds) : RepAll wd K mg F β vs.dropLast ds.dropLast := by
  rw [List.dropLast_eq_take, List.dropLast_eq_take, r.length]
  exact r.take _
theorem md_pop {G : Gb} : MeD G rPop dPop := by
  intro Wq F H β st v vs d ds Q g r rs h
  unfold dPop at h
  split at h
  · rename_i k
    cases rs
    split at h
    · rename_i es eo
      split at h
      · rename_i y ey
        obtain ⟨a, xs, rfl, hb, h1, r2⟩ := store_lst g r eo
        obtain ⟨u, hu, ru⟩ := r2.get ey
        exact ⟨a, xs, u, rfl, rfl, h1, by rw [r2.length]; exact hu, h _ _ F β (Ex.refl _) (Pre.refl _) (g.put (u := .lst es.dropLast) hb ⟨_, upd_same, r2.dropLast⟩) (ru.mono (Ex.refl _) (pre_take k))⟩
      · exact h.elim
    · exact h.elim
  · exact h.elim
/-- xs.pop(i), i from 0 -/
def dPopAt : D → List D → Sto → R D
  | .ref k, [.int i], st => match st[k]? with
    | some (.lst ds) => if 0 ≤ i ∧ i < ds.length ∧ ds.length ≤ sizeLine then (match ds[i.toNat]? with
      | some y => .ok y (st.set k (.lst (ds.eraseIdx i.toNat)))
      | none => .bad) else .bad
    | _ => .bad
  | _, _, _ => .bad
theorem md_popAt {G : Gb} : MeD G rPopAt dPopAt := by
  intro Wq F H β st v vs d ds Q g r rs h
  unfold dPopAt at h
  split at h
  · rename_i k i
    cases rs with
    | cons r1 rr =>
      cases rr
      cases r1
      split at h
      · rename_i es eo
        split at h
        · rename_i q
          split at h
          · rename_i y ey
            obtain ⟨a, xs, rfl, hb, h1, r2⟩ := store_lst g r eo
            obtain ⟨u, hu, ru⟩ := r2.get ey
            have hl := r2.length
            have h63 := line63
            refine ⟨a, xs, i, i.toNat, u, rfl, rfl, h1, by omega, by omega, ?_, hu, h _ _ F β (Ex.refl _) (Pre.refl _) (g.put (u := .lst (es.eraseIdx i.toNat)) hb ⟨_, upd_same, r2.eraseIdx _⟩) (ru.mono (Ex.refl _) (pre_take k))⟩
            exact seqIndex_of q.1 (by omega)
          · exact h.elim
        · exact h.elim
      · exact h.elim
  · exact h.elim
end
end DM

end

section
set_option Elab.async false
set_option linter.all false
set_option maxRecDepth 100000
set_option maxHeartbeats 2000000
/-! DMj: kinds, objects made and compared, slices, more statements. -/
namespace DM
open PySem PySem.Spec PyProof.Rows L2
/-! ### isinstance -/
/-- the built-in types that data has, and those that are asked for -/
def isB (ty t : String) : Bool := ty == t || (ty == "bool" && t == "int")
def ty7 : List String := ["NoneType", "bool", "int", "str", "tuple", "list", "dict"]
theorem kit7 {K : PySem.W.Frag} : ∀ ty ∈ ty7, ∀ t ∈ ty7, PySem.W.kitOne K (.type ty) (.type t) = some (isB ty t) := by
  have key : (ty7.all fun ty => ty7.all fun t => decide (kitB ty t = some (isB ty t))) = true := by decide +kernel
  intro ty h t h'
  have a := List.all_eq_true.mp key ty h
  have b := List.all_eq_true.mp a t h'
  exact kit_ty (of_decide_eq_true b)
theorem tyB_mem {st : Sto} {d : D} {ty : String} (h : tyB st d = some ty) : ty ∈ ty7 := by
  unfold tyB at h
  split at h <;> first | (cases h; decide) | (split at h <;> first | (cases h; decide) | cases h) | cases h
/-- what a class of one's own is asked -/
structure ClsI (K : PySem.W.Frag) (C : Addr) : Prop where
  cl : Cls K C
  ha : PySem.W.findIn K (.ref C) "__class__" = some (some (.builtin "object.__class__"))
  hm : PySem.W.mroIn K C (.type "object") = some true
  b1 : (ty7.all fun ty => decide (PySem.W.kitOne K (.type ty) (.ref C) = some false)) = true
  b2 : (ty7.all fun t => decide (PySem.W.kitOne K (.ref C) (.type t) = some false)) = true
  hn : PySem.W.specialIn K (.builtin "object.__class__") "__get__" = some (some (.builtin "getset_descriptor.__get__"))
  htk : PySem.W.takesIn K (.builtin "object.__class__") = some true
/-- the classes of one's own whose objects are asked, unlike ones apart -/
def ClsT (K : PySem.W.Frag) (mg : Str → Option Value) (cs : List Str) : Prop := ∀ c ∈ cs, ∃ C, mg c = some (.ref C) ∧ ClsI K C ∧ ∀ c' ∈ cs, c' ≠ c → ∃ C', mg c' = some (.ref C') ∧ PySem.W.kitOne K (.ref C) (.ref C') = some false
theorem tyX_of {G : Gb} {F H : Hp} {β : List Addr} {st : Sto} {v : V} {d : D} {ty : String} (g : Good G F H β st) (r : Rep G.wd G.K G.mg F β v d) (h : tyB st d = some ty) : TyX G.K H v (.type ty) := by
  have sl : ∀ {a : Addr} {xs : List V}, SqL G.K H a xs → TyX G.K H (.ref a) (.type "list") := fun {a xs} s => by
    rcases s with (s | ⟨o, s⟩) | ⟨o, its, n, h1, h2, _⟩
    · exact .base (.lst s)
    · exact .base (.frz s)
    · exact .kList h1 h2
  cases r with
  | non => cases h; exact .base .non
  | bl b => cases h; exact .base (.bl b)
  | int i => cases h; exact .base (.int i)
  | str x => cases h; exact .base (.str x)
  | tup s r =>
    cases h
    rcases s with ⟨o, s, _⟩ | ⟨o, its, n, h1, h2, _⟩
    · exact .fTuple (g.ex _ _ s)
    · exact .kTuple h1 h2.1
  | lst s r => cases h; exact sl (g.ex.sl s)
  | dK s r =>
    cases h
    rcases s with s | ⟨o, s⟩
    · exact .base (.dK (g.ex _ _ s))
    · exact .fDict (g.ex _ _ s)
  | dxt s hk r => cases h
  | obj s hc r => cases h
  | wtp s r => cases h
  | gl s => cases h
  | @ref n a hb =>
    unfold tyB at h
    simp only at h
    split at h
    · rename_i ds eo
      cases h
      obtain ⟨vs, h1, _⟩ := g.ob n a _ hb eo
      exact sl (SqL.of h1)
    · rename_i kvs eo
      cases h
      obtain ⟨ks, ws, h1, _⟩ := g.ob n a _ hb eo
      exact .base (.dK h1)
    · cases h
section
variable {T : List NdefX.NTab} {X : Cx} {W : WX} {E : XK} {e o : Expr} {es : List Expr} {m mo ma mb : ME} {ms : MA} {p p2 pos apos : Pos}
/-- isinstance(e, T), T built in -/
def mIsB (cs : List Str) (t : String) (m : ME) : ME := fun ρ st => (m ρ st).bind fun d st => match insOf st d with
  | some (c, _) => if c ∈ cs then .ok (.bl false) st else .bad
  | none => match tyB st d with
    | some ty => .ok (.bl (isB ty t)) st
    | none => .bad
theorem ev_isB {cs : List Str} {t : String} {x : Str} (ct : ClsT X.K X.mg cs) (he : EvE T X W e m) (hm : X.mg "isinstance" = none) (hx : X.mg x = none) (hv : bootBuiltins x = some (.type t)) (ht : t ∈ ty7 := by decide) (hg : Gl X "isinstance" := by rfl) (hgx : Gl X x := by rfl) (hnx : x ≠ "__name__" := by decide) (hdx : (x == ("__debug__" : Str)) = false := by decide)
    (hs : starEach [e, .Name x p2] X.env = (false, eval e X.env) :: starEach [.Name x p2] X.env := by rfl) (hpl : (backTo pos (starEach [.Name x p2] X.env)).any (·.1) = false := by rfl) (hs2 : starEach [.Name x p2] X.env = (false, eval (.Name x p2) X.env) :: starEach [] X.env := by rfl) :
    EvE T X W (.Call (.Name "isinstance" p) [e, .Name x p2] [] pos) (mIsB cs t m) := by
  refine pe_imp (pe_callB call_isi hg hm (by decide +kernel) (pa_cons he (pa_cons (pe_bltn (v := .ty t) hgx hx hv rfl hnx hdx) pa_nil hs2) hs) (by decide) (by decide) hs hpl) fun σ H Q ⟨F, β, ρ, st, g, er, h⟩ => tM_imp (tM_E g er h) fun v H1 ⟨F1, β1, d, st1, a1, b1, g1, er1, r1, h1⟩ => ?_
  cases ei : insOf st1 d with
  | some cf =>
    obtain ⟨c, fs⟩ := cf
    rw [ei] at h1
    dsimp only at h1
    split at h1
    · rename_i hc
      obtain ⟨C, hC, ci, _⟩ := ct c hc
      obtain ⟨a, C', dx, gs, ws, rfl, hC', ho, _⟩ := g1.insR r1 ei
      have hC' : X.mg c = some (.ref C') := hC'
      rw [hC] at hC'; cases hC'
      have k2 := of_decide_eq_true (List.all_eq_true.mp ci.b2 t ht)
      exact ⟨.ref a, .ty t, .ref C, .type t, false, rfl, .ty t, .base (.ins ho ci.cl ci.ha ci.hn ci.htk ci.hm), k2, h1 _ H1 F1 β1 (Ex.refl _) (Pre.refl _) g1 (.bl _)⟩
    · exact h1.elim
  | none =>
    rw [ei] at h1
    dsimp only at h1
    cases et : tyB st1 d with
    | none => rw [et] at h1; exact h1.elim
    | some ty =>
      rw [et] at h1
      exact ⟨v, .ty t, .type ty, .type t, _, rfl, .ty t, tyX_of g1 r1 et, kit7 ty (tyB_mem et) t ht, h1 _ H1 F1 β1 (Ex.refl _) (Pre.refl _) g1 (.bl _)⟩
/-- isinstance(e, C), C of one's own -/
def mIsC (cs : List Str) (c : Str) (m : ME) : ME := fun ρ st => (m ρ st).bind fun d st => match insOf st d with
  | some (c', _) => if c' ∈ cs then .ok (.bl (decide (c' = c))) st else .bad
  | none => match tyB st d with
    | some _ => .ok (.bl false) st
    | none => .bad
theorem ev_isC {cs : List Str} {c : Str} (ct : ClsT X.K X.mg cs) (he : EvE T X W e m) (hm : X.mg "isinstance" = none) (hcs : c ∈ cs := by decide) (hg : Gl X "isinstance" := by rfl) (hgx : Gl X c := by rfl) (hdx : (c == ("__debug__" : Str)) = false := by decide)
    (hs : starEach [e, .Name c p2] X.env = (false, eval e X.env) :: starEach [.Name c p2] X.env := by rfl) (hpl : (backTo pos (starEach [.Name c p2] X.env)).any (·.1) = false := by rfl) (hs2 : starEach [.Name c p2] X.env = (false, eval (.Name c p2) X.env) :: starEach [] X.env := by rfl) :
    EvE T X W (.Call (.Name "isinstance" p) [e, .Name c p2] [] pos) (mIsC cs c m) := by
  obtain ⟨C, hC, ci, _⟩ := ct c hcs
  refine pe_imp (pe_callB call_isi hg hm (by decide +kernel) (pa_cons he (pa_cons (pe_glob (v := .ref C) hgx hC rfl hdx) pa_nil hs2) hs) (by decide) (by decide) hs hpl) fun σ H Q ⟨F, β, ρ, st, g, er, h⟩ => tM_imp (tM_E g er h) fun v H1 ⟨F1, β1, d, st1, a1, b1, g1, er1, r1, h1⟩ => ?_
  cases ei : insOf st1 d with
  | some cf =>
    obtain ⟨c', fs⟩ := cf
    rw [ei] at h1
    dsimp only at h1
    split at h1
    · rename_i hc
      obtain ⟨C1, hC1, ci1, ne⟩ := ct c' hc
      obtain ⟨a, C', dx, gs, ws, rfl, hC', ho, _⟩ := g1.insR r1 ei
      have hC' : X.mg c' = some (.ref C') := hC'
      rw [hC1] at hC'; cases hC'
      refine ⟨.ref a, .ref C, .ref C1, .ref C, decide (c' = c), rfl, .own C, .base (.ins ho ci1.cl ci1.ha ci1.hn ci1.htk ci1.hm), ?_, h1 _ H1 F1 β1 (Ex.refl _) (Pre.refl _) g1 (.bl _)⟩
      by_cases q : c' = c
      · subst q
        rw [hC] at hC1; cases hC1
        unfold PySem.W.kitOne
        simp
      · obtain ⟨C2, hC2, k⟩ := ne c hcs (Ne.symm q)
        rw [hC] at hC2; cases hC2
        rw [k, decide_eq_false q]
    · exact h1.elim
  | none =>
    rw [ei] at h1
    dsimp only at h1
    cases et : tyB st1 d with
    | none => rw [et] at h1; exact h1.elim
    | some ty =>
      rw [et] at h1
      have k1 := of_decide_eq_true (List.all_eq_true.mp ci.b1 ty (tyB_mem et))
      exact ⟨v, .ref C, .type ty, .ref C, false, rfl, .own C, tyX_of g1 r1 et, k1, h1 _ H1 F1 β1 (Ex.refl _) (Pre.refl _) g1 (.bl _)⟩

/-! ### objects made -/
/-- C(e, ..): __init__'s mirror f is given the new object, which never changes from then on, or (frz = false) is a thing of the store -/
def mMake (frz : Bool) (c : Str) (n : Nat) (f : List D → Sto → R D) (ms : MA) : ME := fun ρ st => (ms ρ st).bind fun ds st =>
  (if (D.ref st.length :: ds).length = n then f (.ref st.length :: ds) (st ++ [.ins c []]) else .bad).bind fun v st' => match v with
    | .non => if st'.length = st.length + 1 then (match st'[st.length]? with
      | some (.ins c' fs) => if frz then (if lowF st.length fs then .ok (.obj c' fs) (st'.take st.length) else .bad) else .ok (.ref st.length) st'
      | _ => .bad) else .bad
    | _ => .bad
theorem make_step {frz : Bool} {c : Str} {C : Addr} {n : Nat} {mf : List D → Sto → R D} {σ : L2.St} {F1 H1 : Hp} {β1 : List Addr} {st1 : Sto} {vs : List V} {ds : List D} {Q : VK} {ρ : En} (hm : X.mg c = some (.ref C)) (g1 : Good (gX T X) F1 H1 β1 st1) (r1 : RepAll X.w X.K X.mg F1 β1 vs ds)
    (h1 : PostE (gX T X) (wAt (wF E) σ) F1 β1 Q (mMake frz c n mf (fun _ st => .ok ds st) ρ st1)) : ∀ x dx, H1 x = none → H1 dx = none → dx ≠ x → spM (gX T X) n mf (.ref x :: vs) (upd (upd H1 dx (.own x)) x (.ins C dx [])) (fun v H3 => v = .non ∧ Q (.ref x) H3) E := by
    unfold mMake at h1
    rw [R.bind_ok] at h1
    intro x dx hx hdx hne
    have g2 := g1.beside hdx (.own x)
    have hx2 : (upd H1 dx (.own x)) x = none := by rw [upd_ne (Ne.symm hne)]; exact hx
    have g3 := g2.lay (p := x) (o := .ins C dx []) (u := .ins c []) hx2 ⟨C, dx, [], [], hm, upd_same, .nil, rfl⟩
    refine ⟨F1, β1 ++ [x], st1 ++ [.ins c []], .ref st1.length :: ds, g3, ?_, ?_⟩
    · exact .cons (ref_last g1.len) (r1.mono (Ex.refl _) (pre_app _ _))
    · split
      · rename_i hn
        simp only [hn, if_true] at h1
        cases ef : mf (.ref st1.length :: ds) (st1 ++ [.ins c []]) with
        | bad => rw [ef] at h1; exact h1
        | exc c fs st2 =>
          rw [ef] at h1
          exact fun cls d H' F' β' a b gd x => h1 cls d H' F' β' a ((pre_app _ _).trans b) gd x
        | ok w st2 =>
          rw [ef] at h1
          intro v H' F' β' a b gd rv
          simp only [R.bind_ok] at h1
          cases rv with
          | non =>
            refine ⟨rfl, ?_⟩
            dsimp only at h1
            split at h1
            · rename_i hl
              have hbx : β'[st1.length]? = some x := b _ _ (by rw [← g1.len, List.getElem?_append_right (Nat.le_refl _)]; simp)
              split at h1
              · rename_i c' fs eo
                cases frz with
                | false => exact h1 _ H' F' β' a ((pre_app _ _).trans b) gd (.ref hbx)
                | true =>
                  simp only [if_true] at h1
                  split at h1
                  · rename_i hlow
                    obtain ⟨C', dx', gs, ws, z0, z1, z2, rfl⟩ := gd.ob _ _ _ hbx eo
                    refine h1 _ H' _ (β'.take st1.length) (a.trans (Ex.new (gd.sep _ _ hbx))) (pre_cut ((pre_app _ _).trans b) g1.len) (gd.freeze (Nat.le_refl _) hbx z1) (.obj upd_same z0 (z2.mono (Ex.new (gd.sep _ _ hbx)) (Pre.refl _)))
                  · exact h1.elim
              · exact h1.elim
            · exact h1.elim
          | _ => exact h1.elim
      · rename_i hn
        simp only [hn, if_false] at h1
        exact h1
theorem ev_make {frz : Bool} {c : Str} {C f : Addr} {k n : Nat} {fd : FuncData} {ps : List Str} {mf : List D → Sto → R D} (M : Mk X.K C f) (F : FnOk X.prog X.w X.K X.mg X.base (L2.CX X.prog X.w) k f fd ps (spM (gX T X) n mf)) (hr : Room (k + 1) X.A) (hm : X.mg c = some (.ref C)) (hb : Binds X.K fd ps []) (tk : Takes X (wF E))
    (ha : EvA T X (wF E) (e :: es) ms) (hg : Gl X c := by rfl) (hdb : (c == ("__debug__" : Str)) = false := by decide) (he : starEach (e :: es) X.env = (false, eval e X.env) :: starEach es X.env := by rfl) (hpl : (backTo pos (starEach es X.env)).any (·.1) = false := by rfl) :
    EvE T X (wF E) (.Call (.Name c p) (e :: es) [] pos) (mMake frz c n mf ms) :=
  pe_imp (pe_make M F hr hg hm hb .nil (passes_call tk fun _ _ _ _ h => h) ha hdb he hpl) fun σ H Q ⟨F0, β, ρ, st, g, er, h⟩ => tMA_imp (tMA_E g er h) fun vs H1 ⟨F1, β1, ds, st1, a1, b1, g1, er1, r1, h1⟩ => by
    intro x dx hx hdx hne
    rw [List.append_nil]
    exact make_step (ρ := ρ) hm g1 r1 h1 x dx hx hdx hne
end
end DM

end

section
set_option Elab.async false
set_option linter.all false
set_option maxRecDepth 100000
set_option maxHeartbeats 2000000
/-! DMk: dicts whose keys are tuples. -/
namespace DM
open PySem PySem.Spec PyProof.Rows L2
/-! ### tables -/
abbrev KVX := List (List Key × Addr × V)
def valX (kvs : KVX) (k : List Key) : Option V := (kvs.find? fun x => decide (x.1 = k)).map (·.2.2)
def putX (kvs : KVX) (k : List Key) (b : Addr) (v : V) : KVX := if (valX kvs k).isSome then kvs.map (fun x => if x.1 = k then (x.1, x.2.1, v) else x) else kvs ++ [(k, b, v)]
def getK (kvs : List (List Key × D)) (k : List Key) : Option D := (kvs.find? fun x => decide (x.1 = k)).map (·.2)
def putKD (kvs : List (List Key × D)) (k : List Key) (d : D) : List (List Key × D) := if (getK kvs k).isSome then kvs.map (fun x => if x.1 = k then (x.1, d) else x) else kvs ++ [(k, d)]
abbrev XP : KVX → List (List Key × Addr × Value) → Prop := Paired fun p q => p.1 = q.1 ∧ p.2.1 = q.2.1 ∧ RelV p.2.2 q.2.2
theorem XP.val {kvs : KVX} {xs : List (List Key × Addr × Value)} (r : XP kvs xs) (k : List Key) : RelO (valX kvs k) ((atKey xs k).map (·.2)) := by
  induction r with
  | nil => exact True.intro
  | @cons p q ps qs h t ih =>
    obtain ⟨h1, _, h2⟩ := h
    unfold valX atKey at ih ⊢
    rw [List.find?_cons, List.find?_cons, ← h1]
    by_cases e : p.1 = k
    · simp only [e, decide_true]
      exact h2
    · simp only [e, decide_false]
      exact ih
theorem XP.put {kvs : KVX} {xs : List (List Key × Addr × Value)} (r : XP kvs xs) (k : List Key) (b : Addr) {y : V} {u : Value} (ry : RelV y u) : XP (putX kvs k b y) (storedH xs k b u) := by
  have e : (valX kvs k).isSome = (atKey xs k).isSome := by
    have := (r.val k).isSome_eq
    rw [this, Option.isSome_map]
  unfold putX storedH
  rw [e]
  split
  · clear e
    induction r with
    | nil => exact .nil
    | @cons p q ps qs h t ih =>
      rename_i hs
      rw [List.map_cons, List.map_cons]
      obtain ⟨h1, h2, h3⟩ := h
      have tl : XP (ps.map (fun x => if x.1 = k then (x.1, x.2.1, y) else x)) (qs.map (putAt k u)) := by
        clear ih hs
        induction t with
        | nil => exact .nil
        | @cons p q ps qs h t ih =>
          rw [List.map_cons, List.map_cons]
          obtain ⟨h1, h2, h3⟩ := h
          refine .cons ?_ ih
          unfold putAt
          by_cases e : p.1 = k
          · rw [if_pos e, if_pos (h1.symm.trans e)]; exact ⟨h1, h2, ry⟩
          · rw [if_neg e, if_neg (fun z => e (h1.trans z))]; exact ⟨h1, h2, h3⟩
      refine .cons ?_ tl
      unfold putAt
      by_cases e : p.1 = k
      · rw [if_pos e, if_pos (h1.symm.trans e)]; exact ⟨h1, h2, ry⟩
      · rw [if_neg e, if_neg (fun z => e (h1.trans z))]; exact ⟨h1, h2, h3⟩
  · exact Paired.snoc r ⟨rfl, rfl, ry⟩
theorem putX_len (kvs : KVX) (k : List Key) (b : Addr) (v : V) : (putX kvs k b v).length ≤ kvs.length + 1 := by
  unfold putX
  split
  · rw [List.length_map]; omega
  · rw [List.length_append]; simp
/-! ### the heap -/
section
variable {X : Cx} {pins : List (Addr × Obj)} {σ : L2.St} {H : Hp} {s : Shared} {a b : Addr} {kvs : KVX} {k : List Key} {v : V} {r : Value} {A : Around} {E : Value → Shared → Prop}
theorem key_at (I : Inv X pins σ H s) (h : SqT X.K H b (k.map kV)) : (tupleKind (mixKind X.prog X.w)).is s.heap k b := by
  obtain ⟨its, r, ⟨o, h1, h2, n, h3⟩, _⟩ := I.tuple h
  exact ⟨o, its.toArray, n, h1, h2, h3, by simpa using items_are r⟩
/-- each key's tuple is known -/
abbrev Keyed (K : PySem.W.Frag) (H : Hp) (kvs : KVX) : Prop := ∀ p ∈ kvs, SqT K H p.2.1 (p.1.map kV)
theorem dx_at (I : Inv X pins σ H s) (e : H a = some (HX X.w a kvs)) (hk : Keyed X.K H kvs) : kvs.length ≤ sizeLine ∧ (a == sysModules) = false ∧ ∃ xs, XP kvs xs ∧ s.heap.DictOfH (tupleKind (mixKind X.prog X.w)) a xs := by
  obtain ⟨⟨z, y, xs, r, o, es, ep, h1, h2, h3, h4, h5⟩, _, _⟩ := (show ObjOk X.prog X.w H s.heap a (HX X.w a kvs) from I.hok a _ e)
  refine ⟨z, y, xs, r, o, es, ep, h1, h2, h3, h4, fun x hx => ?_, h5⟩
  have all : ∀ {l : KVX} {m : List (List Key × Addr × Value)}, XP l m → (∀ p ∈ l, SqT X.K H p.2.1 (p.1.map kV)) → ∀ x ∈ m, (tupleKind (mixKind X.prog X.w)).is s.heap x.1 x.2.1 := by
    intro l m q
    induction q with
    | nil => intro _ x hx; exact nomatch hx
    | @cons p q ps qs hq t ih =>
      intro hl x hx
      rcases List.mem_cons.mp hx with e | hx
      · subst e
        rw [← hq.1, ← hq.2.1]
        exact key_at I (hl p List.mem_cons_self)
      · exact ih (fun p hp => hl p (List.mem_cons_of_mem _ hp)) x hx
  exact all r hk x hx
theorem dx_new {H' : Hp} {h' : Heap} {xs : List (List Key × Addr × Value)} (z : kvs.length ≤ sizeLine) (y : (a == sysModules) = false) (r : XP kvs xs) (d : h'.DictOfH (tupleKind (mixKind X.prog X.w)) a xs) : ObjOk X.prog X.w H' h' a (HX X.w a kvs) := by
  obtain ⟨o, es, ep, h1, h2, h3, h4, h5, h6⟩ := d
  refine ⟨⟨z, y, xs, r, o, es, ep, h1, h2, h3, h4, h6⟩, ⟨o, h1⟩, ?_⟩
  rintro g1 g2 ⟨z, y, xs, r, o, es, ep, h1, h2⟩ st
  exact ⟨z, y, xs, r, o, es, ep, st o h1, h2⟩
theorem dx_getItem {Q : Value → Shared → Prop} (hu : A.units + 1 < cLine) (I : Inv X pins σ H s) (e : H a = some (HX X.w a kvs)) (hk : Keyed X.K H kvs) (hb : SqT X.K H b (k.map kV)) (l : valX kvs k = some v) (h : ∀ w' s', Inv X pins σ H s' → RelV v w' → Q w' s') :
    wpAny (model X.prog X.w) A (getItem (.ref a) (.ref b)) Q E s := by
  obtain ⟨z, hd, xs, rel, dd⟩ := dx_at I e hk
  obtain ⟨w', hw, rw'⟩ := RelO.some_of (v := v) (o := (atKey xs k).map (·.2)) (by rw [← l]; exact rel.val k)
  obtain ⟨p, hp, hp2⟩ := Option.map_eq_some_iff.mp hw
  refine wpAny_getItem_heap (tupleKind_room_in1 hu) (key_at I hb) dd hp ?_
  rw [hp2]
  exact h w' _ (I.tok _) rw'
theorem dx_in {Q : Value → Shared → Prop} (hu : A.units + 1 < cLine) (I : Inv X pins σ H s) (e : H a = some (HX X.w a kvs)) (hk : Keyed X.K H kvs) (hb : SqT X.K H b (k.map kV)) (h : ∀ s', Inv X pins σ H s' → Q (.bool (valX kvs k).isSome) s') :
    wpAny (model X.prog X.w) A (compareOp .In (.ref b) (.ref a)) Q E s := by
  obtain ⟨z, hd, xs, rel, dd⟩ := dx_at I e hk
  refine wpAny_in_heap (tupleKind_room_in1 hu) (key_at I hb) hd dd ?_
  have q := (rel.val k).isSome_eq
  rw [Option.isSome_map] at q
  rw [← q]
  exact h _ (I.tok _)
theorem dx_notIn {Q : Value → Shared → Prop} (hu : A.units + 1 < cLine) (I : Inv X pins σ H s) (e : H a = some (HX X.w a kvs)) (hk : Keyed X.K H kvs) (hb : SqT X.K H b (k.map kV)) (h : ∀ s', Inv X pins σ H s' → Q (.bool (!(valX kvs k).isSome)) s') :
    wpAny (model X.prog X.w) A (compareOp .NotIn (.ref b) (.ref a)) Q E s := by
  obtain ⟨z, hd, xs, rel, dd⟩ := dx_at I e hk
  refine wpAny_notIn_heap (tupleKind_room_in1 hu) (key_at I hb) hd dd ?_
  have q := (rel.val k).isSome_eq
  rw [Option.isSome_map] at q
  rw [← q]
  exact h _ (I.tok _)
theorem dx_write {h' : Heap} {t' : Nat} {kvs' : KVX} {xs : List (List Key × Addr × Value)} (I : Inv X pins σ H s) (e : H a = some (HX X.w a kvs)) (hs : Heap.SameBut a s.heap h') (z : kvs'.length ≤ sizeLine) (y : (a == sysModules) = false) (r : XP kvs' xs) (d : h'.DictOfH (tupleKind (mixKind X.prog X.w)) a xs) :
    Inv X pins σ (upd H a (HX X.w a kvs')) { s with heap := h', toks := t' } := by
  have he : ∃ q, h'.get? a = some q := let ⟨q, _, _, hq, _⟩ := d; ⟨q, hq⟩
  exact I.write (x := a) (e := a) (by rw [e]; exact True.intro) (.inl rfl) (fun b q hb z => (hs.2 b hb).trans z) he (dx_new z y r d)
theorem dx_setItem {Q : Unit → Shared → Prop} (hu : A.units + 1 < cLine) (I : Inv X pins σ H s) (e : H a = some (HX X.w a kvs)) (hk : Keyed X.K H kvs) (hb : SqT X.K H b (k.map kV)) (hl : kvs.length < sizeLine) (rv : RelV v r) (h : ∀ s', Inv X pins σ (upd H a (HX X.w a (putX kvs k b v))) s' → Q () s') :
    wpAny (model X.prog X.w) A (setItem (.ref a) (.ref b) r) Q E s := by
  obtain ⟨z, hd, xs, rel, dd⟩ := dx_at I e hk
  have hz : xs.length ≤ sizeLine := by rw [← Paired.length rel]; exact z
  have hl : (putX kvs k b v).length ≤ sizeLine := by have := putX_len kvs k b v; omega
  exact wpAny_setItem_heap (hsz := hz) (tupleKind_room_in1 hu) (key_at I hb) dd fun h' dd' hs => h _ (dx_write I e hs hl hd (rel.put k b rv) dd')
theorem dx_fresh (I : Inv X pins σ H s) (t' : Nat) : Inv X pins σ (upd H s.heap.objs.size (HX X.w s.heap.objs.size [])) { s with heap := s.heap.push { cls := .type "dict", data := .dict #[] }, toks := t' } :=
  I.laid (t' := t') (fun _ _ q => Heap.get?_push_of_some _ q) (Nat.le_refl _) (dx_new (Nat.zero_le _) (beq_eq_false_iff_ne.mpr (Ne.symm (Nat.ne_of_lt I.big))) .nil (Heap.DictOfH.new _))
end
end DM

end

section
set_option Elab.async false
set_option linter.all false
set_option maxRecDepth 100000
set_option maxHeartbeats 2000000
/-! DMl: rules of dicts whose keys are tuples. -/
namespace DM
open PySem PySem.Spec PyProof.Rows L2
def keyOf : D → Option Key
  | .int i => some (.inl i)
  | .str s => some (.inr s)
  | _ => none
def keysOf : List D → Option (List Key)
  | [] => some []
  | d :: ds => (keyOf d).bind fun k => (keysOf ds).map fun ks => k :: ks
def keyT : D → Option (List Key)
  | .tup ds => keysOf ds
  | _ => none
section
variable {wd : World} {K : PySem.W.Frag} {mg : Str → Option Value} {F H : Hp} {β : List Addr} {G : Gb} {st : Sto}
theorem rep_key {v : V} {d : D} {k : Key} (r : Rep wd K mg F β v d) (h : keyOf d = some k) : v = kV k := by
  cases r <;> cases h <;> rfl
theorem rep_keys : ∀ {vs : List V} {ds : List D} {ks : List Key}, RepAll wd K mg F β vs ds → keysOf ds = some ks → vs = ks.map kV
  | _, _, _, .nil, h => by cases h; rfl
  | _, _, _, .cons (d := d) (ds := ds) h1 r, h => by
    rw [keysOf] at h
    cases e1 : keyOf d with
    | none => rw [e1] at h; cases h
    | some k =>
      rw [e1] at h
      cases e2 : keysOf ds with
      | none => rw [e2] at h; cases h
      | some ks =>
        rw [e2] at h
        cases h
        rw [List.map_cons, rep_key h1 e1, rep_keys r e2]
theorem rep_keyV (k : Key) : Rep wd K mg F β (kV k) (keyD k) := by
  cases k with
  | inl i => exact .int i
  | inr x => exact .str x
theorem rep_keysV : ∀ ks : List Key, RepAll wd K mg F β (ks.map kV) (ks.map keyD)
  | [] => .nil
  | k :: ks => .cons (rep_keyV k) (rep_keysV ks)
theorem keyT_rep {v : V} {d : D} {k : List Key} (r : Rep wd K mg F β v d) (h : keyT d = some k) : ∃ b, v = .ref b ∧ TupR K F b (k.map kV) := by
  cases r with
  | tup s r =>
    have e := rep_keys r h
    subst e
    exact ⟨_, rfl, s⟩
  | _ => cases h
theorem Good.dxt (g : Good G F H β st) {v : V} {d : D} {kvs : List (List Key × D)} (r : Rep G.wd G.K G.mg F β v d) (h : dxtOf st d = some kvs) :
    ∃ (a : Addr) (ks : KVX) (ws : List D), v = .ref a ∧ H a = some (HX G.wd a ks) ∧ (∀ p ∈ ks, TupR G.K F p.2.1 (p.1.map kV)) ∧ RepAll G.wd G.K G.mg F β (ks.map (·.2.2)) ws ∧ kvs = (ks.map (·.1)).zip ws := by
  cases r with
  | dxt s hk r => cases h; exact ⟨_, _, _, rfl, g.ex _ _ s, hk, r, rfl⟩
  | @ref n a hb =>
    unfold dxtOf at h
    simp only at h
    cases e : st[n]? with
    | none => rw [e] at h; cases h
    | some ob =>
      rw [e] at h
      cases ob with
      | dxt kvs' =>
        cases h
        obtain ⟨ks, ws, q1, q2, q3, q4⟩ := g.ob n a _ hb e
        exact ⟨a, ks, ws, rfl, q1, q2, q3.mono (Ex.refl _) (pre_take n), q4⟩
      | _ => cases h
  | _ => cases h
theorem Good.keyed (g : Good G F H β st) {ks : KVX} (h : ∀ p ∈ ks, TupR G.K F p.2.1 (p.1.map kV)) : Keyed G.K H ks := fun p hp => g.ex.stp (h p hp).sq
/-- the value of a key -/
theorem getK_rep {k : List Key} : ∀ {ks : KVX} {ws : List D}, RepAll wd K mg F β (ks.map (·.2.2)) ws → (∀ d, getK ((ks.map (·.1)).zip ws) k = some d → ∃ v, valX ks k = some v ∧ Rep wd K mg F β v d) ∧ (getK ((ks.map (·.1)).zip ws) k).isSome = (valX ks k).isSome
  | [], ws, r => by
    cases r
    exact ⟨fun d h => (by cases h), rfl⟩
  | p :: ks, ws, r => by
    rw [List.map_cons] at r
    cases r with
    | @cons v vs d ds h1 r =>
      obtain ⟨i1, i2⟩ := getK_rep (k := k) r
      unfold getK valX at i1 i2 ⊢
      rw [List.map_cons, List.zip_cons_cons, List.find?_cons, List.find?_cons]
      by_cases e : p.1 = k
      · simp only [e, decide_true]
        exact ⟨fun d' h => by cases h; exact ⟨_, rfl, h1⟩, rfl⟩
      · simp only [e, decide_false]
        exact ⟨i1, i2⟩
theorem putK_rep {k : List Key} {b : Addr} {v : V} {d : D} (hb : TupR K F b (k.map kV)) (hv : Rep wd K mg F β v d) {ks : KVX} {ws : List D} (hk : ∀ p ∈ ks, TupR K F p.2.1 (p.1.map kV)) (r : RepAll wd K mg F β (ks.map (·.2.2)) ws) :
    ∃ ws', (∀ p ∈ putX ks k b v, TupR K F p.2.1 (p.1.map kV)) ∧ RepAll wd K mg F β ((putX ks k b v).map (·.2.2)) ws' ∧ putKD ((ks.map (·.1)).zip ws) k d = ((putX ks k b v).map (·.1)).zip ws' := by
  have hs := (getK_rep (k := k) r).2
  unfold putX putKD
  rw [hs]
  split
  · clear hs
    have tl : ∀ {ks : KVX} {ws : List D}, RepAll wd K mg F β (ks.map (·.2.2)) ws → ∃ ws', RepAll wd K mg F β ((ks.map (fun x => if x.1 = k then (x.1, x.2.1, v) else x)).map (·.2.2)) ws' ∧
        ((ks.map (·.1)).zip ws).map (fun x => if x.1 = k then (x.1, d) else x) = ((ks.map (fun x => if x.1 = k then (x.1, x.2.1, v) else x)).map (·.1)).zip ws' := by
      intro ks
      induction ks with
      | nil => intro ws r; cases r; exact ⟨[], .nil, rfl⟩
      | cons p ks ih =>
        intro ws r
        rw [List.map_cons] at r
        cases r with
        | @cons v' vs d' ds h1 r =>
          obtain ⟨ws', i1, i2⟩ := ih r
          simp only [List.map_cons, List.zip_cons_cons]
          by_cases e : p.1 = k
          · simp only [e, if_true]
            exact ⟨d :: ws', .cons hv i1, by rw [List.zip_cons_cons, i2]⟩
          · simp only [e, if_false]
            exact ⟨d' :: ws', .cons h1 i1, by rw [List.zip_cons_cons, i2]⟩
    obtain ⟨ws', i1, i2⟩ := tl r
    refine ⟨ws', fun p hp => ?_, i1, i2⟩
    obtain ⟨q, hq, e⟩ := List.mem_map.mp hp
    have := hk q hq
    by_cases z : q.1 = k
    · rw [if_pos z] at e; subst e; exact this
    · rw [if_neg z] at e; subst e; exact this
  · refine ⟨ws ++ [d], fun p hp => ?_, ?_, ?_⟩
    · rcases List.mem_append.mp hp with hp | hp
      · exact hk p hp
      · have : p = (k, b, v) := by simpa using hp
        subst this
        exact hb
    · rw [List.map_append]
      exact r.append (.cons hv .nil)
    · rw [List.map_append, List.zip_append (by have := r.length; simpa using this)]
      rfl
end
/-! ### rules -/
def tXGet (X : Cx) (td ty : TE) : TE := fun σ H Q => td σ H fun x H1 => ty σ H1 fun y H2 => ∃ a b kvs k v, x = .ref a ∧ y = .ref b ∧ H2 a = some (HX X.w a kvs) ∧ Keyed X.K H2 kvs ∧ SqT X.K H2 b (k.map kV) ∧ valX kvs k = some v ∧ Q v H2
def tXIn (X : Cx) (neg : Bool) (ty td : TE) : TE := fun σ H Q => ty σ H fun y H1 => td σ H1 fun x H2 => ∃ a b kvs k, x = .ref a ∧ y = .ref b ∧ H2 a = some (HX X.w a kvs) ∧ Keyed X.K H2 kvs ∧ SqT X.K H2 b (k.map kV) ∧ Q (.bl (if neg then !(valX kvs k).isSome else (valX kvs k).isSome)) H2
def sXPut (X : Cx) (td ty tv : TE) : TS := fun D σ H => tv σ H fun v H1 => td σ H1 fun x H2 => ty σ H2 fun y H3 => ∃ a b kvs k, x = .ref a ∧ y = .ref b ∧ H3 a = some (HX X.w a kvs) ∧ Keyed X.K H3 kvs ∧ SqT X.K H3 b (k.map kV) ∧ kvs.length < sizeLine ∧ D.nx σ (upd H3 a (HX X.w a (putX kvs k b v)))
section
variable {X : Cx} {o i e value : Expr} {pos pos' tpos : Pos} {td ty tv : TE}
theorem dx_type {pins : List (Addr × Obj)} {σ : L2.St} {H : Hp} {s : Shared} {a : Addr} {kvs : KVX} (I : Inv X pins σ H s) (e : H a = some (HX X.w a kvs)) (hk : Keyed X.K H kvs) : s.TypeIs (.ref a) "dict" := by
  obtain ⟨_, _, xs, _, dd⟩ := dx_at I e hk
  exact dd.typeIs
theorem pe_xget (hu : X.A.units + 1 < cLine) (ho : PE X o td) (hi : PE X i ty) (hs : NoSl i) : PE X (.Subscript o i pos) (tXGet X td ty) := by
  refine ⟨fun pins s σ H Q I h => ?_⟩
  refine subD_of PySem.F.slot_dict_getitem.lookup hs (thn (ho.run pins s σ H _ I h) fun u s1 ⟨x, H1, I1, rx, q1⟩ => thn (hi.run pins s1 σ H1 _ I1 q1) fun iv s2 ⟨y, H2, I2, ry, a, b, kvs, k, v, ex, ey, e, hk, hb, l, q2⟩ => ?_)
  subst ex
  subst ey
  obtain rfl : u = Value.ref a := rx
  obtain rfl : iv = Value.ref b := ry
  exact ⟨dx_type I2 e hk, dx_getItem hu I2 e hk hb l fun w' s3 I3 rw' => ⟨v, H2, I3, rw', q2⟩⟩
theorem pc_xin (hu : X.A.units + 1 < cLine) (hi : PE X i ty) (ho : PE X o td) : PC X .In i o (tXIn X false ty td) := by
  refine ⟨fun pins s σ H Q I h => ?_⟩
  refine thn (hi.run pins s σ H _ I h) fun iv s1 ⟨y, H1, I1, ry, q1⟩ => thn (ho.run pins s1 σ H1 _ I1 q1) fun u s2 ⟨x, H2, I2, rx, a, b, kvs, k, ex, ey, e, hk, hb, q2⟩ => ?_
  subst ex
  subst ey
  obtain rfl : u = Value.ref a := rx
  obtain rfl : iv = Value.ref b := ry
  exact dx_in hu I2 e hk hb fun s3 I3 => ⟨.bl _, H2, I3, rfl, q2⟩
theorem pc_xnotin (hu : X.A.units + 1 < cLine) (hi : PE X i ty) (ho : PE X o td) : PC X .NotIn i o (tXIn X true ty td) := by
  refine ⟨fun pins s σ H Q I h => ?_⟩
  refine thn (hi.run pins s σ H _ I h) fun iv s1 ⟨y, H1, I1, ry, q1⟩ => thn (ho.run pins s1 σ H1 _ I1 q1) fun u s2 ⟨x, H2, I2, rx, a, b, kvs, k, ex, ey, e, hk, hb, q2⟩ => ?_
  subst ex
  subst ey
  obtain rfl : u = Value.ref a := rx
  obtain rfl : iv = Value.ref b := ry
  exact dx_notIn hu I2 e hk hb fun s3 I3 => ⟨.bl _, H2, I3, rfl, q2⟩
theorem ps_xput (hu : X.A.units + 1 < cLine) (ho : PE X o td) (hi : PE X i ty) (hv : PE X value tv) (hs : swapsWith value (some (.Subscript o i pos')) pos.line X.env = pure false) :
    PS X (.Assign [.Subscript o i pos'] value pos) (sXPut X td ty tv) := by
  refine ⟨fun pins s σ H D I h => ?_⟩
  refine wpAny_Assign_Subscript (thn (hv.run pins s σ H _ I h) fun r s1 ⟨v, H1, I1, rv, q1⟩ => thn (ho.run pins s1 σ H1 _ I1 q1) fun u s2 ⟨x, H2, I2, rx, q2⟩ => thn (hi.run pins s2 σ H2 _ I2 q2) fun iv s3 ⟨y, H3, I3, ry, a, b, kvs, k, ex, ey, e, hk, hb, hl, q3⟩ => ?_) hs
  subst ex
  subst ey
  obtain rfl : u = Value.ref a := rx
  obtain rfl : iv = Value.ref b := ry
  exact dx_setItem hu I3 e hk hb hl rv fun s4 I4 => ⟨σ, _, I4, q3⟩
def tDNewX (X : Cx) : TE := fun _ H Q => ∀ p, H p = none → Q (.ref p) (upd H p (HX X.w p []))
theorem pe_dnewX : PE X (.Dict [] [] pos) (tDNewX X) := ⟨fun pins s σ H Q I h =>
  wpAny_Dict_empty ⟨.ref s.heap.objs.size, _, dx_fresh I s.toks, rfl, h _ (I.hok.fresh (Nat.le_refl _))⟩⟩
/-- {k: v} -/
def tDisp1 (X : Cx) (tk tv : TE) : TE := fun σ H Q => ∀ p, H p = none → tk σ (upd H p (HX X.w p [])) fun y H1 => tv σ H1 fun v H2 => ∃ b k, y = .ref b ∧ H2 p = some (HX X.w p []) ∧ SqT X.K H2 b (k.map kV) ∧ Q (.ref p) (upd H2 p (HX X.w p [(k, b, v)]))
theorem pe_disp1 (hu : X.A.units + 1 < cLine) (hi : PE X i ty) (hv : PE X value tv) : PE X (.Dict [some i] [value] pos) (tDisp1 X ty tv) := by
  refine ⟨fun pins s σ H Q I h => ?_⟩
  refine wpAny_Dict_any rfl rfl (by simp) (by show 1 ≤ 15; decide) ?_
  have I0 := dx_fresh I s.toks
  refine pairTrees_cons_walk (thn (hi.run pins _ σ _ _ I0 (h _ (I.hok.fresh (Nat.le_refl _)))) fun iv s1 ⟨y, H1, I1, ry, q1⟩ => thn (hv.run pins s1 σ H1 _ I1 q1) fun r s2 ⟨v, H2, I2, rv, b, k, ey, e, hb, q2⟩ => pairTrees_nil_walk ?_)
  subst ey
  obtain rfl : iv = Value.ref b := ry
  have hk : Keyed X.K H2 [] := fun p hp => by cases hp
  obtain ⟨z, hd, xs, rel, dd⟩ := dx_at I2 e hk
  cases rel
  unfold storeAll
  rw [List.forIn_cons]
  refine wpAny_bind (wpAny_bind (wpAny_dictSet_heap (hsz := Nat.zero_le _) (knd := tupleKind (mixKind X.prog X.w)) (Nat.lt_of_succ_lt hu) (key_at I2 hb) dd fun h' dd' hs => wpAny_pure ?_))
  dsimp only
  rw [List.forIn_nil]
  refine wpAny_pure ⟨.ref s.heap.objs.size, _, dx_write (kvs' := [(k, b, v)]) I2 e hs (by rw [sizeLine_eq]; show 1 ≤ 16777216; decide) hd ?_ dd', rfl, q2⟩
  exact XP.put (kvs := []) (xs := []) Paired.nil k b rv
end
section
variable {T : List NdefX.NTab} {X : Cx} {W : WX} {o i e value : Expr} {pos pos' : Pos} {mo mi mv : ME}
def mDGet (mo mi : ME) : ME := fun ρ st => (mo ρ st).bind fun o st => (mi ρ st).bind fun i st => match dxtOf st o with
  | some kvs => match keyT i with
    | some k => match getK kvs k with
      | some d => .ok d st
      | none => .bad
    | none => .bad
  | none => .bad
theorem ev_dget (hu : X.A.units + 1 < cLine) (ho : EvE T X W o mo) (hi : EvE T X W i mi) (hs : NoSl i := by exact fun _ _ => rfl) : EvE T X W (.Subscript o i pos) (mDGet mo mi) :=
  pe_imp (pe_xget hu ho hi hs) fun σ H Q ⟨F, β, ρ, st, g, er, h⟩ => tM_imp (tM_E g er h) fun v H1 ⟨F1, β1, d, st1, a1, b1, g1, er1, r1, h1⟩ => tM_imp (tM_E g1 er1 h1) fun u H2 ⟨F2, β2, y, st2, a2, b2, g2, er2, r2, h2⟩ => by
    cases e1 : dxtOf st2 d with
    | none => simp only [e1] at h2; exact h2.elim
    | some kvs =>
      cases e2 : keyT y with
      | none => simp only [e1, e2] at h2; exact h2.elim
      | some k =>
        cases e3 : getK kvs k with
        | none => simp only [e1, e2, e3] at h2; exact h2.elim
        | some z =>
          simp only [e1, e2, e3] at h2
          obtain ⟨a, ks, ws, rfl, q1, q2, q3, rfl⟩ := g2.dxt (r1.mono a2 b2) e1
          obtain ⟨b, rfl, tb⟩ := keyT_rep r2 e2
          obtain ⟨v, hv, rv⟩ := (getK_rep q3).1 z e3
          exact ⟨a, b, ks, k, v, rfl, rfl, q1, g2.keyed q2, g2.ex.stp tb.sq, hv, h2 v H2 F2 β2 (Ex.refl _) (Pre.refl _) g2 rv⟩
def mDIn (neg : Bool) (mi mo : ME) : ME := fun ρ st => (mi ρ st).bind fun i st => (mo ρ st).bind fun o st => match dxtOf st o with
  | some kvs => match keyT i with
    | some k => .ok (.bl (if neg then !(getK kvs k).isSome else (getK kvs k).isSome)) st
    | none => .bad
  | none => .bad
theorem din_read {neg : Bool} {σ : L2.St} {H : Hp} {Q : VK} (h : tM (gX T X) W (mDIn neg mi mo) σ H Q) : tXIn X neg (tM (gX T X) W mi) (tM (gX T X) W mo) σ H Q := by
  obtain ⟨F, β, ρ, st, g, er, h⟩ := h
  refine tM_imp (tM_E g er h) fun v H1 ⟨F1, β1, y, st1, a1, b1, g1, er1, r1, h1⟩ => tM_imp (tM_E g1 er1 h1) fun u H2 ⟨F2, β2, d, st2, a2, b2, g2, er2, r2, h2⟩ => ?_
  cases e1 : dxtOf st2 d with
  | none => simp only [e1] at h2; exact h2.elim
  | some kvs =>
    cases e2 : keyT y with
    | none => simp only [e1, e2] at h2; exact h2.elim
    | some k =>
      simp only [e1, e2] at h2
      obtain ⟨a, ks, ws, rfl, q1, q2, q3, rfl⟩ := g2.dxt r2 e1
      obtain ⟨b, rfl, tb⟩ := keyT_rep (r1.mono a2 b2) e2
      rw [(getK_rep q3).2] at h2
      exact ⟨a, b, ks, k, rfl, rfl, q1, g2.keyed q2, g2.ex.stp tb.sq, h2 _ H2 F2 β2 (Ex.refl _) (Pre.refl _) g2 (.bl _)⟩
theorem ev_din (hu : X.A.units + 1 < cLine) (hi : EvE T X W i mi) (ho : EvE T X W o mo) (hm : behindInMarks .In o = false := by first | exact nomark _ | rfl) : EvE T X W (.Compare i [.In] [o] pos) (mDIn false mi mo) :=
  pe_imp (pe_cmp (pc_xin hu hi ho) hm) fun _ _ _ => din_read
theorem ev_dnotin (hu : X.A.units + 1 < cLine) (hi : EvE T X W i mi) (ho : EvE T X W o mo) (hm : behindInMarks .NotIn o = false := by first | exact nomark _ | rfl) : EvE T X W (.Compare i [.NotIn] [o] pos) (mDIn true mi mo) :=
  pe_imp (pe_cmp (pc_xnotin hu hi ho) hm) fun _ _ _ => din_read
def mDPut (mo mi mv : ME) : MS := fun ρ st => (mv ρ st).bindS ρ fun v st => (mo ρ st).bindS ρ fun o st => (mi ρ st).bindS ρ fun i st => match o with
  | .ref n => match st[n]? with
    | some (.dxt kvs) => match keyT i with
      | some k => if kvs.length < sizeLine ∧ lowD n v = true then .ok (.nx ρ) (st.set n (.dxt (putKD kvs k v))) else .bad
      | none => .bad
    | _ => .bad
  | _ => .bad
theorem es_dput (hu : X.A.units + 1 < cLine) (ho : EvE T X W o mo) (hi : EvE T X W i mi) (hv : EvE T X W value mv) (hs : swapsWith value (some (.Subscript o i pos')) pos.line X.env = pure false := by rfl) :
    EvS T X W (.Assign [.Subscript o i pos'] value pos) (mDPut mo mi mv) :=
  ps_imp (ps_xput hu ho hi hv hs) fun D σ H ⟨F, β, ρ, st, g, er, h⟩ => tM_imp (tM_S g er h) fun v H1 ⟨F1, β1, d, st1, a1, b1, g1, er1, r1, h1⟩ => tM_imp (tM_S g1 er1 h1) fun x H2 ⟨F2, β2, od, st2, a2, b2, g2, er2, r2, h2⟩ =>
    tM_imp (tM_S g2 er2 h2) fun y H3 ⟨F3, β3, yd, st3, a3, b3, g3, er3, r3, h3⟩ => by
      cases r2 with
      | @ref n a hb =>
        dsimp only at h3
        cases eo : st3[n]? with
        | none => simp only [eo] at h3; exact h3.elim
        | some ob =>
          simp only [eo] at h3
          cases ob with
          | dxt kvs =>
            dsimp only at h3
            cases ek : keyT yd with
            | none => simp only [ek] at h3; exact h3.elim
            | some k =>
              simp only [ek] at h3
              split at h3
              · rename_i q
                obtain ⟨q1, q2⟩ := q
                have hb3 := b3 _ _ hb
                obtain ⟨b, rfl, tb⟩ := keyT_rep r3 ek
                obtain ⟨ks, ws, z1, z2, z3, rfl⟩ := g3.ob n a _ hb3 eo
                have hlen : ks.length < sizeLine := by
                  have := z3.length
                  rw [List.length_map] at this
                  rw [List.length_zip, List.length_map, ← this, Nat.min_self] at q1
                  exact q1
                obtain ⟨ws', p1, p2, p3⟩ := putK_rep (k := k) tb (((r1.mono (a2.trans a3) (b2.trans b3))).low q2) z2 z3
                refine ⟨a, b, ks, k, rfl, rfl, z1, g3.keyed z2, g3.ex.stp tb.sq, hlen, ?_⟩
                refine h3 σ _ F3 β3 (Ex.refl _) (Pre.refl _) (g3.put (u := .dxt _) hb3 ⟨_, ws', upd_same, p1, p2, p3⟩) er3
              · exact h3.elim
          | _ => exact h3.elim
      | _ => exact h3.elim
def mDNewX : ME := fun _ st => .ok (.ref st.length) (st ++ [.dxt []])
theorem ref_last' {wd : World} {K : PySem.W.Frag} {mg : Str → Option Value} {F : Hp} {β : List Addr} {p : Addr} {n : Nat} (h : β.length = n) : Rep wd K mg F (β ++ [p]) (.ref p) (.ref n) := .ref (by rw [← h, List.getElem?_append_right (Nat.le_refl _)]; simp)
theorem ev_dnewX : EvE T X W (.Dict [] [] pos) mDNewX := pe_imp pe_dnewX fun σ H Q ⟨F, β, ρ, st, g, er, h⟩ p hp =>
  h _ _ F (β ++ [p]) (Ex.refl _) (pre_app _ _) (g.lay (u := .dxt []) hp ⟨[], [], upd_same, fun p hp => (by cases hp), .nil, rfl⟩) (ref_last' g.len)
def mDisp1 (mk mv : ME) : ME := fun ρ st => (mk ρ (st ++ [.dxt []])).bind fun y st2 => (mv ρ st2).bind fun v st3 => match st3[st.length]? with
  | some (.dxt []) => match keyT y with
    | some k => if lowD st.length v = true then .ok (.ref st.length) (st3.set st.length (.dxt [(k, v)])) else .bad
    | none => .bad
  | _ => .bad
theorem ev_disp1 (hu : X.A.units + 1 < cLine) (hi : EvE T X W i mi) (hv : EvE T X W value mv) : EvE T X W (.Dict [some i] [value] pos) (mDisp1 mi mv) :=
  pe_imp (pe_disp1 hu hi hv) fun σ H Q ⟨F, β, ρ, st, g, er, h⟩ p hp => by
    have g0 := g.lay (u := .dxt []) hp ⟨[], [], upd_same, fun p hp => (by cases hp), .nil, rfl⟩
    have h0 : PostE (gX T X) (wAt W σ) F (β ++ [p]) Q (mDisp1 mi mv ρ st) := PostE.mono (Ex.refl _) (pre_app _ _) h
    refine tM_imp (tM_E g0 (er.mono (Ex.refl _) (pre_app _ _)) h0) fun y H1 ⟨F1, β1, yd, st1, a1, b1, g1, er1, r1, h1⟩ => tM_imp (tM_E g1 er1 h1) fun v H2 ⟨F2, β2, d, st2, a2, b2, g2, er2, r2, h2⟩ => ?_
    have hb : β2[st.length]? = some p := b2 _ _ (b1 _ _ (by rw [← g.len, List.getElem?_append_right (Nat.le_refl _)]; simp))
    split at h2
    · rename_i eo
      cases ek : keyT yd with
      | none => simp only [ek] at h2; exact h2.elim
      | some k =>
        simp only [ek] at h2
        split at h2
        · rename_i q
          obtain ⟨b, rfl, tb⟩ := keyT_rep (r1.mono a2 b2) ek
          obtain ⟨ks, ws, z1, z2, z3, z4⟩ := g2.ob _ p _ hb eo
          have hks : ks = [] := by
            cases ks with
            | nil => rfl
            | cons q ks =>
              rw [List.map_cons] at z3
              cases z3
              rw [List.map_cons, List.zip_cons_cons] at z4
              cases z4
          subst hks
          refine ⟨b, k, rfl, z1, g2.ex.stp tb.sq, ?_⟩
          refine h2 _ _ F2 β2 (Ex.refl _) (Pre.refl _) (g2.put (u := .dxt [(k, d)]) hb ⟨_, [d], upd_same, fun p hp => ?_, .cons (r2.low q) .nil, rfl⟩) (.ref hb)
          have : p = (k, b, v) := by simpa using hp
          subst this
          exact tb
        · exact h2.elim
    · exact h2.elim
end
end DM

end

section
set_option Elab.async false
set_option linter.all false
set_option maxRecDepth 100000
set_option maxHeartbeats 2000000
/-! DMm: slices, chained comparisons, stores into lists, extend, max, min, one's own ==. -/
namespace DM
open PySem PySem.Spec PyProof.Rows L2
section
variable {T : List NdefX.NTab} {X : Cx} {W : WX} {E : XK} {a b c e o i : Expr} {es : List Expr} {m ma mb mc mo mi : ME} {ms : MA} {p p2 pos apos : Pos}
/-! ### slices -/
abbrev MO := En → Sto → R (Option Int)
def PostO (G : Gb) (W : Value → Option Addr → Hp → Prop) (F : Hp) (β : List Addr) (Q : Option Int → Hp → Prop) : R (Option Int) → Prop
  | .ok o st' => ∀ H' F' β', Ex F F' → Pre β β' → Good G F' H' β' st' → Q o H'
  | .exc c fs st' => PostX G W F β c fs st'
  | .bad => False
theorem PostO.mono {G : Gb} {W : Value → Option Addr → Hp → Prop} {F F' : Hp} {β β' : List Addr} {Q : Option Int → Hp → Prop} (e : Ex F F') (b : Pre β β') : ∀ {r : R (Option Int)}, PostO G W F β Q r → PostO G W F' β' Q r
  | .ok _ _, h => fun H1 F1 β1 a b1 g => h H1 F1 β1 (e.trans a) (b.trans b1) g
  | .exc _ _ _, h => PostX.mono e b h
  | .bad, h => h
def tMO (G : Gb) (W : WX) (m : MO) : TO := fun σ H Q => ∃ F β ρ st, Good G F H β st ∧ EnvR G F β σ ρ ∧ PostO G (wAt W σ) F β Q (m ρ st)
def EvO (T : List NdefX.NTab) (X : Cx) (W : WX) (e : Option Expr) (m : MO) : Prop := PO X e (tMO (gX T X) W m)
theorem po_imp {X : Cx} {e : Option Expr} {t t' : TO} (h : PO X e t) (i : ∀ σ H Q, t' σ H Q → t σ H Q) : PO X e t' := ⟨fun pins s σ H Q I q => h.run pins s σ H Q I (i σ H Q q)⟩
def mNoP : MO := fun _ st => .ok none st
def mP (m : ME) : MO := fun ρ st => (m ρ st).bind fun d st => match d with
  | .int i => .ok (some i) st
  | _ => .bad
theorem eo_none : EvO T X W none mNoP := po_imp po_none fun σ H Q ⟨F, β, ρ, st, g, er, h⟩ => h H F β (Ex.refl _) (Pre.refl _) g
theorem eo_some (h : EvE T X W e m) : EvO T X W (some e) (mP m) := po_imp (po_some h) fun σ H Q ⟨F, β, ρ, st, g, er, h⟩ =>
  tM_imp (tM_then (P := fun W F β r => PostO (gX T X) W F β Q r) g er (fun _ _ _ z => z) (fun z => z) (fun _ _ _ a b z => PostO.mono a b z) h) fun v H1 ⟨F1, β1, d, st1, a1, b1, g1, er1, r1, h1⟩ => by
    cases r1 with
    | int i => exact ⟨i, rfl, h1 H1 F1 β1 (Ex.refl _) (Pre.refl _) g1⟩
    | _ => exact h1.elim
theorem tMO_E {G : Gb} {F H : Hp} {β : List Addr} {st : Sto} {σ : L2.St} {ρ : En} {m : MO} {k : Option Int → Sto → R D} {Q : VK} (g : Good G F H β st) (er : EnvR G F β σ ρ) (h : PostE G (wAt W σ) F β Q ((m ρ st).bind k)) :
    tMO G W m σ H fun o H1 => ∃ F1 β1 st1, Ex F F1 ∧ Pre β β1 ∧ Good G F1 H1 β1 st1 ∧ EnvR G F1 β1 σ ρ ∧ PostE G (wAt W σ) F1 β1 Q (k o st1) := by
  refine ⟨F, β, ρ, st, g, er, ?_⟩
  cases e : m ρ st with
  | ok d st1 =>
    rw [e] at h
    exact fun H' F' β' a b g' => ⟨F', β', st1, a, b, g', er.mono a b, PostE.mono a b h⟩
  | exc c fs st1 => rw [e] at h; exact h
  | bad => rw [e] at h; exact h
theorem tMO_imp {G : Gb} {W : WX} {m : MO} {σ : L2.St} {H : Hp} {Q Q' : Option Int → Hp → Prop} (h : tMO G W m σ H Q) (i : ∀ v H1, Q v H1 → Q' v H1) : tMO G W m σ H Q' := by
  obtain ⟨F, β, ρ, st, g, er, h⟩ := h
  refine ⟨F, β, ρ, st, g, er, ?_⟩
  cases e : m ρ st with
  | ok d st1 => rw [e] at h; exact fun H' F' β' a b g' => i _ _ (h H' F' β' a b g')
  | exc c fs st1 => rw [e] at h; exact h
  | bad => rw [e] at h; exact h
def cutD (ds : List D) (lo hi : Option Int) : List D := (ds.drop (HT.sIx ds.length 0 lo)).take (HT.sIx ds.length ds.length hi - HT.sIx ds.length 0 lo)
def slD (st : Sto) (lo hi : Option Int) : D → R D
  | .tup ds => .ok (.tup (cutD ds lo hi)) st
  | .str z => if z.length ≤ sizeLine then .ok (.str (cutS z lo hi)) st else .bad
  | d => match lstOf st d with
    | some ds => .ok (.lst (cutD ds lo hi)) st
    | none => .bad
def mSl (m : ME) (ml mh : MO) : ME := fun ρ st => (m ρ st).bind fun d st => (ml ρ st).bind fun lo st => (mh ρ st).bind fun hi st => slD st lo hi d
theorem rep_cut {wd : World} {K : PySem.W.Frag} {mg : Str → Option Value} {F : Hp} {β : List Addr} {xs : List V} {ds : List D} (r : RepAll wd K mg F β xs ds) (lo hi : Option Int) : RepAll wd K mg F β (cutV xs lo hi) (cutD ds lo hi) := by
  unfold cutV cutD
  rw [r.length]
  exact (r.drop _).take _
theorem cut_all {α : Type} {l : List α} {i j : Nat} (h1 : i = 0) (h2 : j = l.length) : (l.drop i).take (j - i) = l := by
  subst h1 h2
  simp
theorem ev_sl {lo hi : Option Expr} {ml mh : MO} (he : EvE T X W e m) (hl : EvO T X W lo ml) (hu : EvO T X W hi mh) : EvE T X W (.Subscript e (.Slice lo hi none p2) pos) (mSl m ml mh) :=
  pe_imp (pe_slice ((sl_list.or sl_tupF).or sl_str) he hl hu) fun σ H Q ⟨F, β, ρ, st, g, er, h⟩ => tM_imp (tM_E g er h) fun v H1 ⟨F1, β1, d, st1, a1, b1, g1, er1, r1, h1⟩ =>
    tMO_imp (tMO_E g1 er1 h1) fun lo H2 ⟨F2, β2, st2, a2, b2, g2, er2, h2⟩ => tMO_imp (tMO_E g2 er2 h2) fun hi H3 ⟨F3, β3, st3, a3, b3, g3, er3, h3⟩ => by
      have r3 := r1.mono (a2.trans a3) (b2.trans b3)
      have ll : lstOf st3 d ≠ none → PostE (gX T X) (wAt W σ) F3 β3 Q (match lstOf st3 d with | some ds => .ok (.lst (cutD ds lo hi)) st3 | none => .bad) → rSlL X.K v lo hi H3 Q := fun _ q => by
        cases es : lstOf st3 d with
        | none => rw [es] at q; exact q.elim
        | some ds =>
          rw [es] at q
          obtain ⟨l, xs, rfl, s, rr⟩ := g3.lst r3 es
          exact ⟨l, xs, rfl, s, fun p hp => q _ _ _ β3 (Ex.new (g3.ex.none hp)) (Pre.refl _) (g3.new hp _) (.lst (SqL.of upd_same) ((rep_cut rr lo hi).mono (Ex.new (g3.ex.none hp)) (Pre.refl _)))⟩
      cases r3 with
      | @tup a xs ds s rr =>
        refine .inl (.inr ⟨a, xs, rfl, g3.ex.stp s.sq, fun hw => ?_, fun hw p o hp po => ?_⟩)
        · have e : cutD ds lo hi = ds := by
            rw [rr.length] at hw
            exact cut_all hw.1 hw.2
          have h3 : PostE (gX T X) (wAt W σ) F3 β3 Q (.ok (.tup (cutD ds lo hi)) st3) := h3
          rw [e] at h3
          exact h3 _ H3 F3 β3 (Ex.refl _) (Pre.refl _) g3 (.tup s rr)
        · exact h3 _ _ _ β3 (Ex.new (g3.ex.none hp)) (Pre.refl _) (g3.new hp _) (.tup (.inl ⟨o, upd_same, po⟩) ((rep_cut rr lo hi).mono (Ex.new (g3.ex.none hp)) (Pre.refl _)))
      | str z =>
        unfold slD at h3
        dsimp only at h3
        split at h3
        · rename_i hz
          exact .inr ⟨z, rfl, hz, h3 _ H3 F3 β3 (Ex.refl _) (Pre.refl _) g3 (.str _)⟩
        · exact h3.elim
      | lst s rr => exact .inl (.inl (ll (by simp [lstOf]) h3))
      | @ref n a hb =>
        refine .inl (.inl (ll (fun z => ?_) h3))
        unfold slD at h3
        dsimp only at h3
        rw [z] at h3
        exact h3
      | _ => exact h3.elim

/-! ### chained comparisons -/
theorem chain_read {r r' : R2} {f f' : D → D → Sto → R D} (hr : OpD (gX T X) r f) (hr' : OpD (gX T X) r' f') {σ : L2.St} {H : Hp} {Q : VK} (h : tM (gX T X) W (mChain f f' ma mb mc) σ H Q) :
    tChain r r' (tM (gX T X) W ma) (tM (gX T X) W mb) (tM (gX T X) W mc) σ H Q := by
  obtain ⟨F, β, ρ, st, g, er, h⟩ := h
  refine tM_imp (tM_E g er h) fun x H1 ⟨F1, β1, d, st1, a1, b1, g1, er1, r1, h1⟩ => tM_imp (tM_E g1 er1 h1) fun y H2 ⟨F2, β2, d2, st2, a2, b2, g2, er2, r2, h2⟩ => ?_
  refine hr (wAt W σ) F2 H2 β2 st2 x y d d2 _ g2 (r1.mono a2 b2) r2 ?_
  cases ef : f d d2 st2 with
  | bad => rw [ef] at h2; exact h2
  | exc c fs st3 => rw [ef] at h2; exact h2
  | ok z st3 =>
    rw [ef] at h2
    intro v H3 F3 β3 a3 b3 g3 rv
    rw [R.bind_ok] at h2
    cases rv with
    | bl k =>
      refine ⟨k, rfl, ?_⟩
      cases k with
      | false =>
        rw [if_neg Bool.false_ne_true]
        exact h2 _ H3 F3 β3 a3 b3 g3 (.bl _)
      | true =>
        rw [if_pos rfl]
        refine tM_imp (tM_E g3 ((er2.mono a3 b3)) (PostE.mono a3 b3 h2)) fun w H4 ⟨F4, β4, d4, st4, a4, b4, g4, er4, r4, h4⟩ => ?_
        exact hr' _ F4 H4 β4 st4 y w d2 d4 Q g4 (r2.mono (a3.trans a4) (b3.trans b4)) r4 h4
    | _ => exact h2.elim
theorem ev_chain {op op' : CmpOp} {r r' : R2} {f f' : D → D → Sto → R D} (ho : OpR X (compareOp op) r) (hr : OpD (gX T X) r f) (ho' : OpR X (compareOp op') r') (hr' : OpD (gX T X) r' f') (ha : EvE T X W a ma) (hb : EvE T X W b mb) (hc : EvE T X W c mc)
    (hm : lastMarks [op, op'] [b, c] = false := by with_unfolding_all rfl) : EvE T X W (.Compare a [op, op'] [b, c] pos) (mChain f f' ma mb mc) := pe_imp (pe_chain ho ho' ha hb hc hm) fun _ _ _ => chain_read hr hr'
theorem et_chain {op op' : CmpOp} {r r' : R2} {f f' : D → D → Sto → R D} (ho : OpR X (compareOp op) r) (hr : OpD (gX T X) r f) (ho' : OpR X (compareOp op') r') (hr' : OpD (gX T X) r' f') (ha : EvE T X W a ma) (hb : EvE T X W b mb) (hc : EvE T X W c mc)
    (hm : lastMarks [op, op'] [b, c] = false := by with_unfolding_all rfl) : EvT T X W (.Compare a [op, op'] [b, c] pos) (mTst (mChain f f' ma mb mc)) := pt_imp (pt_chain ho ho' ha hb hc hm) fun _ _ _ h => chain_read hr hr' (tst_read h)

/-! ### a, b = x, y -/
def mPar (i j : Nat) (ms : MA) : MS := fun ρ st => (ms ρ st).bindS ρ fun ds st => match ds with
  | [d, e] => .ok (.nx ((ρ.set i (some d)).set j (some e))) st
  | _ => .bad
theorem tMA_S {G : Gb} {F H : Hp} {β : List Addr} {st : Sto} {σ : L2.St} {ρ : En} {m : MA} {k : List D → Sto → RS} {Q : Ends} (g : Good G F H β st) (er : EnvR G F β σ ρ) (h : PostS G W F β Q ((m ρ st).bindS ρ k)) :
    tMA G W m σ H fun vs H1 => ∃ F1 β1 ds st1, Ex F F1 ∧ Pre β β1 ∧ Good G F1 H1 β1 st1 ∧ EnvR G F1 β1 σ ρ ∧ RepAll G.wd G.K G.mg F1 β1 vs ds ∧ PostS G W F1 β1 Q (k ds st1) := by
  refine ⟨F, β, ρ, st, g, er, ?_⟩
  cases e : m ρ st with
  | ok d st1 =>
    rw [e] at h
    exact fun v H' F' β' a b g' r => ⟨F', β', d, st1, a, b, g', er.mono a b, r, PostS.mono a b h⟩
  | exc c fs st1 =>
    rw [e] at h
    exact xc_of er h
  | bad => rw [e] at h; exact h
theorem es_par (i j : Nat) {x y : Str} {px py pt : Pos} {kt k2 pt2} (hc : X.calm = true) (hN : X.N.Nodup) (hi : X.N[i]? = some x := by rfl) (hj : X.N[j]? = some y := by rfl) (hij : i ≠ j := by decide)
    (hx : X.env.scope.names.lookup x = some .local := by rfl) (hy : X.env.scope.names.lookup y = some .local := by rfl) (ha : EvA T X W [a, b] ms)
    (hw : swappedStores [.Tuple [.Name x px, .Name y py] kt pt] (.Tuple [a, b] k2 pt2) X.env = pure (some [x, y]) := by rfl)
    (hs : swapsWithSole [.Tuple [.Name x px, .Name y py] kt pt] (.Tuple [a, b] k2 pt2) pos.line X.env = pure false := by rfl) :
    EvS T X W (.Assign [.Tuple [.Name x px, .Name y py] kt pt] (.Tuple [a, b] k2 pt2) pos) (mPar i j ms) :=
  ps_imp (ps_par hc hN hi hj hij hx hy ha hw hs) fun D σ H ⟨F, β, ρ, st, g, er, h⟩ => tMA_imp (tMA_S g er h) fun vs H1 ⟨F1, β1, ds, st1, a1, b1, g1, er1, r1, h1⟩ => by
    cases r1 with
    | nil => exact h1.elim
    | cons q1 rr =>
      cases rr with
      | nil => exact h1.elim
      | cons q2 rr =>
        cases rr with
        | cons _ _ => exact h1.elim
        | nil => exact ⟨_, _, rfl, h1 _ H1 F1 β1 (Ex.refl _) (Pre.refl _) g1 ((er1.set q1 i).set q2 j)⟩

/-! ### xs[i] = e as a target -/
def gSubM (mo mi : ME) : MG := fun d ρ st => match mo ρ st with
  | .ok o st => match mi ρ st with
    | .ok (.int k) st => match o with
      | .ref n => match st[n]? with
        | some (.lst ds) => match ixN ds.length k with
          | some j => if lowD n d = true then .ok ρ (st.set n (.lst (ds.set j d))) else .bad
          | none => .bad
        | _ => .bad
      | _ => .bad
    | _ => .bad
  | _ => .bad
theorem tM_ok {G : Gb} {W : WX} {F H : Hp} {β : List Addr} {st : Sto} {σ : L2.St} {ρ : En} {m : ME} {d : D} {st' : Sto} {Q : VK} (g : Good G F H β st) (er : EnvR G F β σ ρ) (e : m ρ st = .ok d st')
    (h : ∀ v H' F' β', Ex F F' → Pre β β' → Good G F' H' β' st' → EnvR G F' β' σ ρ → Rep G.wd G.K G.mg F' β' v d → Q v H') : tM G W m σ H Q := by
  refine ⟨F, β, ρ, st, g, er, ?_⟩
  rw [e]
  exact fun v H' F' β' a b g' r => h v H' F' β' a b g' (er.mono a b) r
theorem eg_sub (ho : EvE T X W0 o mo) (hi : EvE T X W0 i mi)
    (ha : ∀ v, assign (.Subscript o i pos) X.env v = (do
      let ov ← holding [v] (eval o X.env)
      let iv ← holding [v, ov] (eval i X.env)
      standAt pos
      holding [v, ov, iv] (setItem ov iv v)
      release [v, ov, iv] []) := by intro _; rfl) : EvG T X (.Subscript o i pos) (gSubM mo mi) :=
  pg_imp (pg_sub ho hi set_list ha) fun v σ H Q ⟨F, β, ρ, st, d, g, er, r, h⟩ => by
    unfold gSubM at h
    cases e1 : mo ρ st with
    | bad => simp only [e1] at h; exact h.elim
    | exc _ _ _ => simp only [e1] at h; exact h.elim
    | ok od st1 =>
      simp only [e1] at h
      refine tM_ok g er e1 fun vo H1 F1 β1 a1 b1 g1 er1 r1 => ?_
      cases e2 : mi ρ st1 with
      | bad => simp only [e2] at h; exact h.elim
      | exc _ _ _ => simp only [e2] at h; exact h.elim
      | ok kd st2 =>
        simp only [e2] at h
        refine tM_ok g1 er1 e2 fun vi H2 F2 β2 a2 b2 g2 er2 r2 => ?_
        cases r2 with
        | int k =>
          dsimp only at h
          cases r1 with
          | @ref n a hb =>
            dsimp only at h
            cases eo : st2[n]? with
            | none => simp only [eo] at h; exact h.elim
            | some ob =>
              simp only [eo] at h
              cases ob with
              | lst ds =>
                dsimp only at h
                cases ej : ixN ds.length k with
                | none => simp only [ej] at h; exact h.elim
                | some j =>
                  simp only [ej] at h
                  split at h
                  · rename_i hl
                    have hb2 := b2 _ _ hb
                    obtain ⟨vs, z1, z2⟩ := g2.ob n a _ hb2 eo
                    refine ⟨a, vs, k, j, rfl, rfl, z1, by rw [z2.length]; exact ej, ?_⟩
                    exact h σ _ F2 β2 (a1.trans a2) (b1.trans b2) (g2.put (u := .lst (ds.set j d)) hb2 ⟨_, upd_same, z2.set (((r.mono (a1.trans a2) (b1.trans b2))).low hl) j⟩) er2
                  · exact h.elim
              | _ => exact h.elim
          | _ => exact h.elim
        | _ => exact h.elim

/-! ### extend, max, min -/
end
end DM

end

section
set_option Elab.async false
set_option linter.all false
set_option maxRecDepth 100000
set_option maxHeartbeats 2000000
/-! DMn: extend, max, min, sealing of a list that may still change, walks over zip. -/
namespace DM
open PySem PySem.Spec PyProof.Rows L2
section
open PySem.AutoSeq1 (wpAny_loadPart')
theorem list_extendW (l : Addr) (items : Array Value) (n : Nat) (b : Addr) (items2 : Array Value) (n2 : Nat) (dd2 : Option Addr) (sl2 : Array (Option Value)) (hc0 : ¬(!items.isEmpty && Builtin.List.listTooLong (items.size + items2.size)) = true) (hc1 : items.size ≤ sizeLine) (hs2 : items.size + items2.size ≤ sizeLine + 1) :
    Meets (Builtin.«list.extend» ⟨[.ref l, .ref b], []⟩) (fun _ R s => s.heap.get? l = some { cls := .type "list", dict := none, data := .seq items n, slots := #[] } ∧ s.heap.get? b = some { cls := .type "list", dict := dd2, data := .seq items2 n2, slots := sl2 } ∧ R (.ok (.ret Value.none)) { s with heap := s.heap.update l (Obj.mapSeq fun x => x ++ items2), toks := s.toks }) :=
  .of_wp fun prog w A R s h => by
    obtain ⟨hp, g, d, tk, os⟩ := s
    obtain ⟨hl, hb, h⟩ := h
    have f3 := AutoSeq1.sub_list_list
    have f4 := AutoSeq1.sub_tuple_list
    have f5 := AutoSeq1.sub_list_tuple
    have hz' : (items ++ items2).size ≤ sizeLine + 1 := by rw [Array.size_append]; exact hs2
    wp_walk using (wpAny_updateSeq hl rfl (hz := hc1) (_hz' := hz')), wpAny_loadPart' hl, wpAny_loadPart' hb
    exact ⟨_, rfl, h⟩
end
def rExtendA (K : PySem.W.Frag) : V → List V → Hp → VK → Prop := fun x vs H Q => ∃ l b xs zs, x = .ref l ∧ vs = [.ref b] ∧ H l = some (.lst xs) ∧ SqL K H b zs ∧ xs.length + zs.length ≤ sizeLine ∧ Q .non (upd H l (.lst (xs ++ zs)))
section
variable {X : Cx}
theorem mt_extendA : MtM X "list.extend" (rExtendA X.K) := by
  intro pins s σ H x vs v us Q I rx rv h
  obtain ⟨l, b, xs, zs, rfl, rfl, hH, hB, hz, q⟩ := h
  cases rx
  obtain ⟨u, rfl, ru⟩ := rv.one
  cases ru
  obtain ⟨z, its, n, r, hl, e⟩ := I.lstM hH
  obtain ⟨its2, r2, ⟨⟨oc2, od2, odat2, osl2⟩, n2, e2, hc2, hd2, hdat2⟩, hl2⟩ := I.list hB
  simp only at hc2 hd2 hdat2
  subst hc2 hd2 hdat2
  have h2 := r2.length
  have hsz : its.toArray.size + its2.toArray.size ≤ sizeLine := by rw [List.size_toArray, List.size_toArray]; omega
  have hlong : ¬ (!its.toArray.isEmpty && Builtin.List.listTooLong (its.toArray.size + its2.toArray.size)) = true := by
    have : Builtin.List.listTooLong (its.toArray.size + its2.toArray.size) = false := by
      unfold Builtin.List.listTooLong
      have := line63
      exact decide_eq_false (by omega)
    rw [this, Bool.and_false]
    exact Bool.false_ne_true
  refine call_meets F.slot_list_extend ⟨_, e, rfl⟩ F.entry_list_extend (F.args_list_extend_2 _ _)
    (list_extendW l its.toArray n b its2.toArray n2 none osl2 hlong (by rw [List.size_toArray]; omega) (by omega)) ⟨e, e2, ?_⟩
  refine ⟨.non, _, I.lset (its' := its ++ its2) hH e (by simp) (r.append r2) ?_, rfl, q⟩
  rw [List.length_append]
  omega
end
section
variable {G : Gb}
/-- xs.extend(ys) -/
def dExtend : D → List D → Sto → R D
  | .ref k, [y], st => match st[k]? with
    | some (.lst ds) => match lstOf st y with
      | some es => if ds.length + es.length ≤ sizeLine ∧ lowL k es = true then .ok .non (st.set k (.lst (ds ++ es))) else .bad
      | none => .bad
    | _ => .bad
  | _, _, _ => .bad
theorem md_extend : MeD G (rExtendA G.K) dExtend := by
  intro Wq F H β st v vs d ds Q g r rs h
  unfold dExtend at h
  split at h
  · rename_i k y
    cases rs with
    | @cons u us _ _ r1 rr =>
      cases rr
      split at h
      · rename_i es eo
        cases ey : lstOf st y with
        | none => simp only [ey] at h; exact h.elim
        | some fs =>
          simp only [ey] at h
          split at h
          · rename_i q
            obtain ⟨a, xs, rfl, hb, h1, r2⟩ := store_lst g r eo
            obtain ⟨b, ys, rfl, s, r3⟩ := g.lst r1 ey
            exact ⟨a, b, xs, ys, rfl, rfl, h1, s, by rw [r2.length, r3.length]; exact q.1, h _ _ F β (Ex.refl _) (Pre.refl _) (g.put (u := .lst (es ++ fs)) hb ⟨_, upd_same, r2.append (r3.low q.2)⟩) .non⟩
          · exact h.elim
      · exact h.elim
  · exact h.elim
/-- max(xs), min(xs) of ints -/
def maxI : List Int → Int
  | [] => 0
  | [x] => x
  | x :: xs => if maxI xs ≤ x then x else maxI xs
def minI : List Int → Int
  | [] => 0
  | [x] => x
  | x :: xs => if x ≤ minI xs then x else minI xs
theorem maxI_of : ∀ (xs : List Int), xs ≠ [] → maxI xs ∈ xs ∧ ∀ y ∈ xs, y ≤ maxI xs
  | [], h => absurd rfl h
  | [x], _ => ⟨by simp [maxI], fun y hy => by simp at hy; subst hy; simp [maxI]⟩
  | x :: y :: r, _ => by
    obtain ⟨i1, i2⟩ := maxI_of (y :: r) (by simp)
    rw [maxI]
    split
    · rename_i hx
      exact ⟨List.mem_cons_self, fun z hz => by
        rcases List.mem_cons.mp hz with e | hz
        · omega
        · have := i2 z hz; omega⟩
    · rename_i hx
      exact ⟨List.mem_cons_of_mem _ i1, fun z hz => by
        rcases List.mem_cons.mp hz with e | hz
        · omega
        · exact i2 z hz⟩
    · simp
theorem minI_of : ∀ (xs : List Int), xs ≠ [] → minI xs ∈ xs ∧ ∀ y ∈ xs, minI xs ≤ y
  | [], h => absurd rfl h
  | [x], _ => ⟨by simp [minI], fun y hy => by simp at hy; subst hy; simp [minI]⟩
  | x :: y :: r, _ => by
    obtain ⟨i1, i2⟩ := minI_of (y :: r) (by simp)
    rw [minI]
    split
    · rename_i hx
      exact ⟨List.mem_cons_self, fun z hz => by
        rcases List.mem_cons.mp hz with e | hz
        · omega
        · have := i2 z hz; omega⟩
    · rename_i hx
      exact ⟨List.mem_cons_of_mem _ i1, fun z hz => by
        rcases List.mem_cons.mp hz with e | hz
        · omega
        · exact i2 z hz⟩
    · simp
def dExt (f : List Int → Int) : List D → Sto → R D
  | [d], st => match lstOf st d with
    | some ds => match intsOf ds with
      | some ns => if ns ≠ [] then .ok (.int (f ns)) st else .bad
      | none => .bad
    | none => .bad
  | _, _ => .bad
def dMaxL : List D → Sto → R D := dExt maxI
def dMinL : List D → Sto → R D := dExt minI
theorem cd_ext {f : List Int → Int} {Wq : Value → Option Addr → Hp → Prop} {F H : Hp} {β : List Addr} {st : Sto} {vs : List V} {ds : List D} {Q : VK} (g : Good G F H β st) (r : RepAll G.wd G.K G.mg F β vs ds) (h : PostE G Wq F β Q (dExt f ds st)) :
    ∃ (a : Addr) (ns : List Int), vs = [V.ref a] ∧ SqL G.K H a (ns.map V.int) ∧ ns ≠ [] ∧ Q (.int (f ns)) H := by
  unfold dExt at h
  split at h
  · rename_i d
    cases r with
    | cons r1 rr =>
      cases rr
      cases el : lstOf st d with
      | none => simp only [el] at h; exact h.elim
      | some es =>
        simp only [el] at h
        cases eb : intsOf es with
        | none => simp only [eb] at h; exact h.elim
        | some ns =>
          simp only [eb] at h
          split at h
          · rename_i hn
            obtain ⟨a, xs, rfl, s, rr⟩ := g.lst r1 el
            rw [ints_rep rr eb] at s
            exact ⟨a, ns, rfl, s, hn, h _ H F β (Ex.refl _) (Pre.refl _) g (.int _)⟩
          · exact h.elim
  · exact h.elim
theorem cd_maxL : CaD G (rMax G.K) dMaxL := by
  intro Wq F H β st vs ds Q g r h
  obtain ⟨a, ns, e, s, hn, q⟩ := cd_ext g r h
  obtain ⟨i1, i2⟩ := maxI_of ns hn
  refine ⟨a, ns, e, s, List.length_pos_iff.mpr hn, fun m hm hy => ?_⟩
  have : m = maxI ns := by
    have x1 := i2 m hm
    have x2 := hy _ i1
    omega
  rw [this]
  exact q
theorem cd_minL : CaD G (rMin G.K) dMinL := by
  intro Wq F H β st vs ds Q g r h
  obtain ⟨a, ns, e, s, hn, q⟩ := cd_ext g r h
  obtain ⟨i1, i2⟩ := minI_of ns hn
  refine ⟨a, ns, e, s, List.length_pos_iff.mpr hn, fun m hm hy => ?_⟩
  have : m = minI ns := by
    have x1 := i2 m hm
    have x2 := hy _ i1
    omega
  rw [this]
  exact q
/-! ### a list handed back that may still be changed -/
theorem sealM_ok : SealOk G sealM := by
  intro Wq F F' H' β β' st' v d Q a b g r h
  cases r with
  | @ref k p hp =>
    unfold sealM at h
    dsimp only at h
    split at h
    · rename_i hk
      have g2 := g.cut β.length
      rw [pre_eq b] at g2
      refine h _ H' F' β a (Pre.refl _) g2 (.ref ?_)
      have : β'[k]? = β[k]? := by
        rw [← pre_eq b, List.getElem?_take_of_lt hk]
      rw [← this]; exact hp
    · rename_i hk
      have hk : β.length ≤ k := Nat.le_of_not_lt hk
      split at h
      · rename_i ds eo
        split at h
        · rename_i hl
          obtain ⟨vs, z1, z2⟩ := g.ob k p _ hp eo
          have g2 := g.cut β.length
          rw [pre_eq b] at g2
          have rl : RepAll G.wd G.K G.mg F' β vs ds := reps_low (Ex.refl _) b z2 hk hl
          have hln : (st'.take β.length).length = β.length := by rw [← g2.len]
          refine h _ H' F' (β ++ [p]) a (pre_app _ _) ⟨g2.ex, fun n q e => ?_, fun m n q e1 e2 => ?_, by rw [List.length_append, List.length_append, hln]; rfl, fun n q o e eo' => ?_, g2.tab, g2.nt⟩ (.ref (by rw [List.getElem?_append_right (Nat.le_refl _)]; simp))
          · rcases Nat.lt_or_ge n β.length with z | z
            · rw [List.getElem?_append_left z] at e; exact g2.sep n q e
            · rw [List.getElem?_append_right z] at e
              have : q = p := by
                cases ez : n - β.length with
                | zero => rw [ez] at e; simpa using e.symm
                | succ j => rw [ez] at e; simp at e
              rw [this]; exact g.sep k p hp
          · have key : ∀ {j : Nat}, (β ++ [p])[j]? = some q → (j < β.length ∧ β'[j]? = some q) ∨ (j = β.length ∧ q = p) := fun {j} h => by
              rcases Nat.lt_or_ge j β.length with z | z
              · rw [List.getElem?_append_left z] at h; exact .inl ⟨z, b _ _ h⟩
              · rw [List.getElem?_append_right z] at h
                cases ez : j - β.length with
                | zero => rw [ez] at h; exact .inr ⟨by omega, by simpa using h.symm⟩
                | succ l => rw [ez] at h; simp at h
            rcases key e1 with ⟨l1, a1⟩ | ⟨l1, a1⟩ <;> rcases key e2 with ⟨l2, a2⟩ | ⟨l2, a2⟩
            · exact g.inj m n q a1 a2
            · subst a2
              have := g.inj m k q a1 hp
              omega
            · subst a1
              have := g.inj n k q a2 hp
              omega
            · rw [l1, l2]
          · rcases Nat.lt_or_ge n β.length with z | z
            · rw [List.getElem?_append_left z] at e
              rw [List.getElem?_append_left (by rw [hln]; exact z)] at eo'
              rw [List.take_append_of_le_length (Nat.le_of_lt z)]
              exact g2.ob n q o e eo'
            · rw [List.getElem?_append_right z] at e
              rw [List.getElem?_append_right (by rw [hln]; exact z)] at eo'
              have hn : n = β.length := by
                cases ez : n - β.length with
                | zero => omega
                | succ j => rw [ez] at e; simp at e
              subst hn
              simp at e
              subst e
              rw [hln] at eo'
              simp at eo'
              subst eo'
              rw [List.take_append_of_le_length (Nat.le_refl _), List.take_length]
              exact ⟨vs, z1, rl⟩
        · exact h.elim
      · exact h.elim
  | non => exact seal_plain a b g .non h
  | bl x => exact seal_plain a b g (.bl x) h
  | int x => exact seal_plain a b g (.int x) h
  | str x => exact seal_plain a b g (.str x) h
  | tup s r => exact seal_plain a b g (.tup s r) h
  | lst s r => exact seal_plain a b g (.lst s r) h
  | dK s r => exact seal_plain a b g (.dK s r) h
  | dxt s hk r => exact seal_plain a b g (.dxt s hk r) h
  | obj s hc r => exact seal_plain a b g (.obj s hc r) h
  | wtp s r => exact seal_plain a b g (.wtp s r) h
  | gl s => exact seal_plain a b g (.gl s) h
end
end DM

end

section
set_option Elab.async false
set_option linter.all false
set_option maxRecDepth 100000
set_option maxHeartbeats 2000000
/-! DMo: one's own ==, !=; walks over zip; keyword-only calls. -/
namespace DM
open PySem PySem.Spec PyProof.Rows L2
section
variable {X : Cx} {pins : List (Addr × Obj)} {σ : L2.St} {H : Hp} {s : Shared}
theorem looks_obj {M : Model} {h : Heap} {a : Addr} {o : Obj} {t : Value} (e : h.get? a = some o) (c : o.cls = t) : PySem.W.Looks M h (typeOf (.ref a)) t := by
  subst c
  exact (PySem.W.Looks.ld e).andThen .now
/-- the type of a value -/
theorem tyx_looks {M : Model} {x : V} {u t : Value} (I : Inv X pins σ H s) (rx : RelV x u) (ty : TyX X.K H x t) (h : ∀ n, x ≠ .ty n) : PySem.W.Looks M s.heap (typeOf u) t := by
  cases ty with
  | base b =>
    cases b with
    | non => cases (show u = Value.none from rx); exact PySem.W.Looks.of_pure rfl
    | bl y => cases (show u = Value.bool y from rx); exact PySem.W.Looks.of_pure rfl
    | int i => obtain ⟨t, q⟩ := (show ∃ t, u = Value.int i t from rx); cases q; exact PySem.W.Looks.of_pure rfl
    | str y => obtain ⟨t, q⟩ := (show ∃ t, u = Value.str y t from rx); cases q; exact PySem.W.Looks.of_pure rfl
    | flt y => obtain ⟨t, q⟩ := (show ∃ t, u = Value.float y t from rx); cases q; exact PySem.W.Looks.of_pure rfl
    | @lst a xs ea =>
      cases (show u = Value.ref a from rx)
      obtain ⟨_, _, n, _, h1⟩ := (show ObjOk X.prog X.w H s.heap a (.lst xs) from I.hok a _ ea)
      exact looks_obj h1 rfl
    | @frz a ob xs ea =>
      cases (show u = Value.ref a from rx)
      obtain ⟨_, _, _, n, _, h1⟩ := (show ObjOk X.prog X.w H s.heap a (.frz ob (.lst xs)) from I.hok a _ ea)
      exact looks_obj h1 rfl
    | @tup a xs ea =>
      cases (show u = Value.ref a from rx)
      obtain ⟨_, _, _, o, h1, h2, _⟩ := (show ObjOk X.prog X.w H s.heap a (.tup xs) from I.hok a _ ea)
      exact looks_obj h1 h2
    | @dK a kvs ea =>
      cases (show u = Value.ref a from rx)
      obtain ⟨_, _, vs, _, o, es, ep, h1, h2, _⟩ := (show ObjOk X.prog X.w H s.heap a (.dK kvs) from I.hok a _ ea)
      exact looks_obj h1 h2.1
    | @dT a kvs ea =>
      cases (show u = Value.ref a from rx)
      obtain ⟨_, _, xs, _, o, es, ep, h1, h2, _⟩ := (show ObjOk X.prog X.w H s.heap a (.dT kvs) from I.hok a _ ea)
      exact looks_obj h1 h2.1
    | @ins a C dx fs ea cl ha hn htk hm =>
      cases (show u = Value.ref a from rx)
      obtain ⟨mA, O, _⟩ := ins_get I.hok ea
      obtain ⟨od, J, _⟩ := O.look
      exact J.type
  | byt y => obtain ⟨t, q⟩ := (show ∃ t, u = Value.bytes y t from rx); cases q; exact PySem.W.Looks.of_pure rfl
  | @set a S n ea =>
    cases (show u = Value.ref a from rx)
    obtain ⟨o, _, _, _, e, ex, _⟩ := I.hok a _ ea
    exact looks_obj e ex.1
  | @kList a o e c =>
    cases (show u = Value.ref a from rx)
    exact looks_obj (I.kIn a o e) c
  | @kTuple a o e c =>
    cases (show u = Value.ref a from rx)
    exact looks_obj (I.kIn a o e) c
  | @kDict a o e c =>
    cases (show u = Value.ref a from rx)
    exact looks_obj (I.kIn a o e) c
  | @fTuple a ob xs ea =>
    cases (show u = Value.ref a from rx)
    obtain ⟨_, _, _, _, o, h1, h2, _⟩ := (show ObjOk X.prog X.w H s.heap a (.frz ob (.tup xs)) from I.hok a _ ea)
    exact looks_obj h1 h2
  | @fDict a ob kvs ea =>
    cases (show u = Value.ref a from rx)
    obtain ⟨_, _, _, vs, _, o, es, ep, h1, h2, _⟩ := (show ObjOk X.prog X.w H s.heap a (.frz ob (.dK kvs)) from I.hok a _ ea)
    exact looks_obj h1 h2.1
theorem passE0 {X : Cx} : Passes (L2.CX X.prog X.w) X E0 := fun _ _ _ _ _ _ _ h => by
  obtain ⟨_, _, _, _, _, _, _, _, _, _, _, _, z⟩ := h
  exact z.elim
/-- a class with its own __eq__ -/
structure EqOf (K : PySem.W.Frag) (C f : Addr) : Prop where
  at_ : PySem.W.findIn K (.ref C) "__eq__" = some (some (.ref f))
  fn : PySem.W.isFn K (.ref f) = true
  first : (ty7.all fun t => PySem.W.notFirst K C (.type t)) = true
/-- x == y, x of that class -/
def rOwnEq (K : PySem.W.Frag) (C : Addr) (sp : Sp) : R2 := fun x y H Q => ∃ a dx fs tb, x = .ref a ∧ H a = some (.ins C dx fs) ∧ TyX K H y tb ∧ (∀ n, y ≠ .ty n) ∧ PySem.W.notFirst K C tb = true ∧ sp [x, y] H (fun v H' => ∃ b, v = .bl b ∧ Q (.bl b) H') E0
theorem op_ownEq {C f : Addr} {k : Nat} {fd : FuncData} {ps : List Str} {sp : Sp} (F : FnOk X.prog X.w X.K X.mg X.base (L2.CX X.prog X.w) k f fd ps sp) (eo : EqOf X.K C f) (hb : Binds X.K fd ps []) (hr : Room k X.A) : OpR X (compareOp .Eq) (rOwnEq X.K C sp) := by
  intro pins s σ H x y v u Q I rx ry hq
  obtain ⟨a, dx, fs, tb, rfl, ha, ty, hty, nf, hsp⟩ := hq
  cases rx
  obtain ⟨mA, J, _⟩ := ins_get I.hok ha
  obtain ⟨od, J, _⟩ := J.look
  obtain ⟨m, hF⟩ := I.fr
  show wpAny (model X.prog X.w) X.A (richCompare .Eq (.ref a) u) (EP X pins σ Q) X.xe s
  refine PySem.W.cmp_K (op := .Eq) (tb := tb) hr.units0 hF I.ok.mod.kin J (tyx_looks I ry ty hty) nf eo.at_ eo.fn ?_
  have hl := F.len _ _ _ _ hsp
  have r2 : Vals [V.ref a, y] [Value.ref a, u] := .cons rfl (.cons ry .nil)
  refine wpAny_call (codeAny_mono (F.run X.A X.stack s H ⟨[.ref a, u], []⟩ [.ref a, u] [.ref a, y] _ E0 hr I.env0 (by
    have := hb s [.ref a, u] I.kIn (by simpa using hl)
    simpa using this) r2 hsp) fun r s' hq => ?_)
  cases r with
  | error e => exact (passE0 pins σ H s e s' I hq)
  | ok fl =>
    cases fl with
    | ret w =>
      obtain ⟨z, H', I', rz, b, ez, q⟩ := I.after hq
      subst ez
      cases rz
      exact ⟨.bl b, H', I', rfl, q⟩
    | next => exact False.elim hq
    | brk => exact False.elim hq
    | cont => exact False.elim hq
end
end DM

end

section
set_option Elab.async false
set_option linter.all false
set_option maxRecDepth 100000
set_option maxHeartbeats 2000000
/-! DMp: one's own ==, != as mirrors; zip. -/
namespace DM
open PySem PySem.Spec PyProof.Rows L2
/-- what may stand right of one's own == : an object of the same class, or built-in data -/
def rightOk (st : Sto) (c : Str) (y : D) : Bool := match insOf st y with
  | some (c', _) => decide (c' = c)
  | none => (tyB st y).isSome
def blOf : R D → Sto → R D
  | .ok (.bl b) st, _ => .ok (.bl b) st
  | _, _ => .bad
def dEqO (c : Str) (n : Nat) (f : List D → Sto → R D) : D → D → Sto → R D := fun x y st => match insOf st x with
  | some (c', _) => if c' = c ∧ rightOk st c y = true then (match (if [x, y].length = n then f [x, y] st else .bad) with
    | .ok (.bl b) st => .ok (.bl b) st
    | _ => .bad) else .bad
  | none => .bad
theorem rep_noTy {wd : World} {K : PySem.W.Frag} {mg : Str → Option Value} {F : Hp} {β : List Addr} {v : V} {d : D} (r : Rep wd K mg F β v d) : ∀ n, v ≠ .ty n := by
  intro n e
  subst e
  cases r
theorem ty7_of {st : Sto} {d : D} {ty : String} (h : tyB st d = some ty) : ty ∈ ty7 := tyB_mem h
section
variable {T : List NdefX.NTab} {X : Cx} {W : WX} {a b e o i : Expr} {ms : MA} {ma mb : ME} {p pos : Pos}
theorem right_ty {C f : Addr} {c : Str} {F H : Hp} {β : List Addr} {st : Sto} {v : V} {d : D} (eo : EqOf X.K C f) (ci : ClsI X.K C) (hc : X.mg c = some (.ref C)) (g : Good (gX T X) F H β st) (r : Rep X.w X.K X.mg F β v d) (h : rightOk st c d = true) :
    ∃ tb, TyX X.K H v tb ∧ PySem.W.notFirst X.K C tb = true := by
  unfold rightOk at h
  cases ei : insOf st d with
  | some cf =>
    obtain ⟨c', fs⟩ := cf
    rw [ei] at h
    have e := of_decide_eq_true h
    subst e
    obtain ⟨q, C', dx, gs, ws, rfl, hC', ho, _⟩ := g.insR r ei
    have hC' : X.mg c' = some (.ref C') := hC'
    rw [hc] at hC'
    cases hC'
    exact ⟨.ref C, .base (.ins ho ci.cl ci.ha ci.hn ci.htk ci.hm), by simp [PySem.W.notFirst]⟩
  | none =>
    rw [ei] at h
    cases et : tyB st d with
    | none => rw [et] at h; cases h
    | some ty => exact ⟨_, tyX_of g r et, List.all_eq_true.mp eo.first ty (tyB_mem et)⟩
theorem od_eqO {C f : Addr} {c : Str} {n : Nat} {m : List D → Sto → R D} (eo : EqOf X.K C f) (ci : ClsI X.K C) (hc : X.mg c = some (.ref C)) : OpD (gX T X) (rOwnEq X.K C (spM (gX T X) n m)) (dEqO c n m) := by
  intro Wq F H β st x y d e Q g rx ry h
  unfold dEqO at h
  cases ei : insOf st d with
  | none => rw [ei] at h; exact h.elim
  | some cf =>
    obtain ⟨c', fs⟩ := cf
    rw [ei] at h
    dsimp only at h
    split at h
    · rename_i q
      obtain ⟨q1, q2⟩ := q
      subst q1
      obtain ⟨a, C', dx, gs, ws, rfl, hC', ho, _⟩ := g.insR rx ei
      have hC' : X.mg c' = some (.ref C') := hC'
      rw [hc] at hC'
      cases hC'
      obtain ⟨tb, ty, nf⟩ := right_ty eo ci hc g ry q2
      refine ⟨a, dx, gs, tb, rfl, ho, ty, rep_noTy ry, nf, F, β, st, [d, e], g, .cons rx (.cons ry .nil), ?_⟩
      cases em : (if [d, e].length = n then m [d, e] st else .bad) with
      | bad => simp only [em] at h; exact h
      | exc _ _ _ => simp only [em] at h; exact h.elim
      | ok z st' =>
        simp only [em] at h
        intro v H' F' β' a1 b1 g1 rv
        cases rv with
        | bl b => exact ⟨b, rfl, h _ H' F' β' a1 b1 g1 (.bl b)⟩
        | _ => exact h.elim
    · exact h.elim
/-! ### zip -/
def zipD : D → D → Option (List D)
  | .tup xs, .tup ys => some (List.zipWith (fun d e => .wtp [d, e]) xs ys)
  | .lst xs, .lst ys => some (List.zipWith (fun d e => .wtp [d, e]) xs ys)
  | _, _ => none
def mZip (ms : MA) : MI := fun ρ st => (ms ρ st).bind fun ds st => match ds with
  | [d, e] => match zipD d e with
    | some l => .ok l st
    | none => .bad
  | _ => .bad
theorem zipW_get {xs ys : List D} {i : Nat} {d : D} (h : (List.zipWith (fun d e => D.wtp [d, e]) xs ys)[i]? = some d) : ∃ x y, xs[i]? = some x ∧ ys[i]? = some y ∧ d = .wtp [x, y] := by
  rw [List.getElem?_zipWith] at h
  cases e1 : xs[i]? with
  | none => rw [e1] at h; cases h
  | some x =>
    cases e2 : ys[i]? with
    | none => rw [e1, e2] at h; cases h
    | some y => rw [e1, e2] at h; exact ⟨x, y, rfl, rfl, (Option.some.inj h).symm⟩
theorem wk_zipT {G : Gb} {F : Hp} {β : List Addr} {a b : Addr} {xs ys : List V} {ds es : List D} (s : SqT G.K F a xs) (s' : SqT G.K F b ys) (r : RepAll G.wd G.K G.mg F β xs ds) (r' : RepAll G.wd G.K G.mg F β ys es) : Wk G (RZ.ItzT G.K a b) F β (List.zipWith (fun d e => .wtp [d, e]) ds es) := fun i F2 H2 β2 st2 a2 b2 g2 => by
  have t1 : SqT G.K H2 a xs := g2.ex.stp (a2.stp s)
  have t2 : SqT G.K H2 b ys := g2.ex.stp (a2.stp s')
  refine ⟨fun h => ⟨xs, ys, t1, t2, ?_⟩, fun d hd => ?_⟩
  · rw [List.length_zipWith] at h
    rw [r.length, r'.length]
    omega
  · obtain ⟨d1, d2, e1, e2, rfl⟩ := zipW_get hd
    obtain ⟨x, hx, rx⟩ := r.get e1
    obtain ⟨y, hy, ry⟩ := r'.get e2
    refine ⟨⟨xs, ys, x, y, t1, t2, hx, hy⟩, fun v H' yl => ?_⟩
    obtain ⟨l, x', y', rfl, hn, rfl, q1, q2⟩ := yl
    have z1 := q1 xs t1
    have z2 := q2 ys t2
    rw [hx] at z1
    rw [hy] at z2
    cases z1
    cases z2
    have eF := Ex.new (o := .tup [x, y]) (g2.ex.none hn)
    exact ⟨_, eF, g2.new hn _, .wtp upd_same (.cons (rx.mono (a2.trans eF) b2) (.cons (ry.mono (a2.trans eF) b2) .nil))⟩
theorem wk_zipL {G : Gb} {F : Hp} {β : List Addr} {a b : Addr} {xs ys : List V} {ds es : List D} (s : SqL G.K F a xs) (s' : SqL G.K F b ys) (r : RepAll G.wd G.K G.mg F β xs ds) (r' : RepAll G.wd G.K G.mg F β ys es) : Wk G (Itz G.K a b) F β (List.zipWith (fun d e => .wtp [d, e]) ds es) := fun i F2 H2 β2 st2 a2 b2 g2 => by
  have t1 : SqL G.K H2 a xs := g2.ex.sl (a2.sl s)
  have t2 : SqL G.K H2 b ys := g2.ex.sl (a2.sl s')
  refine ⟨fun h => ⟨xs, ys, t1, t2, ?_⟩, fun d hd => ?_⟩
  · rw [List.length_zipWith] at h
    rw [r.length, r'.length]
    omega
  · obtain ⟨d1, d2, e1, e2, rfl⟩ := zipW_get hd
    obtain ⟨x, hx, rx⟩ := r.get e1
    obtain ⟨y, hy, ry⟩ := r'.get e2
    refine ⟨⟨xs, ys, x, y, t1, t2, hx, hy⟩, fun v H' yl => ?_⟩
    obtain ⟨l, x', y', rfl, hn, rfl, q1, q2⟩ := yl
    have z1 := q1 xs t1
    have z2 := q2 ys t2
    rw [hx] at z1
    rw [hy] at z2
    cases z1
    cases z2
    have eF := Ex.new (o := .tup [x, y]) (g2.ex.none hn)
    exact ⟨_, eF, g2.new hn _, .wtp upd_same (.cons (rx.mono (a2.trans eF) b2) (.cons (ry.mono (a2.trans eF) b2) .nil))⟩
theorem ei_zip {tpos : Pos} {elts : List Expr} {kk : Nat} (hm : X.mg "zip" = none) (ha : EvA T X W [a, b] ms) (hg : Gl X "zip" := by rfl)
    (hs : starEach [a, b] X.env = (false, eval a X.env) :: starEach [b] X.env := by rfl) (hpl : (backTo pos (starEach [b] X.env)).any (·.1) = false := by rfl) :
    EvI T X W (.Tuple elts kk tpos) (.Call (.Name "zip" p) [a, b] [] pos) (mZip ms) :=
  pi_imp (RZ.pi_zipA hg hm ha hs hpl) fun σ H Q ⟨F, β, ρ, st, g, er, h⟩ => tMA_imp (tMA_I g er h) fun vs H1 ⟨F1, β1, ds, st1, a1, b1, g1, er1, r1, h1⟩ => by
    split at h1
    · rename_i d e
      cases r1 with
      | cons q1 rr =>
        cases rr with
        | cons q2 rr =>
          cases rr
          cases ez : zipD d e with
          | none => simp only [ez] at h1; exact h1.elim
          | some l =>
            simp only [ez] at h1
            unfold zipD at ez
            split at ez
            · cases ez
              cases q1 with
              | tup s r =>
                cases q2 with
                | tup s' r' => exact ⟨_, _, _, _, rfl, .inr ⟨g1.ex.stp s.sq, g1.ex.stp s'.sq, h1 _ H1 F1 β1 (Ex.refl _) (Pre.refl _) g1 (wk_zipT s.sq s'.sq r r')⟩⟩
            · cases ez
              cases q1 with
              | lst s r =>
                cases q2 with
                | lst s' r' => exact ⟨_, _, _, _, rfl, .inl ⟨g1.ex.sl s, g1.ex.sl s', h1 _ H1 F1 β1 (Ex.refl _) (Pre.refl _) g1 (wk_zipL s s' r r')⟩⟩
            · cases ez
    · exact h1.elim
end
end DM

end

section
set_option Elab.async false
set_option linter.all false
set_option maxRecDepth 100000
set_option maxHeartbeats 2000000
/-! DMq: one's own !=; calls with keywords alone. -/
namespace DM
open PySem PySem.Spec PyProof.Rows L2
theorem ns_some_of {K : PySem.W.Frag} {h : Heap} {N : Addr} {m : Str → Option Value} {n : Str} {v : Value} (X : K.In h) (G : h.Ns N m) (e : PySem.W.nsIn K N n = some (some v)) : m n = some v := by
  obtain ⟨o, es, ep, ho, hd, _, hf⟩ := G
  unfold PySem.W.nsIn at e
  split at e
  · rename_i c d es' n' sl q
    have := X _ _ q
    rw [ho] at this
    cases this
    cases hd
    split at e
    · rename_i en he
      cases e
      rw [← hf]
      unfold nsFind findBy
      rw [← Array.find?_toList, he]
      rfl
    · split at e <;> cases e
  · cases e
/-- a class right under object, with its own __eq__ and no __ne__ -/
structure NeOf (K : PySem.W.Frag) (C f N : Addr) : Prop where
  cls : ∃ nm q bs hdct sn sub ab col dd k0 k1 k2 k3 k5 newId, K.lookup C = some (excClassObj nm q C N bs [.type "object"] hdct sn sub ab col dd k0 k1 k2 k3 k5 newId)
  ok : PySem.W.nsOkIn K N = true
  eq : PySem.W.nsIn K N "__eq__" = some (some (.ref f))
  ne : PySem.W.nsIn K N "__ne__" = some none
  fn : ∃ of, K.lookup f = some of ∧ of.cls = .type "function"
theorem obj_eq : ∃ y, typeLookup (.type "object") "__eq__" = pure y := ⟨_, PySem.F.cmp_object.eq.lookup⟩
theorem NeOf.at_ {K : PySem.W.Frag} {C f N x dx : Addr} {h : Heap} {od : Obj} (n : NeOf K C f N) (X : K.In h) (I : PySem.W.InstAt h x (PySem.W.instObj C dx) C (some od)) : h.OwnEqNoNe x C f "object" [.type "object"] := by
  obtain ⟨nm, q, bs, hdct, sn, sub, ab, col, dd, k0, k1, k2, k3, k5, newId, hC⟩ := n.cls
  obtain ⟨of, hf, hfc⟩ := n.fn
  obtain ⟨y, hy⟩ := obj_eq
  have G : h.Ns N (h.nsMap N) := .of_isNs (PySem.W.isNs_of_in X n.ok)
  exact ⟨_, of, nm, q, N, bs, hdct, sn, sub, ab, col, dd, k0, k1, k2, k3, k5, newId, h.nsMap N, y, I.at_, I.cls, X _ _ hC, G, ns_some_of X G n.eq, X _ _ hf, hfc, PySem.F.cmp_object.mro, hy, PySem.W.ns_none_of X G n.ne⟩
def rOwnNe (C : Addr) (sp : Sp) : R2 := fun x y H Q => ∃ a b dx dy fs gs, x = .ref a ∧ y = .ref b ∧ H a = some (.ins C dx fs) ∧ H b = some (.ins C dy gs) ∧ sp [x, y] H (fun v H' => ∃ b, v = .bl b ∧ Q (.bl (!b)) H') E0
section
variable {X : Cx} {pins : List (Addr × Obj)} {σ : L2.St} {H : Hp} {s : Shared}
theorem op_ownNe {C f N : Addr} {k : Nat} {fd : FuncData} {ps : List Str} {sp : Sp} (F : FnOk X.prog X.w X.K X.mg X.base (L2.CX X.prog X.w) k f fd ps sp) (no : NeOf X.K C f N) (hb : Binds X.K fd ps []) (hr : Room (k + 1) X.A) : OpR X (compareOp .NotEq) (rOwnNe C sp) := by
  intro pins s σ H x y v u Q I rx ry hq
  obtain ⟨a, b, dx, dy, fs, gs, rfl, rfl, ha, hb', hsp⟩ := hq
  cases rx
  cases ry
  obtain ⟨mA, J, _⟩ := ins_get I.hok ha
  obtain ⟨od, J, _⟩ := J.look
  obtain ⟨mB, J', _⟩ := ins_get I.hok hb'
  obtain ⟨od', J', _⟩ := J'.look
  have own := no.at_ I.kIn J
  obtain ⟨hp, g, d, tk, os⟩ := s
  refine PySem.compareOp_ne_ownEq PySem.F.cmp_object own J'.at_ J'.cls (Nat.lt_of_le_of_lt (Nat.add_le_add_left (by decide : 1 ≤ 64) _) hr.units) ?_
  have hl := F.len _ _ _ _ hsp
  have r2 : Vals [V.ref a, V.ref b] [Value.ref a, Value.ref b] := .cons rfl (.cons rfl .nil)
  refine wpAny_call (codeAny_mono (F.run X.A.in1 X.stack _ H ⟨[.ref a, .ref b], []⟩ [.ref a, .ref b] [.ref a, .ref b] _ E0 hr.in1 I.env0.in1 (by
    have := hb _ [.ref a, .ref b] I.kIn (by simpa using hl)
    simpa using this) r2 hsp) fun r s' hq => ?_)
  cases r with
  | error e => exact (passE0 pins σ H _ e s' I hq)
  | ok fl =>
    cases fl with
    | ret w =>
      obtain ⟨z, H', I', rz, b, ez, q⟩ := I.after hq
      subst ez
      cases rz
      exact ⟨b, rfl, .bl (!b), H', I', rfl, q⟩
    | next => exact False.elim hq
    | brk => exact False.elim hq
    | cont => exact False.elim hq
end
def dNeO (c : Str) (n : Nat) (f : List D → Sto → R D) : D → D → Sto → R D := fun x y st => match insOf st x with
  | some (c', _) => match insOf st y with
    | some (c2, _) => if c' = c ∧ c2 = c then (match (if [x, y].length = n then f [x, y] st else .bad) with
      | .ok (.bl b) st => .ok (.bl (!b)) st
      | _ => .bad) else .bad
    | none => .bad
  | none => .bad
section
variable {T : List NdefX.NTab} {X : Cx} {W : WX} {E : XK}
theorem od_neO {C : Addr} {c : Str} {n : Nat} {m : List D → Sto → R D} (hc : X.mg c = some (.ref C)) : OpD (gX T X) (rOwnNe C (spM (gX T X) n m)) (dNeO c n m) := by
  intro Wq F H β st x y d e Q g rx ry h
  unfold dNeO at h
  cases ei : insOf st d with
  | none => simp only [ei] at h; exact h.elim
  | some cf =>
    obtain ⟨c', fs⟩ := cf
    cases ei2 : insOf st e with
    | none => simp only [ei, ei2] at h; exact h.elim
    | some cf2 =>
      obtain ⟨c2, fs2⟩ := cf2
      simp only [ei, ei2] at h
      split at h
      · rename_i q
        obtain ⟨q1, q2⟩ := q
        subst q1
        subst q2
        obtain ⟨a, C', dx, gs, ws, rfl, hC', ho, _⟩ := g.insR rx ei
        obtain ⟨b, C2, dy, gs2, ws2, rfl, hC2, ho2, _⟩ := g.insR ry ei2
        have hC' : X.mg c2 = some (.ref C') := hC'
        have hC2 : X.mg c2 = some (.ref C2) := hC2
        rw [hc] at hC' hC2
        cases hC'
        cases hC2
        refine ⟨a, b, dx, dy, gs, gs2, rfl, rfl, ho, ho2, F, β, st, [d, e], g, .cons rx (.cons ry .nil), ?_⟩
        cases em : (if [d, e].length = n then m [d, e] st else .bad) with
        | bad => simp only [em] at h; exact h
        | exc _ _ _ => simp only [em] at h; exact h.elim
        | ok z st' =>
          simp only [em] at h
          intro v H' F' β' a1 b1 g1 rv
          cases rv with
          | bl b => exact ⟨b, rfl, h _ H' F' β' a1 b1 g1 (.bl _)⟩
          | _ => exact h.elim
      · exact h.elim
/-! ### keywords -/
/-- the keywords' values, from the left -/
def EvK (T : List NdefX.NTab) (X : Cx) (W : WX) (kws : List Keyword) (m : MA) : Prop := PK X kws (tMA (gX T X) W m)
theorem pk_imp {X : Cx} {kws : List Keyword} {t t' : TA} (h : PK X kws t) (i : ∀ σ H Q, t' σ H Q → t σ H Q) : PK X kws t' := ⟨fun pos pins s σ H Q I q => h.run pos pins s σ H Q I (i σ H Q q)⟩
theorem ek_nil : EvK T X W [] mNil := pk_imp pk_nil fun σ H Q ⟨F, β, ρ, st, g, er, h⟩ => h [] H F β (Ex.refl _) (Pre.refl _) g .nil
theorem ek_cons {e : Expr} {kws : List Keyword} {m : ME} {ms : MA} {nm : Option Str} {kpos : Pos} (he : EvE T X W e m) (hr : EvK T X W kws ms) : EvK T X W (⟨nm, e, kpos⟩ :: kws) (mCons m ms) :=
  pk_imp (pk_cons he hr) fun σ H Q ⟨F, β, ρ, st, g, er, h⟩ => tM_imp (tM_A g er h) fun v H1 ⟨F1, β1, d, st1, a1, b1, g1, er1, r1, h1⟩ => tMA_imp (tMA_A g1 er1 h1) fun vs H2 ⟨F2, β2, ds, st2, a2, b2, g2, er2, r2, h2⟩ =>
    h2 _ H2 F2 β2 (Ex.refl _) (Pre.refl _) g2 (.cons (r1.mono a2 b2) r2)
/-- the values in the parameters' order -/
def permD {α : Type} (is : List Nat) (zs : List α) : List α := is.filterMap fun i => zs[i]?
theorem rep_perm {wd : World} {K : PySem.W.Frag} {mg : Str → Option Value} {F : Hp} {β : List Addr} {vs : List V} {ds : List D} (r : RepAll wd K mg F β vs ds) (is : List Nat) : RepAll wd K mg F β (permD is vs) (permD is ds) := by
  induction is with
  | nil => exact .nil
  | cons i is ih =>
    unfold permD at ih ⊢
    rw [List.filterMap_cons, List.filterMap_cons]
    cases e : ds[i]? with
    | none =>
      have : vs[i]? = none := by
        rw [List.getElem?_eq_none_iff] at e ⊢
        rw [r.length]
        exact e
      rw [this]
      exact ih
    | some d =>
      obtain ⟨v, hv, rv⟩ := r.get e
      rw [hv]
      exact .cons rv ih
theorem vals_perm {zs : List V} {ws : List Value} (r : Vals zs ws) (is : List Nat) : Vals (permD is zs) (permD is ws) := by
  induction is with
  | nil => exact .nil
  | cons i is ih =>
    unfold permD at ih ⊢
    rw [List.filterMap_cons, List.filterMap_cons]
    cases e : zs[i]? with
    | none =>
      rw [r.none_of e]
      exact ih
    | some d =>
      obtain ⟨v, hv, rv⟩ := r.get e
      rw [hv]
      exact .cons rv ih
/-- how a call by names alone binds: the values in the order is -/
structure KWb (K : PySem.W.Frag) (fd : FuncData) (ps ks : List Str) (is : List Nat) : Prop where
  to : ∀ (s : Shared) (ws : List Value), K.In s.heap → ws.length = ks.length → BindsTo s fd ⟨[], ks.zip ws⟩ (ps.zip (permD is ws))
/-- .. behind the new object -/
structure KWm (K : PySem.W.Frag) (fd : FuncData) (ps ks : List Str) (is : List Nat) : Prop where
  to : ∀ (s : Shared) (u : Value) (ws : List Value), K.In s.heap → ws.length = ks.length → BindsTo s fd ⟨[u], ks.zip ws⟩ (ps.zip (u :: permD is ws))
def mCallK (n l : Nat) (is : List Nat) (f : List D → Sto → R D) (ms : MA) : ME := fun ρ st => (ms ρ st).bind fun zs st => if zs.length = l ∧ (permD is zs).length = n then f (permD is zs) st else .bad
section
variable {k n : Nat} {f C : Addr} {fd : FuncData} {ps ks : List Str} {is : List Nat} {m : List D → Sto → R D} {x : Str} {p pos : Pos} {kws : List Keyword} {ms : MA}
/-- f(k = v, ..) -/
theorem pe_callK0 {sp : Sp} {tk : TA} {P : L2.St → XK} (F : FnOk X.prog X.w X.K X.mg X.base (L2.CX X.prog X.w) k f fd ps sp) (hr : Room k X.A) (hm : X.mg x = some (.ref f)) (hk : PySem.W.keepIn X.K (.ref f) = true) (hb : KWb X.K fd ps ks is) (hP : ∀ σ, PassesAt (L2.CX X.prog X.w) X σ (P σ)) (hkw : PK X kws tk)
    (hall : (backToKw pos (keywordEach kws X.env)).all (·.1.isSome) = true) (hks : (backToKw pos (keywordEach kws X.env)).filterMap (·.1) = ks) (hg : Gl X x) (hdb : (x == ("__debug__" : Str)) = false)
    (hpl : ((backTo pos (starEach [] X.env)).any (·.1) || (backToKw pos (keywordEach kws X.env)).any (·.1.isNone)) = false) :
    PE X (.Call (.Name x p) [] kws pos) (fun σ H Q => tk σ H fun zs H1 => zs.length = ks.length ∧ sp (permD is zs) H1 Q (P σ)) := by
  refine ⟨fun pins s σ H Q I h => ?_⟩
  refine wpAny_Call_Name_kw (ld_glob I hg hm ?_ hdb)
  refine PySem.W.callWith_KW0 (h₀ := X.base) I.ok.mod.kin hk hall ?_ hpl
  refine thn (hkw.run pos pins s σ H _ I h) fun ws s2 ⟨zs, H2, I2, rz, l2, q2⟩ => ⟨I2.kIn, ?_⟩
  rw [hks]
  have r2 := vals_perm rz is
  refine wpAny_call (codeAny_mono (F.run X.A X.stack s2 H2 ⟨[], ks.zip ws⟩ (permD is ws) (permD is zs) Q (P σ) hr I2.env0 (hb.to s2 ws I2.kIn (rz.length.symm.trans l2)) r2 q2) fun r s' hq => ?_)
  cases r with
  | error e => exact hP σ pins H2 s2 e s' I2 hq
  | ok fl =>
    cases fl with
    | ret u => exact I2.after hq
    | next => exact False.elim hq
    | brk => exact False.elim hq
    | cont => exact False.elim hq
theorem ev_callK (l : Nat) (is : List Nat) (F : FnOk X.prog X.w X.K X.mg X.base (L2.CX X.prog X.w) k f fd ps (spM (gX T X) n m)) (hr : Room k X.A) (hm : X.mg x = some (.ref f)) (hk : PySem.W.keepIn X.K (.ref f) = true) (hb : KWb X.K fd ps ks is) (tk : Takes X W) (hkw : EvK T X W kws ms) (hl : ks.length = l)
    (hall : (backToKw pos (keywordEach kws X.env)).all (·.1.isSome) = true := by rfl) (hks : (backToKw pos (keywordEach kws X.env)).filterMap (·.1) = ks := by rfl) (hg : Gl X x := by rfl) (hdb : (x == ("__debug__" : Str)) = false := by decide)
    (hpl : ((backTo pos (starEach [] X.env)).any (·.1) || (backToKw pos (keywordEach kws X.env)).any (·.1.isNone)) = false := by rfl) :
    EvE T X W (.Call (.Name x p) [] kws pos) (mCallK n l is m ms) :=
  pe_imp (pe_callK0 (P := fun σ => WE W σ) F hr hm hk hb (fun σ => passAt tk σ) hkw hall hks hg hdb hpl) fun σ H Q ⟨F1, β, ρ, st, g, er, h⟩ =>
    tMA_imp (tMA_E g er h) fun vs H1 ⟨F2, β2, ds, st2, a2, b2, g2, er2, r2, h2⟩ => by
      split at h2
      · rename_i q
        exact ⟨by rw [r2.length, hl]; exact q.1, F2, β2, st2, permD is ds, g2, rep_perm r2 is, by rw [if_pos q.2]; exact h2⟩
      · exact h2.elim
/-- C(k = v, ..) -/
theorem pe_makeK1 {sp : Sp} {tk : TA} (M : Mk X.K C f) (F : FnOk X.prog X.w X.K X.mg X.base (L2.CX X.prog X.w) k f fd ps sp) (hr : Room (k + 1) X.A) (hm : X.mg x = some (.ref C)) (hb : KWm X.K fd ps ks is) (hx : Passes (L2.CX X.prog X.w) X E) (hkw : PK X kws tk)
    (hall : (backToKw pos (keywordEach kws X.env)).all (·.1.isSome) = true) (hks : (backToKw pos (keywordEach kws X.env)).filterMap (·.1) = ks) (hg : Gl X x) (hdb : (x == ("__debug__" : Str)) = false)
    (hpl : ((backTo pos (starEach [] X.env)).any (·.1) || (backToKw pos (keywordEach kws X.env)).any (·.1.isNone)) = false) :
    PE X (.Call (.Name x p) [] kws pos) (fun σ H Q => tk σ H fun zs H2 => zs.length = ks.length ∧ ∀ y dx, H2 y = none → H2 dx = none → dx ≠ y → sp (.ref y :: permD is zs) (upd (upd H2 dx (.own y)) y (.ins C dx [])) (fun v H3 => v = .non ∧ Q (.ref y) H3) E) := by
  refine ⟨fun pins s σ H Q I h => ?_⟩
  refine wpAny_Call_Name_kw (ld_glob I hg hm ?_ hdb)
  refine PySem.W.callWith_KW0 (h₀ := X.base) I.ok.mod.kin M.kp hall ?_ hpl
  refine thn (hkw.run pos pins s σ H _ I h) fun ws s2 ⟨zs, H2, I2, rz, l2, q2⟩ => ⟨I2.kIn, ?_⟩
  rw [hks]
  have hq := q2 (s2.heap.objs.size + 1) s2.heap.objs.size (I2.hok.fresh (Nat.le_succ _)) (I2.hok.fresh (Nat.le_refl _)) (Nat.ne_of_lt (Nat.lt_succ_self _))
  have I3 := Inv.made (C := C) I2
  have r2 : Vals (V.ref (s2.heap.objs.size + 1) :: permD is zs) (Value.ref (s2.heap.objs.size + 1) :: permD is ws) := .cons rfl (vals_perm rz is)
  refine wpAny_call (make_map (f := f) I2.kIn M.makes M.init (beq_iff_eq.mp M.fn) (codeAny_mono (F.run _ X.stack _ _ ⟨[Value.ref (s2.heap.objs.size + 1)], ks.zip ws⟩ (Value.ref (s2.heap.objs.size + 1) :: permD is ws) _ _ E (hr.make C [] (ks.zip ws))
    (I3.env0.make C [] (ks.zip ws)) (hb.to _ (Value.ref (s2.heap.objs.size + 1)) ws I3.kIn (rz.length.symm.trans l2)) r2 hq) fun r s' hq' => ?_))
  cases r with
  | error e => exact hx pins σ _ _ e s' I3 hq'
  | ok fl =>
    cases fl with
    | ret u =>
      obtain ⟨v, H', I4, rv, ev, q3⟩ := I3.after hq'
      subst ev
      exact ⟨rv, ⟨V.ref (s2.heap.objs.size + 1), H', I4, rfl, q3⟩⟩
    | next => exact False.elim hq'
    | brk => exact False.elim hq'
    | cont => exact False.elim hq'
def mPerm (l : Nat) (is : List Nat) (ms : MA) : MA := fun ρ st => (ms ρ st).bind fun zs st => if zs.length = l then .ok (permD is zs) st else .bad
theorem ev_makeK {frz : Bool} {c : Str} (l : Nat) (is : List Nat) (M : Mk X.K C f) (F : FnOk X.prog X.w X.K X.mg X.base (L2.CX X.prog X.w) k f fd ps (spM (gX T X) n m)) (hr : Room (k + 1) X.A) (hm : X.mg c = some (.ref C)) (hb : KWm X.K fd ps ks is) (tk : Takes X (wF E)) (hkw : EvK T X (wF E) kws ms) (hl : ks.length = l)
    (hall : (backToKw pos (keywordEach kws X.env)).all (·.1.isSome) = true := by rfl) (hks : (backToKw pos (keywordEach kws X.env)).filterMap (·.1) = ks := by rfl) (hg : Gl X c := by rfl) (hdb : (c == ("__debug__" : Str)) = false := by decide)
    (hpl : ((backTo pos (starEach [] X.env)).any (·.1) || (backToKw pos (keywordEach kws X.env)).any (·.1.isNone)) = false := by rfl) :
    EvE T X (wF E) (.Call (.Name c p) [] kws pos) (mMake frz c n m (mPerm l is ms)) :=
  pe_imp (pe_makeK1 (E := E) M F hr hm hb (passes_call tk fun _ _ _ _ h => h) hkw hall hks hg hdb hpl) fun σ H Q ⟨F0, β, ρ, st, g, er, h⟩ => by
    have h : PostE (gX T X) (wAt (wF E) σ) F0 β Q ((ms ρ st).bind fun zs st => if zs.length = l then mMake frz c n m (fun _ st => .ok (permD is zs) st) ρ st else .bad) := by
      unfold mMake mPerm at h
      unfold mMake
      cases e : ms ρ st with
      | ok zs st1 =>
        rw [e] at h
        simp only [R.bind_ok] at h ⊢
        split
        · rename_i q
          rw [if_pos q] at h
          exact h
        · rename_i q
          rw [if_neg q] at h
          exact h
      | exc _ _ _ => rw [e] at h; exact h
      | bad => rw [e] at h; exact h
    refine tMA_imp (tMA_E g er h) fun vs H1 ⟨F1, β1, ds, st1, a1, b1, g1, er1, r1, h1⟩ => ?_
    split at h1
    · rename_i q
      refine ⟨by rw [r1.length, hl]; exact q, ?_⟩
      exact make_step hm g1 (rep_perm r1 is) h1
    · exact h1.elim
end
end
end DM

end

section
set_option Elab.async false
set_option linter.all false
set_option maxRecDepth 100000
set_option maxHeartbeats 4000000
/-! DMr: list.sort(key=f), f a function that is walked: the machine. -/
namespace DM
open PySem PySem.Spec PyProof.Rows L2
/-! ### sorting by insertion -/
section
variable {α β : Type}
def ins1 (le : α → α → Bool) (a : α) : List α → List α
  | [] => [a]
  | b :: r => if le a b then a :: b :: r else b :: ins1 le a r
def insS (le : α → α → Bool) : List α → List α
  | [] => []
  | a :: r => ins1 le a (insS le r)
theorem ins1_at {le : α → α → Bool} {a : α} : ∀ (l₁ : List α) {l₂ : List α}, (∀ b ∈ l₁, (!le a b) = true) → (∀ b ∈ l₂, le a b = true) → ins1 le a (l₁ ++ l₂) = l₁ ++ a :: l₂
  | [], [], _, _ => rfl
  | [], b :: r, _, h => by
    show (if le a b then _ else _) = _
    rw [if_pos (h b List.mem_cons_self)]
    rfl
  | c :: l₁, l₂, h1, h2 => by
    have hc : le a c = false := by simpa using h1 c List.mem_cons_self
    show (if le a c then _ else _) = _
    rw [hc, if_neg Bool.false_ne_true]
    exact congrArg (c :: ·) (ins1_at l₁ (fun b hb => h1 b (List.mem_cons_of_mem _ hb)) h2)
theorem merge_ins {le : α → α → Bool} (tr : ∀ a b c, le a b = true → le b c = true → le a c = true) (tt : ∀ a b, (le a b || le b a) = true) : ∀ l : List α, l.mergeSort le = insS le l
  | [] => by rw [List.mergeSort_nil]; rfl
  | a :: l => by
    obtain ⟨l₁, l₂, e1, e2, h⟩ := List.mergeSort_cons tr tt a l
    have hs := List.pairwise_mergeSort tr tt (a :: l)
    rw [e1] at hs ⊢
    have h2 : ∀ b ∈ l₂, le a b = true := fun b hb => (List.pairwise_cons.mp (List.pairwise_append.mp hs).2.1).1 b hb
    rw [insS, ← merge_ins tr tt l, e2, ins1_at l₁ h h2]
theorem map_ins1 {le : β → β → Bool} (f : α → β) (a : α) : ∀ l : List α, (ins1 (fun x y => le (f x) (f y)) a l).map f = ins1 le (f a) (l.map f)
  | [] => rfl
  | b :: r => by
    rw [List.map_cons]
    show (if le (f a) (f b) then _ else _ : List α).map f = if le (f a) (f b) then _ else _
    split
    · rfl
    · rw [List.map_cons, map_ins1 f a r]
theorem map_insS {le : β → β → Bool} (f : α → β) : ∀ l : List α, (insS (fun x y => le (f x) (f y)) l).map f = insS le (l.map f)
  | [] => rfl
  | a :: r => by
    rw [insS, map_ins1, map_insS f r]
    rfl
theorem ins1_mem {le : α → α → Bool} {a x : α} : ∀ {l : List α}, x ∈ ins1 le a l → x = a ∨ x ∈ l
  | [], h => by simpa [ins1] using h
  | b :: r, h => by
    rw [ins1] at h
    split at h
    · simpa using h
    · rcases List.mem_cons.mp h with e | h
      · exact .inr (e ▸ List.mem_cons_self)
      · rcases ins1_mem h with e | h
        · exact .inl e
        · exact .inr (List.mem_cons_of_mem _ h)
theorem insS_mem {le : α → α → Bool} {x : α} : ∀ {l : List α}, x ∈ insS le l → x ∈ l
  | [], h => h
  | a :: r, h => by
    rcases ins1_mem h with e | h
    · exact e ▸ List.mem_cons_self
    · exact List.mem_cons_of_mem _ (insS_mem h)
theorem ins1_len {le : α → α → Bool} {a : α} : ∀ {l : List α}, (ins1 le a l).length = l.length + 1
  | [] => rfl
  | b :: r => by
    rw [ins1]
    split
    · rfl
    · rw [List.length_cons, ins1_len, List.length_cons]
theorem insS_len {le : α → α → Bool} : ∀ {l : List α}, (insS le l).length = l.length
  | [] => rfl
  | a :: r => by rw [insS, ins1_len, insS_len, List.length_cons]
end
/-- the order of keys -/
abbrev leKey (p q : D × PyData) : Bool := PySem.W.dataLe false (·.2) p q
/-- the things in the order of their keys -/
def byKey (ds : List D) (kz : List PyData) : List D := (insS leKey (ds.zip kz)).map (·.1)
/-! ### keys of one shape -/
mutual
def eqShp : PyData → PyData → Bool
  | .int _, .int _ => true
  | .str _, .str _ => true
  | .tuple xs, .tuple ys => eqShps xs ys
  | _, _ => false
def eqShps : List PyData → List PyData → Bool
  | [], [] => true
  | x :: xs, y :: ys => eqShp x y && eqShps xs ys
  | _, _ => false
end
mutual
theorem eqShp_alike : ∀ {x y z : PyData}, eqShp x y = true → eqShp x z = true → PySem.W.alike y z = true
  | .int _, .int _, .int _, _, _ => rfl
  | .str _, .str _, .str _, _, _ => rfl
  | .tuple xs, .tuple ys, .tuple zs, h1, h2 => by
    rw [eqShp] at h1 h2
    rw [PySem.W.alike]
    exact eqShps_alike h1 h2
  | .none, _, _, h, _ => by simp [eqShp] at h
  | .bool _, _, _, h, _ => by simp [eqShp] at h
  | .dict _, _, _, h, _ => by simp [eqShp] at h
  | .list _, _, _, h, _ => by simp [eqShp] at h
theorem eqShps_alike : ∀ {xs ys zs : List PyData}, eqShps xs ys = true → eqShps xs zs = true → PySem.W.alikeAll ys zs = true
  | [], [], _, _, _ => by rw [PySem.W.alikeAll]
  | x :: xs, y :: ys, z :: zs, h1, h2 => by
    rw [eqShps, Bool.and_eq_true] at h1 h2
    rw [PySem.W.alikeAll, eqShp_alike h1.1 h2.1, eqShps_alike h1.2 h2.2]
    rfl
  | x :: xs, y :: ys, [], _, h2 => by simp [eqShps] at h2
  | x :: xs, [], _, h1, _ => by simp [eqShps] at h1
  | [], y :: ys, _, h1, _ => by simp [eqShps] at h1
end
end DM

end

section
set_option Elab.async false
set_option linter.all false
set_option maxRecDepth 100000
set_option maxHeartbeats 4000000
/-! DMs: list.sort(key=f): the keys are made by calls of f, then all is sorted. -/
namespace DM
open PySem PySem.Spec PyProof.Rows L2
/-- the keys, one after the other -/
def keysM (mk : D → Sto → R D) : List D → Sto → R (List D)
  | [], st => .ok [] st
  | d :: ds, st => match mk d st with
    | .ok k st => match keysM mk ds st with
      | .ok ks st => .ok (k :: ks) st
      | _ => .bad
    | _ => .bad
section
variable {X : Cx} {pins : List (Addr × Obj)} {σ : L2.St} {H : Hp} {s : Shared} {T : List NdefX.NTab}
theorem inv_pins {P P' : List (Addr × Obj)} (I : Inv X P σ H s) (h : ∀ p ∈ P', p ∈ P) : Inv X P' σ H s :=
  I.pins_of fun p hp => I.pin p (List.mem_append_right _ (h p hp))
/-- f called: the mirror mk -/
def KeyCall (T : List NdefX.NTab) (X : Cx) (A : Around) (P : List (Addr × Obj)) (σ : L2.St) (F0 : Hp) (β0 : List Addr) (f : Value) (mk : D → Sto → R D) : Prop :=
  ∀ (P' : List (Addr × Obj)) (s : Shared) (F H : Hp) (β : List Addr) (st : Sto) (x : V) (d : D) (u : Value) (k : D) (st2 : Sto), (∀ p ∈ P, p ∈ P') → Inv X P' σ H s → Good (gX T X) F H β st → Ex F0 F → Pre β0 β → Rep X.w X.K X.mg F β x d → RelV x u → mk d st = .ok k st2 →
    wpAny (model X.prog X.w) A (call f [u]) (fun v s2 => ∃ y F2 H2 β2, Inv X P' σ H2 s2 ∧ Ex F F2 ∧ Pre β β2 ∧ Good (gX T X) F2 H2 β2 st2 ∧ RelV y v ∧ Rep X.w X.K X.mg F2 β2 y k) (fun _ _ => False) s
theorem keys_split {mk : D → Sto → R D} {d : D} {ds : List D} {st st' : Sto} {ks : List D} (h : keysM mk (d :: ds) st = .ok ks st') : ∃ k st1 kr, mk d st = .ok k st1 ∧ keysM mk ds st1 = .ok kr st' ∧ ks = k :: kr := by
  rw [keysM] at h
  cases e : mk d st with
  | ok k st1 =>
    rw [e] at h
    cases e2 : keysM mk ds st1 with
    | ok kr st2 =>
      simp only [e2] at h
      cases h
      exact ⟨k, st1, kr, rfl, e2, rfl⟩
    | exc _ _ _ => simp only [e2] at h; cases h
    | bad => simp only [e2] at h; cases h
  | exc _ _ _ => rw [e] at h; cases h
  | bad => rw [e] at h; cases h
/-- the phase of the keys -/
theorem keyPhase {A : Around} {P : List (Addr × Obj)} {a kS : Addr} {f : Value} {mk : D → Sto → R D} {e1 : Nat} {vs : List Value} {xs : List V} {ds ks : List D} {F : Hp} {β : List Addr} {st st' : Sto} {E : Value → Shared → Prop} {R' : PySem.Fin → Shared → Prop}
    (I : Inv X (P ++ [(a, seqObj "list" #[] e1), (kS, seqObj "list" #[] 0)]) σ H s) (fk : FpOk X (P ++ [(a, seqObj "list" #[] e1)]) H kS) (hka : kS ≠ a) (rv : Vals xs vs) (g : Good (gX T X) F H β st) (r : RepAll X.w X.K X.mg F β xs ds) (hk : keysM mk ds st = .ok ks st') (hZ : vs.length ≤ sizeLine)
    (turn : KeyCall T X A P σ F β f mk)
    (done : ∀ (s' : Shared) (F' H' : Hp) (β' : List Addr) (kA : Array Value) (e : Nat) (kvs : List V), Inv X (P ++ [(a, seqObj "list" #[] e1), (kS, seqObj "list" kA e)]) σ H' s' → Ex F F' → Pre β β' → Good (gX T X) F' H' β' st' → Vals kvs kA.toList → RepAll X.w X.K X.mg F' β' kvs ks →
      wpAny (model X.prog X.w) A (ksk_end a false vs.toArray e1 (.ref kS) kA) R' E s') :
    wpAny (model X.prog X.w) A (ksk_rest a f false vs.toArray e1 (.ref kS)) R' E s := by
  unfold ksk_rest
  refine wpAny_bind (wpAny_rule ?_)
  first
    | rw [List.forIn_toArray]
    | (rw [← Array.forIn_toList]; simp only [List.toList_toArray])
    | rw [← Array.forIn_toList]
  have l1 := rv.length
  have l2 := r.length
  refine wpAny_bind (ksk_fold (fun i s' => ∃ F' H' β' st1 kA e kvs kds kr, Inv X (P ++ [(a, seqObj "list" #[] e1), (kS, seqObj "list" kA e)]) σ H' s' ∧ Ex F F' ∧ Pre β β' ∧ Good (gX T X) F' H' β' st1 ∧ Vals kvs kA.toList ∧ RepAll X.w X.K X.mg F' β' kvs kds ∧ kds.length = i ∧ keysM mk (ds.drop i) st1 = .ok kr st' ∧ ks = kds ++ kr) vs 0 s
    ⟨F, H, β, st, #[], 0, [], [], ks, I, Ex.refl _, Pre.refl _, g, .nil, .nil, rfl, by rw [List.drop_zero]; exact hk, rfl⟩ ?step ?done)
  case step =>
    rintro j u s' hu ⟨F', H', β', st1, kA, e, kvs, kds, kr, I', a', b', g', rk, rkd, hl, hkr, hks⟩
    simp only [Nat.zero_add] at hl hkr ⊢
    have hj : j < vs.length := (List.getElem?_eq_some_iff.mp hu).1
    have hjd : j < ds.length := by omega
    have hjx : j < xs.length := by omega
    obtain ⟨u', hu', ru⟩ := rv.get (List.getElem?_eq_getElem hjx)
    rw [hu] at hu'
    cases hu'
    obtain ⟨x', hx', rx⟩ := r.get (List.getElem?_eq_getElem hjd)
    rw [List.getElem?_eq_getElem hjx] at hx'
    cases hx'
    rw [List.drop_eq_getElem_cons hjd] at hkr
    obtain ⟨k, st2, kr', e1', e2', e3'⟩ := keys_split hkr
    have hkz : kA.size ≤ vs.length := by
      have h1 : kvs.length = kA.size := by have := rk.length; simpa using this
      have h2 := rkd.length
      omega
    refine wpAny_bind (wpAny_attempt (wpAny_mono (turn _ s' F' H' β' st1 xs[j] ds[j] u k st2 (fun p hp => List.mem_append_left _ hp) I' g' a' b' (rx.mono a' b') ru e1') (fun v s2 he => ?_) fun _ _ hF => hF.elim))
    obtain ⟨y, F2, H2, β2, I2, a2, b2, g2, ry, ryk⟩ := he
    try dsimp only
    have nk : s2.heap.get? kS = some (seqObj "list" kA e) := (I2.pin _ (List.mem_append_right _ (List.mem_append_right _ (List.mem_cons_of_mem _ List.mem_cons_self)))).1
    have hnk : H2 kS = none := (I2.pin (kS, seqObj "list" kA e) (List.mem_append_right _ (List.mem_append_right _ (List.mem_cons_of_mem _ List.mem_cons_self)))).2.1
    have s1 := Heap.SameBut.update s2.heap kS (Obj.mapSeq (·.push v))
    obtain ⟨c2, hc2⟩ : ∃ c2, (s2.heap.update kS (Obj.mapSeq (·.push v))).get? kS = some (seqObj "list" (kA.push v) c2) := ⟨_, get?_update_seq nk (·.push v)⟩
    refine wpAny_bind (listUpdate_at nk rfl ?_ (Nat.le_trans hkz hZ) (Nat.le_trans (Nat.le_of_eq (Array.size_push ..)) (Nat.succ_le_succ (Nat.le_trans hkz hZ))))
    have I3 : Inv X (P ++ [(a, seqObj "list" #[] e1)]) σ H2 s2 := inv_pins I2 fun p hp => by
      rcases List.mem_append.mp hp with q | q
      · exact List.mem_append_left _ q
      · exact List.mem_append_right _ (by simp at q; subst q; exact List.mem_cons_self)
    have I4 : Inv X (P ++ [(a, seqObj "list" #[] e1)]) σ H2 { s2 with heap := s2.heap.update kS (Obj.mapSeq (·.push v)) } :=
      I3.turned (t' := s2.toks) (it := kS) (fun b o hb q => (s1.2 b hb).trans q) hnk fk.2.1 fk.2.2.2.1 fk.2.2.2.2.1 fk.2.2.2.2.2
    refine wpAny_pure ⟨rfl, F2, H2, β2, st2, kA.push v, c2, kvs ++ [y], kds ++ [k], kr', ?_, a'.trans a2, b'.trans b2, g2, ?_, (rkd.mono a2 b2).append (.cons ryk .nil), by rw [List.length_append]; simp; omega, ?_, ?_⟩
    · refine I4.pins_of fun p hp => ?_
      rcases List.mem_append.mp hp with q | q
      · exact I4.pin p (List.mem_append_right _ (List.mem_append_left _ q))
      · rcases List.mem_cons.mp q with q | q
        · subst q
          exact I4.pin _ (List.mem_append_right _ (List.mem_append_right _ List.mem_cons_self))
        · have : p = (kS, seqObj "list" (kA.push v) c2) := by simpa using q
          subst this
          exact ⟨hc2, hnk, fk.2.1, fk.2.2.1, fun w z => by cases z⟩
    · rw [Array.toList_push]
      exact rk.append (.cons ry .nil)
    · show keysM mk (ds.drop (j + 1)) st2 = _
      exact e2'
    · rw [hks, e3', List.append_assoc]
      rfl
  case done =>
    rintro s' ⟨F', H', β', st1, kA, e, kvs, kds, kr, I', a', b', g', rk, rkd, hl, hkr, hks⟩
    rw [Nat.zero_add] at hl hkr
    have e3 : ds.drop vs.length = [] := List.drop_of_length_le (by omega)
    rw [e3, keysM] at hkr
    cases hkr
    rw [List.append_nil] at hks
    subst hks
    have nk : s'.heap.get? kS = some (seqObj "list" kA e) := (I'.pin _ (List.mem_append_right _ (List.mem_append_right _ (List.mem_cons_of_mem _ List.mem_cons_self)))).1
    try dsimp only
    refine wpAny_bind (listItems_at nk rfl ?_)
    exact done s' F' H' β' kA e kvs I' a' b' g' rk rkd
end
end DM

end

section
set_option Elab.async false
set_option linter.all false
set_option maxRecDepth 100000
set_option maxHeartbeats 4000000
/-! DMt: list.sort(key=f), to its end; sorted(xs, key=f). -/
namespace DM
open PySem PySem.Spec PyProof.Rows L2
def keysOk : List PyData → Bool
  | [] => true
  | d :: r => (match d with | .tuple [] => false | _ => true) && (d :: r).all fun x => eqShp d x && decide (x.depth ≤ 32)
theorem keysOk_alike {kz : List PyData} (h : keysOk kz = true) : PySem.W.AllAlike kz ∧ PySem.W.Sortable kz ∧ ∀ d ∈ kz, d.depth ≤ 32 := by
  cases kz with
  | nil => exact ⟨fun d hd => by simp at hd, .inl fun d hd => by simp at hd, fun d hd => by simp at hd⟩
  | cons d r =>
    unfold keysOk at h
    rw [Bool.and_eq_true, List.all_eq_true] at h
    obtain ⟨h1, h2⟩ := h
    have e : ∀ x ∈ d :: r, eqShp d x = true ∧ x.depth ≤ 32 := fun x hx => by
      have := h2 x hx
      rw [Bool.and_eq_true] at this
      exact ⟨this.1, of_decide_eq_true this.2⟩
    refine ⟨fun x hx y hy => eqShp_alike (e x hx).1 (e y hy).1, ?_, fun x hx => (e x hx).2⟩
    cases d with
    | tuple ys =>
      cases ys with
      | nil => cases h1
      | cons y ys =>
        refine .inl fun x hx => ?_
        have := (e x hx).1
        cases x with
        | tuple zs =>
          cases zs with
          | nil => simp [eqShp, eqShps] at this
          | cons z zs => exact ⟨z, zs, rfl⟩
        | _ => simp [eqShp] at this
    | int i =>
      refine .inr fun x hx => ?_
      have := (e x hx).1
      cases x <;> first | (simp [eqShp] at this; done) | exact ⟨(fun z => nomatch z), fun xs z => nomatch z⟩
    | str i =>
      refine .inr fun x hx => ?_
      have := (e x hx).1
      cases x <;> first | (simp [eqShp] at this; done) | exact ⟨(fun z => nomatch z), fun xs z => nomatch z⟩
    | _ =>
      have := (e _ List.mem_cons_self).1
      simp [eqShp] at this
theorem pdL_len : ∀ {ks : List D} {kz : List PyData}, pdL ks = some kz → ks.length = kz.length
  | [], kz, h => by rw [pdL] at h; cases h; rfl
  | d :: ds, kz, h => by
    rw [pdL] at h
    cases e : pdOf d with
    | none => rw [e] at h; cases h
    | some p =>
      rw [e] at h
      cases e2 : pdL ds with
      | none => rw [e2] at h; cases h
      | some ps =>
        rw [e2] at h
        cases h
        rw [List.length_cons, List.length_cons, pdL_len e2]
theorem repAll_map {wd : World} {K : PySem.W.Frag} {mg : Str → Option Value} {F : Hp} {β : List Addr} : ∀ (l : List (V × D × PyData)), (∀ t ∈ l, Rep wd K mg F β t.1 t.2.1) → RepAll wd K mg F β (l.map (·.1)) (l.map (·.2.1))
  | [], _ => .nil
  | t :: l, h => .cons (h t List.mem_cons_self) (repAll_map l fun q hq => h q (List.mem_cons_of_mem _ hq))
theorem valsOf : ∀ {out : List Value} {l : List (V × D × PyData)}, PySem.W.EachIs (fun (u : Value) (t : V × D × PyData) => RelV t.1 u) out l → Vals (l.map (·.1)) out
  | _, _, .nil => .nil
  | _, _, .cons h t => .cons h (valsOf t)
theorem each3 : ∀ {xs : List V} {vs : List Value} {q : List (D × PyData)}, Vals xs vs → q.length = xs.length → PySem.W.EachIs (fun (u : Value) (t : V × D × PyData) => RelV t.1 u) vs (xs.zip q)
  | _, _, _, .nil, _ => by rw [List.zip_nil_left]; exact .nil
  | _, _, [], .cons _ _, h => by simp at h
  | _, _, p :: q, .cons h t, hl => by rw [List.zip_cons_cons]; exact .cons h (each3 t (by simpa using hl))
theorem zip_snd {α β : Type} : ∀ {xs : List α} {q : List β}, q.length = xs.length → (xs.zip q).map (·.2) = q
  | [], [], _ => rfl
  | [], _ :: _, h => by simp at h
  | _ :: _, [], h => by simp at h
  | x :: xs, p :: q, h => by rw [List.zip_cons_cons, List.map_cons, zip_snd (by simpa using h)]
theorem zip_mem3 {wd : World} {K : PySem.W.Frag} {mg : Str → Option Value} {F : Hp} {β : List Addr} : ∀ {xs : List V} {ds : List D} {kz : List PyData}, RepAll wd K mg F β xs ds → ∀ t ∈ xs.zip (ds.zip kz), Rep wd K mg F β t.1 t.2.1
  | _, _, _, .nil, t, h => by simp at h
  | _, _, [], .cons _ _, t, h => by simp at h
  | _, _, k :: kz, .cons h1 r, t, h => by
    rw [List.zip_cons_cons, List.zip_cons_cons] at h
    rcases List.mem_cons.mp h with e | h
    · subst e; exact h1
    · exact zip_mem3 r t h
section
variable {X : Cx} {pins : List (Addr × Obj)} {σ : L2.St} {H : Hp} {s : Shared} {T : List NdefX.NTab}
theorem readsAll_each {h : Heap} : ∀ {us : List Value} {kz : List PyData}, (∀ (i : Nat) (u : Value) (p : PyData), us[i]? = some u → kz[i]? = some p → ∃ as, Reads h u p as) → us.length = kz.length → PySem.W.EachIs (fun v k => ∃ as, Reads h v k as) us kz
  | [], [], _, _ => .nil
  | [], _ :: _, _, h => by simp at h
  | _ :: _, [], _, h => by simp at h
  | u :: us, p :: kz, h, hl => .cons (h 0 u p rfl rfl) (readsAll_each (fun i u' p' e1 e2 => h (i + 1) u' p' (by simpa using e1) (by simpa using e2)) (by simpa using hl))
theorem dpAll_get {K : PySem.W.Frag} {H : Hp} : ∀ {vs : List V} {ps : List PyData} {i : Nat} {p : PyData}, DpAll K H vs ps → ps[i]? = some p → ∃ v, vs[i]? = some v ∧ Dp K H v p
  | _, _, _, _, .nil, h => by simp at h
  | _, _, 0, p, .cons h t, e => by simp at e; subst e; exact ⟨_, rfl, h⟩
  | _, _, i + 1, p, .cons h t, e => by
    obtain ⟨v, h1, h2⟩ := dpAll_get (i := i) t (by simpa using e)
    exact ⟨v, by simpa using h1, h2⟩
theorem sortTree {A : Around} {P : List (Addr × Obj)} {a : Addr} {f : Value} {mk : D → Sto → R D} {n : Nat} {vs : List Value} {xs : List V} {ds ks : List D} {kz : List PyData} {F : Hp} {β : List Addr} {st st' : Sto} {E : Value → Shared → Prop} {R' : PySem.Fin → Shared → Prop}
    (I : Inv X P σ H s) (ho : s.heap.get? a = some (seqObj "list" vs.toArray n)) (fa : FpOk X P H a) (rv : Vals xs vs) (g : Good (gX T X) F H β st) (r : RepAll X.w X.K X.mg F β xs ds) (hk : keysM mk ds st = .ok ks st') (hz : pdL ks = some kz) (ok : keysOk kz = true) (hu : A.units + 32 < cLine) (hZ : vs.length ≤ sizeLine)
    (turn : KeyCall T X A P σ F β f mk)
    (fin : ∀ (s' : Shared) (F' H' : Hp) (β' : List Addr) (outs : List V), H' a = none → Inv X P σ (upd H' a (.lst outs)) s' → Ex F F' → Pre β β' → Good (gX T X) F' H' β' st' → RepAll X.w X.K X.mg F' β' outs (byKey ds kz) → R' (.done (.ret .none)) s') :
    wpAny (model X.prog X.w) A (ksk_tree a f false) R' E s := by
  have ha : a < s.heap.objs.size := Heap.lt_size ho
  obtain ⟨e1, ho1⟩ : ∃ e1, (s.heap.update a (Obj.mapSeq fun _ => (#[] : Array Value))).get? a = some (seqObj "list" #[] e1) := ⟨_, get?_update_seq ho fun _ => #[]⟩
  have hkS : ((s.heap.update a (Obj.mapSeq fun _ => (#[] : Array Value))).push (seqObj "tuple" vs.toArray 0)).objs.size = s.heap.objs.size + 1 := by rw [size_push', Heap.size_update]
  unfold ksk_tree
  refine wpAny_bind (listItems_at ho rfl ?_)
  refine wpAny_bind (listUpdate_at ho rfl ?_ (by rw [List.size_toArray]; exact hZ) (Nat.zero_le _))
  refine wpAny_bind (seqEpoch_at ho1 rfl ?_)
  refine wpAny_bind (wpAny_newTuple ?_ (by show vs.length ≤ _; exact hZ))
  refine wpAny_bind (wpAny_newList ?_ (Nat.zero_le _))
  refine wpAny_holding ?_
  have sb := Heap.SameBut.update s.heap a (Obj.mapSeq fun _ => (#[] : Array Value))
  have I1 : Inv X P σ H { s with heap := s.heap.update a (Obj.mapSeq fun _ => (#[] : Array Value)) } :=
    I.turned (t' := s.toks) (it := a) (fun b o hb q => (sb.2 b hb).trans q) fa.1 fa.2.1 fa.2.2.2.1 fa.2.2.2.2.1 fa.2.2.2.2.2
  have I2 : Inv X (P ++ [(a, seqObj "list" #[] e1)]) σ H { s with heap := s.heap.update a (Obj.mapSeq fun _ => (#[] : Array Value)) } := I1.pins_of fun p hp => by
    rcases List.mem_append.mp hp with q | q
    · exact I1.pin p (List.mem_append_right _ q)
    · have : p = (a, seqObj "list" #[] e1) := by simpa using q
      subst this
      exact ⟨ho1, fa.1, fa.2.1, fa.2.2.1, fun w z => by cases z⟩
  have I3 : Inv X (P ++ [(a, seqObj "list" #[] e1)]) σ H { s with heap := (s.heap.update a (Obj.mapSeq fun _ => (#[] : Array Value))).push (seqObj "tuple" vs.toArray 0) } := I2.kept (t' := s.toks) fun b o q => Heap.get?_push_of_some _ q
  have fk := I3.fpOk (H' := H) (b := s.heap.objs.size + 1) (by show _ ≤ s.heap.objs.size + 1; rw [hkS]; exact Nat.le_refl _) (I3.hok.fresh (by show _ ≤ s.heap.objs.size + 1; rw [hkS]; exact Nat.le_refl _))
  have I4 : Inv X (P ++ [(a, seqObj "list" #[] e1)]) σ H { s with heap := ((s.heap.update a (Obj.mapSeq fun _ => (#[] : Array Value))).push (seqObj "tuple" vs.toArray 0)).push (seqObj "list" #[] 0) } := I3.kept (t' := s.toks) fun b o q => Heap.get?_push_of_some _ q
  have I5 : Inv X (P ++ [(a, seqObj "list" #[] e1), (s.heap.objs.size + 1, seqObj "list" #[] 0)]) σ H { s with heap := ((s.heap.update a (Obj.mapSeq fun _ => (#[] : Array Value))).push (seqObj "tuple" vs.toArray 0)).push (seqObj "list" #[] 0) } := I4.pins_of fun p hp => by
    rcases List.mem_append.mp hp with q | q
    · exact I4.pin p (List.mem_append_right _ (List.mem_append_left _ q))
    · rcases List.mem_cons.mp q with q | q
      · subst q
        exact I4.pin _ (List.mem_append_right _ (List.mem_append_right _ List.mem_cons_self))
      · have : p = (s.heap.objs.size + 1, seqObj "list" #[] 0) := by simpa using q
        subst this
        exact ⟨by rw [← hkS]; exact Heap.get?_push_size _ rfl, fk.1, fk.2.1, fk.2.2.1, fun w z => by cases z⟩
  have hka : s.heap.objs.size + 1 ≠ a := Nat.ne_of_gt (Nat.lt_succ_of_lt ha)
  rw [hkS]
  refine keyPhase (mk := mk) I5 fk hka rv g r hk hZ turn fun s' F' H' β' kA e kvs I' a' b' g' rk rkd => ?_
  have pinA := I'.pin (a, seqObj "list" #[] e1) (List.mem_append_right _ (List.mem_append_right _ List.mem_cons_self))
  have pinK := I'.pin (s.heap.objs.size + 1, seqObj "list" kA e) (List.mem_append_right _ (List.mem_append_right _ (List.mem_cons_of_mem _ List.mem_cons_self)))
  obtain ⟨hal, hso, hdep⟩ := keysOk_alike ok
  have lk1 : kvs.length = kA.size := by have := rk.length; simpa using this
  have lk2 := rkd.length
  have lk3 := pdL_len hz
  have lx := rv.length
  have ld := r.length
  have lks : ks.length = ds.length := by
    have key : ∀ {ds : List D} {st st' : Sto} {ks : List D}, keysM mk ds st = .ok ks st' → ks.length = ds.length := by
      intro ds
      induction ds with
      | nil => intro st st' ks h; rw [keysM] at h; cases h; rfl
      | cons d ds ih =>
        intro st st' ks h
        obtain ⟨k, st1, kr, _, h2, rfl⟩ := keys_split h
        rw [List.length_cons, List.length_cons, ih h2]
    exact key hk
  have hkz : PySem.W.EachIs (fun v k => ∃ as, Reads s'.heap v k as) kA.toList kz := readsAll_each (fun i u p e2 e3 => by
    have dp := RepAll.dp g'.ex rkd hz
    obtain ⟨v, hv, dv⟩ := dpAll_get dp e3
    obtain ⟨u', hu', ru⟩ := rk.get hv
    rw [e2] at hu'
    cases hu'
    exact Dp.reads I' p v u dv ru) (by rw [Array.length_toList]; omega)
  have kpH : PySem.W.KeepsBut a (PySem.W.hideAll s'.heap [s.heap.objs.size + 1]) s'.heap := fun b o _ q => PySem.W.of_hideAll _ q
  refine PySem.W.keyH_end (κ := PySem.W.dataKind s'.heap kz) (h₁ := PySem.W.hideAll s'.heap [s.heap.objs.size + 1]) kpH (PySem.W.hideAll_none _ List.mem_cons_self) pinK.1 pinA.1 hka
    (PySem.W.SortsAt.data hkz hal hso fun d hd => Nat.lt_of_le_of_lt (Nat.add_le_add_left (hdep d hd) _) hu) (by omega) hZ fun h3 tk3 c k3 n3 => ?_
  have ko : PySem.W.KeyedOut false kz vs (PySem.W.sortVals (PySem.W.dataKind s'.heap kz) false kA.toList vs) := ⟨s'.heap, kA.toList, hal, rfl, hkz⟩
  have hmap : (xs.zip (ds.zip kz)).map (·.2.2) = kz := by
    have e1 : (xs.zip (ds.zip kz)).map (·.2) = ds.zip kz := zip_snd (by rw [List.length_zip]; omega)
    have e2 : (ds.zip kz).map (·.2) = kz := zip_snd (by omega)
    have : (xs.zip (ds.zip kz)).map (·.2.2) = ((xs.zip (ds.zip kz)).map (·.2)).map (·.2) := by rw [List.map_map]; rfl
    rw [this, e1, e2]
  have eo := PySem.W.keyedOut_each (rev := false) (bs := xs.zip (ds.zip kz)) (fun t : V × D × PyData => t.2.2) (by rw [hmap]; exact ko) (each3 rv (by rw [List.length_zip]; omega))
  have tot := PySem.W.sortLe_total (listOrd itemOrd) false (fun t : V × D × PyData => PySem.W.keyToks t.2.2)
  rw [merge_ins (le := PySem.W.dataLe false fun t : V × D × PyData => t.2.2) (fun x y z => tot.trans x y z) (fun x y => by rw [Bool.or_eq_true]; exact tot.total x y)] at eo
  have keep : ∀ b o, b ≠ a → b ≠ s.heap.objs.size + 1 → s'.heap.get? b = some o → h3.get? b = some o := fun b o h1 h2 q => k3 b o h1 (PySem.W.hideAll_get _ q (by simpa using h2))
  have eOut : (insS (PySem.W.dataLe false fun t : V × D × PyData => t.2.2) (xs.zip (ds.zip kz))).map (·.2.1) = byKey ds kz := by
    have z : insS leKey ((xs.zip (ds.zip kz)).map (·.2)) = (insS (PySem.W.dataLe false fun t : V × D × PyData => t.2.2) (xs.zip (ds.zip kz))).map (·.2) := (map_insS (le := leKey) (fun t : V × D × PyData => t.2) _).symm
    rw [zip_snd (by rw [List.length_zip]; omega)] at z
    unfold byKey
    rw [z, List.map_map]
    rfl
  have rOut : RepAll X.w X.K X.mg F' β' ((insS (PySem.W.dataLe false fun t : V × D × PyData => t.2.2) (xs.zip (ds.zip kz))).map (·.1)) (byKey ds kz) := by
    rw [← eOut]
    exact repAll_map _ fun t ht => zip_mem3 (r.mono a' b') t (insS_mem ht)
  have vOut := valsOf eo
  have I6 : Inv X P σ H' s' := inv_pins I' fun p hp => List.mem_append_left _ hp
  refine fin _ F' H' β' _ pinA.2.1 ?_ a' b' g' rOut
  have neA : ∀ b u, H' b = some u → b ≠ a := fun b u q z => by rw [z, pinA.2.1] at q; cases q
  have neK : ∀ b u, H' b = some u → b ≠ s.heap.objs.size + 1 := fun b u q z => by rw [z, pinK.2.1] at q; cases q
  have chk : ∀ b ∈ [a, s.heap.objs.size + 1], (b ∈ X.ex ∨ X.s_0.heap.objs.size ≤ b) ∧ b ≠ X.env.locals ∧ (∀ x c, X.env.cells.lookup x = some c → c ≠ b) ∧ ∀ p ∈ X.pn ++ P, p.1 ≠ b := fun b hb => by
    rcases List.mem_cons.mp hb with q | q
    · subst q; exact ⟨fa.2.2.2.1, fa.2.1, fa.2.2.2.2.1, fa.2.2.2.2.2⟩
    · have : b = s.heap.objs.size + 1 := by simpa using q
      subst this
      exact ⟨fk.2.2.2.1, fk.2.1, fk.2.2.2.2.1, fun p hp => fk.2.2.2.2.2 p (by
        rcases List.mem_append.mp hp with q | q
        · exact List.mem_append_left _ q
        · exact List.mem_append_right _ (List.mem_append_left _ q))⟩
  have nin : ∀ b, b ∉ [a, s.heap.objs.size + 1] → b ≠ a ∧ b ≠ s.heap.objs.size + 1 := fun b hb => by simpa using hb
  refine I6.step (g' := s'.gens) (d' := s'.drawn) (t' := tk3) (h' := h3) (ch := [a, s.heap.objs.size + 1]) chk (fun b o _ _ hc q _ => keep b o (nin b hc).1 (nin b hc).2 q) (fun b o _ _ hc q _ => ⟨o.slots, keep b o (nin b hc).1 (nin b hc).2 q⟩)
    (fun b o hc q hn => by rw [upd_ne (nin b hc).1]; exact hn) (fun b o hc q => ⟨o, keep b o (nin b hc).1 (nin b hc).2 q⟩) (fun b ys q => by rw [upd_ne (neA b _ q)]; exact q) (fun b o u q => by rw [upd_ne (neA b _ q)]; exact q) (fun b ps q => ⟨#[], by rw [upd_ne (neA b _ q), q]; simp⟩) (fun m hm => ?_) (fun b u q => ?_) I6.bare
  · obtain ⟨o, es, ep, h1, h2⟩ := hm
    exact ⟨o, es, ep, keep _ o (Ne.symm fa.2.1) (Ne.symm fk.2.1) h1, h2⟩
  · by_cases hb : b = a
    · subst hb
      rw [upd_same] at q
      cases q
      refine ⟨?_, _, c, vOut, n3⟩
      rw [List.length_map, insS_len, List.length_zip, List.length_zip]
      omega
    · rw [upd_ne hb] at q
      refine (I6.hok b u q).stay (fun d w hd e2 => ?_) (fun d e2 => by rw [upd_ne (neA d _ e2)]; exact e2) fun d ys e2 => by rw [upd_ne (neA d _ e2)]; exact e2
      rcases hd with z | z
      · rw [z] at e2 ⊢
        exact keep b w hb (neK b u q) e2
      · exact keep d w (neA d _ z) (neK d _ z) e2
end
end DM

end

section
set_option Elab.async false
set_option linter.all false
set_option maxRecDepth 100000
set_option maxHeartbeats 4000000
/-! DMu: lambdas: made, called. -/
namespace DM
open PySem PySem.Spec PyProof.Rows L2
theorem Good.extN {G : Gb} {F H H1 : Hp} {β : List Addr} {st : Sto} (g : Good G F H β st) (e : LamX.ExtN H H1) (t : NdefX.TabsN G.T H1) : Good G F H1 β st where
  ex := fun a o q => e a o (g.ex a o q) fun ps z => g.nt a ps (by rw [q, z])
  sep := g.sep
  inj := g.inj
  len := g.len
  ob := fun n a u h hu => by
    obtain ⟨o, q, c⟩ := g.at_ h
    refine (g.ob n a u h hu).mono (Ex.refl _) (Pre.refl _) fun o' q' => e a o' q' fun ps z => ?_
    rw [q'] at q
    cases q
    subst z
    exact c
  tab := t
  nt := g.nt
/-- .. and the new code object is known -/
theorem Good.code {G : Gb} {F H : Hp} {β : List Addr} {st : Sto} {c : Addr} {q : Str} (g : Good G F H β st) (hc : H c = some (LamX.CodeO c q)) : Good G (upd F c (LamX.CodeO c q)) H β st ∧ Ex F (upd F c (LamX.CodeO c q)) := by
  have nb : ∀ (n : Nat) (a : Addr), β[n]? = some a → a ≠ c := fun n a h z => by
    obtain ⟨o, e, ch⟩ := g.at_ h
    rw [z, hc] at e
    cases e
    exact code_nch ch
  have e1 : Ex F (upd F c (LamX.CodeO c q)) := fun a o h => by
    by_cases z : a = c
    · subst z
      rw [upd_same]
      have := g.ex a o h
      rw [hc] at this
      exact this
    · rw [upd_ne z]; exact h
  refine ⟨⟨fun a o h => ?_, fun n a h => by rw [upd_ne (nb n a h)]; exact g.sep n a h, g.inj, g.len, fun n a u h hu => (g.ob n a u h hu).mono e1 (Pre.refl _) fun _ z => z, g.tab, fun a ps => ?_⟩, e1⟩
  · by_cases z : a = c
    · subst z
      rw [upd_same] at h
      cases h
      exact hc
    · rw [upd_ne z] at h; exact g.ex a o h
  · by_cases z : a = c
    · subst z
      rw [upd_same]
      exact fun y => LamX.codeO_ne ps (Option.some.inj y)
    · rw [upd_ne z]; exact g.nt a ps
abbrev lamO (q : Str) (params : Arguments) (body : Expr) (scope : Scope) (cl : List (Str × Addr)) (pm : Value) (c' : Addr) (ctv : Value) : Obj := PySem.W.kla_obj "<lambda>" q params body scope cl pm c' ctv
section
variable {X : Cx} {pins : List (Addr × Obj)} {σ : L2.St} {H : Hp} {s : Shared}
/-- the lambda is made -/
theorem lam_makeN {T : List NdefX.NTab} {nm : Nat → Nat → Str} {c P : Addr} {params : Arguments} {body : Expr} {scope : Scope} {pos : Pos} {E : Value → Shared → Prop} {Q : Value → Shared → Prop} (I : Inv X pins σ H s) (TB : LamX.TabB X.base X.mg c P) (hcode : X.env.code = .ref c)
    (hm : (P, nm) ∈ T) (hn : nm pos.line pos.col = X.env.qual ++ "<lambda>") (hu : ∀ p ∈ T, p.1 = P → p.2 = nm) (hT : NdefX.TabsN T H) (hdef : defaultsOf params X.env = ([], [])) (hfree : ∀ y ∈ scope.names, y.2 = .free → ∃ c, X.env.cells.lookup y.1 = some c)
    (h : ∀ (f c' : Addr) (pm ctv : Value) (H1 : Hp) (s' : Shared), Inv X pins σ H1 s' → LamX.ExtN H H1 → NdefX.TabsN T H1 →
      s'.heap.get? f = some (lamO (X.env.qual ++ "<lambda>") params body scope (cloFrom X.env.cells scope.names []) pm c' ctv) → H1 f = none → f ∉ frs X.stack → f ≠ X.env.locals → H1 c' = some (LamX.CodeO c' (X.env.qual ++ "<lambda>")) → Q (.ref f) s') :
    wpAny (model X.prog X.w) X.A (eval (.Lambda params body scope pos) X.env) Q E s := by
  obtain ⟨ps, hP, ht, ha⟩ := (show NdefX.TabN H P nm from hT _ hm)
  refine PySem.W.kla_eval hdef ?_
  have bP : s.heap.BuiltinsAt X.mg P := TB.bm.keeps I.bk
  have hP' : s.heap.get? P = some { cls := .none, data := .fields ps } := I.hok P _ hP
  have nofr : ∀ f, s.heap.objs.size ≤ f → f ∉ frs X.stack ∧ f ≠ X.env.locals := fun f hf => by
    have h1 := I.lt
    have h2 : f ≠ X.env.locals := Nat.ne_of_gt (Nat.lt_of_lt_of_le h1 hf)
    refine ⟨fun z => ?_, h2⟩
    rcases List.mem_cons.mp (I.stkSub _ z) with e | e
    · exact h2 e
    · exact I.nofs hf e
  cases hc : codeAmong pos ps.toList with
  | none =>
    refine PySem.W.kla_makeFunction (mg := X.mg) (c := c) (P := P) (ps := ps) (L2.closure_ok hfree) I.ok.glob (I.mod.glob.keeps I.bk) hcode (TB.code.keeps I.bk) hP' ht hc TB.gP bP fun c' ctv h' tk hx hge hlt hrec htb => ?_
    obtain ⟨c2, oc, vs, t, e2, hoc, hd, hv⟩ := hrec
    cases e2
    have hsz : s.heap.objs.size ≤ h'.objs.size := Nat.le_trans hge (Nat.le_of_lt hlt)
    have nC : H c' = none := I.hok.fresh hge
    have I1 := LamX.inv_table (t' := tk) (more := #[rawInt pos.line, rawInt pos.col, .ref c']) (h' := h'.push (lamO (X.env.qual ++ "<lambda>") params body scope (cloFrom X.env.cells scope.names []) ((X.mg "__name__").getD .none) c' ctv)) I hP
      (fun b o hb e => Heap.get?_push_of_some _ (hx b o hb e)) (Heap.get?_push_of_some _ htb) hge ⟨oc, vs, t, Heap.get?_push_of_some _ hoc, hd, hv⟩
    have hE : LamX.ExtN H (upd (upd H P (.tbl (ps ++ #[rawInt pos.line, rawInt pos.col, .ref c']))) c' (LamX.CodeO c' (X.env.qual ++ "<lambda>"))) := fun b o e n => by
      rw [upd_ne (ne_of_none e nC), upd_ne (fun z => n ps (Option.some.inj (e.symm.trans (by rw [z]; exact hP))))]
      exact e
    have eL : (ps ++ #[rawInt pos.line, rawInt pos.col, .ref c']).toList = ps.toList ++ [rawInt pos.line, rawInt pos.col, .ref c'] := by simp
    refine h h'.objs.size c' _ ctv _ _ I1 hE (fun p hp => ?_) (Heap.get?_push_size _ rfl) ?_ (nofr _ hsz).1 (nofr _ hsz).2 upd_same
    · by_cases hb : p.1 = P
      · rw [hu p hp hb, hb]
        refine ⟨_, by rw [upd_ne (ne_of_none hP nC), upd_same], by rw [eL]; exact PySem.TriplesOk_snoc _ _ _ _ ht, fun p' cv hcv => ?_⟩
        rw [eL] at hcv
        rcases NdefX.among_app2 _ ht hcv with z | ⟨z, z1, z2⟩
        · obtain ⟨c0, q1, q2⟩ := ha p' cv z
          exact ⟨c0, q1, hE _ _ q2 LamX.codeO_ne⟩
        · refine ⟨c', z, ?_⟩
          rw [← z1, ← z2, hn]
          exact upd_same
      · obtain ⟨ps', a1, a2, a3⟩ := hT p hp
        refine ⟨ps', by rw [upd_ne (ne_of_none a1 nC), upd_ne hb]; exact a1, a2, fun p' cv hcv => ?_⟩
        obtain ⟨c0, q1, q2⟩ := a3 p' cv hcv
        exact ⟨c0, q1, hE _ _ q2 LamX.codeO_ne⟩
    · have n1 : h'.objs.size ≠ c' := Nat.ne_of_gt hlt
      have n2 : h'.objs.size ≠ P := Nat.ne_of_gt (Nat.lt_of_lt_of_le (Heap.lt_size hP') hsz)
      rw [upd_ne n1, upd_ne n2]
      exact I.hok.fresh hsz
  | some cv =>
    obtain ⟨c', e, hco⟩ := ha pos cv hc
    subst e
    rw [hn] at hco
    refine PySem.W.kla_makeFunctionHit (mg := X.mg) (c := c) (P := P) (ps := ps) (L2.closure_ok hfree) I.ok.glob (I.mod.glob.keeps I.bk) hcode (TB.code.keeps I.bk) hP' ht hc bP fun ctv h' tk hx hsz => ?_
    have I1 : Inv X pins σ H { s with heap := h'.push (lamO (X.env.qual ++ "<lambda>") params body scope (cloFrom X.env.cells scope.names []) ((X.mg "__name__").getD .none) c' ctv), toks := tk } := I.kept fun b o e => Heap.get?_push_of_some _ (hx b o e)
    exact h h'.objs.size c' _ ctv H _ I1 (LamX.ExtN.refl H) hT (Heap.get?_push_size _ rfl) (I.hok.fresh hsz) (nofr _ hsz).1 (nofr _ hsz).2 hco
/-- the names of the lambda's body in the mirror -/
def lamEn (N : Nat) (js : List Nat) (ρ : En) (ds : List D) : En := ds.map some ++ (js.map (fun j => (ρ[j]?).join) ++ List.replicate (N - ds.length - js.length) none)
theorem lam_env {G : Gb} {F : Hp} {β : List Addr} {σ : L2.St} {ρ : En} {N : List Str} {js : List Nat} {vs : List V} {ds : List D} (er : EnvR G F β σ ρ) (r : RepAll G.wd G.K G.mg F β vs ds) : EnvR G F β (NdefX.startF N vs (js.map (NdefX.slotAt σ))) (lamEn N.length js ρ ds) := by
  have hl := r.length
  unfold NdefX.startF lamEn
  refine ⟨by simp [hl], fun i d h => ?_⟩
  rcases Nat.lt_or_ge i ds.length with hi | hi
  · rw [List.getElem?_append_left (by simpa using hi), List.getElem?_map] at h
    cases e : ds[i]? with
    | none => rw [e] at h; cases h
    | some d' =>
      rw [e] at h
      cases h
      obtain ⟨v, hv, rv⟩ := r.get e
      exact ⟨v, by rw [List.getElem?_append_left (by simpa [hl] using hi), List.getElem?_map, hv]; rfl, rv⟩
  · rw [List.getElem?_append_right (by simpa using hi), List.length_map] at h
    rw [List.getElem?_append_right (by rw [List.length_map, hl]; exact hi)]
    simp only [List.length_map, hl] at h ⊢
    rcases Nat.lt_or_ge (i - ds.length) js.length with hj | hj
    · rw [List.getElem?_append_left (by simpa using hj), List.getElem?_map] at h
      rw [List.getElem?_append_left (by simpa using hj), List.getElem?_map]
      cases e : js[i - ds.length]? with
      | none => rw [e] at h; cases h
      | some j =>
        rw [e] at h
        have h : (ρ[j]?).join = some d := Option.some.inj h
        have h' : ρ[j]? = some (some d) := by
          cases q : ρ[j]? with
          | none => rw [q] at h; cases h
          | some o => rw [q] at h; rw [show o = some d from h]
        obtain ⟨v, hv, rv⟩ := er.at_ j d h'
        exact ⟨v, by show some (NdefX.slotAt σ j) = _; rw [NdefX.slotAt_of hv], rv⟩
    · rw [List.getElem?_append_right (by simpa using hj), List.getElem?_replicate] at h
      split at h <;> cases h
/-- the lambda called, within the def that made it -/
theorem lam_run {T : List NdefX.NTab} {W : WX} {A : Around} {params : Arguments} {body : Expr} {scope : Scope} {N ps fr : List Str} {js : List Nat} {q : Str} {cl : List (Str × Addr)} {pm ctv : Value} {f c' : Addr} {k : Nat} {mk : ME} {us : List Value} {vs : List V} {ds : List D} {F : Hp} {β : List Addr} {st st2 : Sto} {ρ : En} {d : D}
    (S : NdefX.NScope N ps fr scope) (cp : NdefX.Caps X cl fr js) (hb : ∀ (pm ctv : Value) (us : List Value), us.length = ps.length → bindArgs (PySem.W.kla_fn "<lambda>" q params body scope cl pm (.ref c') ctv) ⟨us, []⟩ = pure (ps.zip us))
    (hr : Room (k + 1) A) (hA : A.frames = X.A.frames)
    (hbody : ∀ (A : Around) (outer : List Env) (s : Shared) (H : Hp), Room k (A.deeper (NdefX.envF ⟨"<lambda>", q, params, [], scope, cl, c'⟩ f s.heap.objs.size)) → EvE T (NdefX.ncx (L2.CX X.prog X.w) X.prog X.w X.K X.mg X.base N ⟨"<lambda>", q, params, [], scope, cl, c'⟩ f A outer s H E0) W0 body mk)
    (I : Inv X pins σ H s) (hf : s.heap.get? f = some (lamO q params body scope cl pm c' ctv)) (g : Good (gX T X) F H β st) (hc : F c' = some (LamX.CodeO c' q)) (er : EnvR (gX T X) F β σ ρ) (rv : Vals vs us) (r : RepAll X.w X.K X.mg F β vs ds) (hl : ds.length = ps.length)
    (hm : mk (lamEn N.length js ρ ds) st = .ok d st2) :
    wpAny (model X.prog X.w) A (call (.ref f) us) (fun v s2 => ∃ y F2 H2 β2, Inv X pins σ H2 s2 ∧ Ex F F2 ∧ Pre β β2 ∧ Good (gX T X) F2 H2 β2 st2 ∧ RelV y v ∧ Rep X.w X.K X.mg F2 β2 y d) (fun _ _ => False) s := by
  have hcH := g.ex _ _ hc
  have lv : vs.length = ps.length := by rw [r.length]; exact hl
  have lu : us.length = ps.length := by rw [← rv.length]; exact lv
  have e0 : Env0 X.prog X.w X.K X.mg X.base A X.stack s H := by
    have e := I.env0
    exact ⟨by rw [hA]; exact e.frames, e.mod, e.bs, e.bsz, e.funs, e.frf, e.hok, e.bare⟩
  have C := NdefX.cells_of I cp
  have rc : codeAny (model X.prog X.w) A (.call (.ref f) ⟨us, []⟩) (CR (L2.CX X.prog X.w) X.stack X.prog X.w H s (fun y H2 => ∃ F2 β2, Ex F F2 ∧ Pre β β2 ∧ Good (gX T X) F2 H2 β2 st2 ∧ Rep X.w X.K X.mg F2 β2 y d) E0) s := by
    refine PySem.W.kla_callFunE hr.depth hf rfl S.co S.gen rfl (NdefX.codeO_at I.hok hcH) ?_
    rw [hb pm ctv us lu]
    refine wpAny_pure (wpAny_newFunctionEnv S.nocell (fun ⟨n, _⟩ hy => S.par n (List.of_mem_zip hy).1) (fun h₁ hns hsb => ⟨I.nolimit.fresh _ hsb, ?_⟩) S.kind)
    have kp : ∀ b o, s.heap.get? b = some o → h₁.get? b = some o := fun b o e => hsb.extBut b o (Nat.ne_of_lt (Heap.lt_size e)) (Heap.get?_push_of_some _ e)
    have J : Inv (NdefX.ncx (L2.CX X.prog X.w) X.prog X.w X.K X.mg X.base N ⟨"<lambda>", q, params, [], scope, cl, c'⟩ f A X.stack s H E0) [] (NdefX.startF N vs (js.map (NdefX.slotAt σ))) H { s with heap := h₁, toks := s.toks + (ps.zip us).length } := NdefX.inv_startN S hr.hd e0 lv rv C hns kp
    refine PySem.W.kla_codeExpr (wpAny_mono ((hbody A X.stack s H (hr.deeper _)).run [] _ _ H (fun y H2 => ∃ F2 β2, Ex F F2 ∧ Pre β β2 ∧ Good (gX T X) F2 H2 β2 st2 ∧ Rep X.w X.K X.mg F2 β2 y d) J ?_) (fun v s' hq => ?_) fun e s' hq => hq)
    · refine ⟨F, β, lamEn N.length js ρ ds, st, g, lam_env er r, ?_⟩
      rw [hm]
      exact fun v H' F' β' a b g' r' => ⟨F', β', a, b, g', r'⟩
    · obtain ⟨w', H', J', rv', q'⟩ := hq
      exact ⟨w', H', J'.os, J'.bare, J'.base, J'.hok, rv', q'⟩
  refine wpAny_call (codeAny_mono rc fun r s' hq => ?_)
  cases r with
  | error e => exact (show False by
      obtain ⟨_, _, _, _, _, _, _, _, _, _, _, _, z⟩ := hq
      exact z)
  | ok fl =>
    cases fl with
    | ret u =>
      obtain ⟨y, H2, I2, ry, F2, β2, a, b, g2, ryd⟩ := I.after hq
      exact ⟨y, F2, H2, β2, I2, a, b, g2, ry, ryd⟩
    | next => exact False.elim hq
    | brk => exact False.elim hq
    | cont => exact False.elim hq
end
end DM

end

section
set_option Elab.async false
set_option linter.all false
set_option maxRecDepth 100000
set_option maxHeartbeats 4000000
/-! DMv: sorted(d, key=lambda x: ..). -/
namespace DM
open PySem PySem.Spec PyProof.Rows L2
/-- what sorted walks: a dict's keys, a list, a tuple -/
def keyItems (st : Sto) (d : D) : Option (List D) := match dxtOf st d with
  | some kvs => some (kvs.map fun p => keyTD p.1)
  | none => none
def mSortKey (N : Nat) (js : List Nat) (mk : ME) (me : ME) : ME := fun ρ st => (me ρ st).bind fun d st => match keyItems st d with
  | some ds => match keysM (fun x st => mk (lamEn N js ρ [x]) st) ds st with
    | .ok ks st' => match pdL ks with
      | some kz => if keysOk kz = true then .ok (.lst (byKey ds kz)) st' else .bad
      | none => .bad
    | _ => .bad
  | none => .bad
theorem keysM_same {mk : D → Sto → R D} : ∀ {ds : List D} {st st' : Sto} {ks : List D}, keysM mk ds st = .ok ks st' → ks.length = ds.length
  | [], st, st', ks, h => by rw [keysM] at h; cases h; rfl
  | d :: ds, st, st', ks, h => by
    obtain ⟨k, st1, kr, _, h2, rfl⟩ := keys_split h
    rw [List.length_cons, List.length_cons, keysM_same h2]
section
variable {T : List NdefX.NTab} {X : Cx} {W : WX} {e : Expr} {me mk : ME} {p pos lpos kpos : Pos} {params : Arguments} {body : Expr} {scope : Scope} {N fr : List Str} {x : Str} {js : List Nat} {k : Nat}
theorem entry_vals {kvs : KVX} {xs : List (List Key × Addr × Value)} (r : XP kvs xs) : ∀ {acc : List Value}, acc.length = xs.length → (∀ (j : Nat) (v : Value), acc[j]? = some v → ∃ q, xs[j]? = some q ∧ v = .ref q.2.1) → Vals (kvs.map fun p => V.ref p.2.1) acc := by
  induction r with
  | nil =>
    intro acc hl _
    cases acc with
    | nil => exact .nil
    | cons _ _ => simp at hl
  | @cons p q ps qs h t ih =>
    intro acc hl hacc
    cases acc with
    | nil => simp at hl
    | cons v acc =>
      rw [List.map_cons]
      refine .cons ?_ (ih (by simpa using hl) fun j v e => ?_)
      · obtain ⟨q', e1, e2⟩ := hacc 0 v rfl
        simp at e1
        subst e1
        rw [e2, h.2.1]
        rfl
      · obtain ⟨q', e1, e2⟩ := hacc (j + 1) v (by simpa using e)
        exact ⟨q', by simpa using e1, e2⟩
theorem keyed_rep {wd : World} {K : PySem.W.Frag} {mg : Str → Option Value} {F : Hp} {β : List Addr} : ∀ (ks : KVX), (∀ p ∈ ks, TupR K F p.2.1 (p.1.map kV)) → RepAll wd K mg F β (ks.map fun p => V.ref p.2.1) (ks.map fun p => keyTD p.1)
  | [], _ => .nil
  | p :: ks, h => .cons (.tup (h p List.mem_cons_self) (rep_keysV p.1)) (keyed_rep ks fun q hq => h q (List.mem_cons_of_mem _ hq))
/-- the rest of sorted: the new list, its sort -/
theorem sorted_rest {P : List (Addr × Obj)} {σ : L2.St} {H : Hp} {s : Shared} {Q : VK} {acc : Array Value} {f : Addr} {ds ks : List D} {kz : List PyData} {xs : List V} {F : Hp} {β : List Addr} {st st' : Sto} {mk : D → Sto → R D} {E' : Value → Shared → Prop}
    (I : Inv X P σ H s) (rv : Vals xs acc.toList) (g : Good (gX T X) F H β st) (r : RepAll X.w X.K X.mg F β xs ds) (hk : keysM mk ds st = .ok ks st') (hz : pdL ks = some kz) (ok : keysOk kz = true) (hu : X.A.units + 34 < cLine) (hZ : acc.size ≤ sizeLine)
    (turn : KeyCall T X X.A.in1.in1 P σ F β (.ref f) mk)
    (fin : ∀ (s' : Shared) (F' H' : Hp) (β' : List Addr) (a : Addr) (outs : List V), H' a = none → Inv X P σ (upd H' a (.lst outs)) s' → Ex F F' → Pre β β' → Good (gX T X) F' H' β' st' → RepAll X.w X.K X.mg F' β' outs (byKey ds kz) → Q (.ref a) (upd H' a (.lst outs))) :
    wpAny (model X.prog X.w) X.A.in1 (newList acc.toList >>= fun l => do
      let _ ← holding [l] (call (.builtin "list.sort") [l] [(Str.ofString "key", .ref f)])
      ret l) (fun fin s' => ∃ v, fin = .done (.ret v) ∧ EP X P σ Q v s') E' s := by
  refine wpAny_bind (wpAny_newList ?_ (by rw [Array.length_toList]; exact hZ))
  have hoL : (s.heap.push (seqObj "list" acc.toList.toArray 0)).get? s.heap.objs.size = some (seqObj "list" acc.toList.toArray 0) := Heap.get?_push_size _ rfl
  have I1 : Inv X P σ H { s with heap := s.heap.push (seqObj "list" acc.toList.toArray 0) } := I.kept (t' := s.toks) fun b u e => Heap.get?_push_of_some _ e
  have fa := I.fpOk (H' := H) (b := s.heap.objs.size) (Nat.le_refl _) (I.hok.fresh (Nat.le_refl _))
  refine wpAny_bind (wpAny_holding (wpAny_call_entry_kw PyProof.Rows.slot_list_sort ⟨_, hoL, rfl⟩ PyProof.Rows.entry_list_sort ?_ (ksk_l1 _ _)))
  rw [ksk_t1]
  refine sortTree (mk := mk) I1 hoL fa rv g r hk hz ok (by show X.A.units + 1 + 1 + 32 < _; omega) (by rw [Array.length_toList]; exact hZ) turn fun s' F' H' β' outs h1 I2 a b g' ro => ?_
  exact ⟨_, rfl, wpAny_pure ⟨_, rfl, V.ref s.heap.objs.size, _, I2, rfl, fin s' F' H' β' _ outs h1 I2 a b g' ro⟩⟩
theorem ev_sortKeyD {nm : Nat → Nat → Str} {c P0 : Addr} (hm : X.mg "sorted" = none) (he : EvE T X W e me) (hc : X.calm = true) (hr : Room (k + 3) X.A)
    (TB : LamX.TabB X.base X.mg c P0) (hcode : X.env.code = .ref c) (hmT : (P0, nm) ∈ T) (hn : nm lpos.line lpos.col = X.env.qual ++ "<lambda>") (huT : ∀ p ∈ T, p.1 = P0 → p.2 = nm) (hdef : defaultsOf params X.env = ([], []))
    (S : NdefX.NScope N [x] fr scope) (hfree : ∀ y ∈ scope.names, y.2 = .free → X.env.scope.names.lookup y.1 = some .cell ∨ X.env.scope.names.lookup y.1 = some .free) (hfr : ∀ y ∈ fr, (y, NameKind.free) ∈ scope.names) (hjs : js.map (fun j => X.N[j]?) = fr.map some)
    (hb : ∀ (q : Str) (cl : List (Str × Addr)) (pm cv ctv : Value) (us : List Value), us.length = 1 → bindArgs (PySem.W.kla_fn "<lambda>" q params body scope cl pm cv ctv) ⟨us, []⟩ = pure ([x].zip us))
    (hbody : ∀ (A : Around) (outer : List Env) (s : Shared) (H : Hp) (q : Str) (cl : List (Str × Addr)) (c' f : Addr), Room k (A.deeper (NdefX.envF ⟨"<lambda>", q, params, [], scope, cl, c'⟩ f s.heap.objs.size)) → EvE T (NdefX.ncx (L2.CX X.prog X.w) X.prog X.w X.K X.mg X.base N ⟨"<lambda>", q, params, [], scope, cl, c'⟩ f A outer s H E0) W0 body mk)
    (hg : Gl X "sorted" := by rfl) (hst : starEach [e] X.env = [(false, eval e X.env)] := by rfl)
    (hkw : keywordEach [⟨some "key", .Lambda params body scope lpos, kpos⟩] X.env = [((some "key" : Option Str), eval (.Lambda params body scope lpos) X.env)] := by rfl) :
    EvE T X W (.Call (.Name "sorted" p) [e] [⟨some "key", .Lambda params body scope lpos, kpos⟩] pos) (mSortKey N.length js mk me) := by
  refine ⟨fun pins s σ H Q I h => ?_⟩
  obtain ⟨F, β, ρ, st, g, er, h⟩ := h
  refine wpAny_Call_Name_kw (ld_blt I hg hm (by decide +kernel : bootBuiltins "sorted" = some (.builtin "sorted")) ?_ (by decide) (by decide))
  have hT : tCons (tM (gX T X) W me) tNil σ H (fun vs H1 => ∃ v F1 β1 d st1, vs = [v] ∧ Ex F F1 ∧ Pre β β1 ∧ Good (gX T X) F1 H1 β1 st1 ∧ EnvR (gX T X) F1 β1 σ ρ ∧ Rep X.w X.K X.mg F1 β1 v d ∧ PostE (gX T X) (wAt W σ) F1 β1 Q (match keyItems st1 d with
      | some ds => match keysM (fun x st => mk (lamEn N.length js ρ [x]) st) ds st1 with
        | .ok ks st' => match pdL ks with
          | some kz => if keysOk kz = true then .ok (.lst (byKey ds kz)) st' else .bad
          | none => .bad
        | _ => .bad
      | none => .bad)) :=
    tM_imp (tM_E g er h) fun v H1 ⟨F1, β1, d, st1, a1, b1, g1, er1, r1, h1⟩ => ⟨v, F1, β1, d, st1, rfl, a1, b1, g1, er1, r1, h1⟩
  have hkwe : backToKw pos (keywordEach [⟨some "key", .Lambda params body scope lpos, kpos⟩] X.env) = [((some "key" : Option Str), do let v ← eval (.Lambda params body scope lpos) X.env; standAt pos; pure v)] := by rw [hkw]; rfl
  refine PyProof.Rows.callWith_kw (rest := []) (thn ((pa_cons he pa_nil (by rw [hst]; rfl)).run pos pins s σ H _ I hT) fun us s1 ⟨vs, H1, I1, rv, v, F1, β1, d, st1, ev, a1, b1, g1, er1, r1, h1⟩ => ?_) (by rw [hst]; rfl) (by rw [hst]; rfl) (by rw [hkwe]; rfl) (by rw [hkwe]; rfl)
  rw [hkwe]
  subst ev
  obtain ⟨u, rfl, ru⟩ := vals1 rv
  cases ei : keyItems st1 d with
  | none => rw [ei] at h1; exact h1.elim
  | some ds =>
    rw [ei] at h1
    dsimp only at h1
    cases ek : keysM (fun x st => mk (lamEn N.length js ρ [x]) st) ds st1 with
    | bad => rw [ek] at h1; exact h1.elim
    | exc _ _ _ => rw [ek] at h1; exact h1.elim
    | ok ks st' =>
      rw [ek] at h1
      dsimp only at h1
      cases ez : pdL ks with
      | none => rw [ez] at h1; exact h1.elim
      | some kz =>
        rw [ez] at h1
        dsimp only at h1
        split at h1
        · rename_i ok
          refine wpAny_evalAll_cons (wpAny_bind ?_)
          have hfree' : ∀ y ∈ scope.names, y.2 = .free → ∃ c, X.env.cells.lookup y.1 = some c := fun y hy z => (hfree y hy z).elim (fun w => I1.ok.has _ (.inl w)) fun w => I1.ok.has _ (.inr w)
          refine lam_makeN I1 TB hcode hmT hn huT g1.tab hdef hfree' fun f c' pm ctv H2 s2 I2 eN tN hf hfn hfs hfl hco => ?_
          refine wpAny_bind (wpAny_standAt (wpAny_pure (wpAny_evalAll_nil ?_)))
          have g2 := g1.extN eN tN
          obtain ⟨g3, e3⟩ := g2.code hco
          have I3 : Inv X ((f, lamO (X.env.qual ++ "<lambda>") params body scope (cloFrom X.env.cells scope.names []) pm c' ctv) :: pins) σ H2 s2 := I2.pins_of fun q hq => by
            rcases List.mem_cons.mp hq with z | z
            · subst z
              exact ⟨hf, hfn, hfl, fun z => hfs (by
                rcases I2.ok.stk with w | ⟨w, _⟩
                · rw [w]; exact z
                · rw [w]; unfold frs; rw [List.filterMap_cons]; split
                  · exact z
                  · exact List.mem_cons_of_mem _ z), fun w z => by cases z⟩
            · exact I2.pin q (List.mem_append_right _ z)
          have cp : NdefX.Caps X (cloFrom X.env.cells scope.names []) fr js := NdefX.Caps.made I2.ok hfree hfr hjs
          have turn : KeyCall T X X.A.in1.in1 ((f, lamO (X.env.qual ++ "<lambda>") params body scope (cloFrom X.env.cells scope.names []) pm c' ctv) :: pins) σ (upd F1 c' (LamX.CodeO c' (X.env.qual ++ "<lambda>"))) β1 (.ref f) (fun x st => mk (lamEn N.length js ρ [x]) st) := by
            intro P' s' F' H' β' st' y dy w dk st2 hP I' g' a' b' ry rw' em
            have hfp := (I'.pin _ (List.mem_append_right _ (hP _ List.mem_cons_self))).1
            exact lam_run (W := W) (params := params) (body := body) (ps := [x]) S cp (fun pm ctv us hl => hb _ _ pm _ ctv us hl) hr.in1.in1 rfl (fun A outer s H h => hbody A outer s H _ _ _ _ h) I' hfp g' (a' _ _ upd_same) (((er1.mono e3 (Pre.refl _)).mono a' b')) (.cons rw' .nil) (.cons ry .nil) rfl em
          refine wpAny_mono (Q := EP X ((f, lamO (X.env.qual ++ "<lambda>") params body scope (cloFrom X.env.cells scope.names []) pm c' ctv) :: pins) σ Q) ?_ (fun v s' ⟨y, H', I', r', q'⟩ => ⟨y, H', inv_pins I' fun q hq => List.mem_cons_of_mem _ hq, r', q'⟩) fun _ _ e => e
          unfold keyItems at ei
          cases ex : dxtOf st1 d with
          | none => rw [ex] at ei; cases ei
          | some kvs =>
            rw [ex] at ei
            cases ei
            obtain ⟨a, kx, ws, rfl, q1, q2, q3, rfl⟩ := g3.dxt (r1.mono e3 (Pre.refl _)) ex
            cases ru
            obtain ⟨z, hd, xs, rel, dd⟩ := dx_at I3 q1 (g3.keyed q2)
            obtain ⟨o, es, ep, o1, o2, o3, o4, _, _⟩ := id dd
            have hes : es.size = xs.length := by rw [← Array.length_toList, o4, List.length_map]
            have hxl : kx.length = xs.length := Paired.length rel
            refine call_function_entry_kw PyProof.Rows.kind_sorted PyProof.Rows.plain_sorted PyProof.Rows.entry_sorted (ksk_s1 _ _) ?_
            unfold Builtin.«sorted»
            refine wpAny_bind (m := checkCount "sorted" 1 1 _) (wpAny_pure ?_)
            refine wpAny_bind (PySem.W.kdu_collect (A := X.A.in1) (PySem.KdlSrc.rawDict (es := es) (ep := ep) hd) (I3.ok.hd hc) ⟨o, o1, o2, o3⟩ (by rw [hes, ← hxl]; exact z) fun h' tk acc hkk hacc => ?_)
            have I4 : Inv X ((f, lamO (X.env.qual ++ "<lambda>") params body scope (cloFrom X.env.cells scope.names []) pm c' ctv) :: pins) σ H2 { s2 with heap := h', toks := tk } := I3.kept hkk
            have hv : Vals (kx.map fun p => V.ref p.2.1) acc.toList := entry_vals rel (by rw [Array.length_toList, hacc.1, hes]) fun j w e => by
              obtain ⟨hi, e5⟩ := hacc.2 j w (by rw [← Array.getElem?_toList]; exact e)
              have e6 : es[j]? = some es[j] := Array.getElem?_eq_getElem hi
              rw [← Array.getElem?_toList, o4, List.getElem?_map] at e6
              cases e7 : xs[j]? with
              | none => rw [e7] at e6; cases e6
              | some q =>
                rw [e7] at e6
                have e8 : entryOfKey (tupleKind (mixKind X.prog X.w)) q = es[j] := Option.some.inj e6
                exact ⟨q, rfl, by rw [e5, ← e8]; rfl⟩
            have hzip : (((kx.map (·.1)).zip ws).map fun p => keyTD p.1) = kx.map fun p => keyTD p.1 := by
              have l : (kx.map (·.1)).length = ws.length := by have := q3.length; simpa using this
              have : (((kx.map (·.1)).zip ws).map (·.1)) = kx.map (·.1) := by rw [List.map_fst_zip (Nat.le_of_eq l)]
              have e9 := congrArg (List.map keyTD) this
              rw [List.map_map, List.map_map] at e9
              exact e9
            rw [hzip] at ek h1
            refine sorted_rest (mk := fun x st => mk (lamEn N.length js ρ [x]) st) (ks := ks) (kz := kz) I4 hv g3 (keyed_rep kx q2) ek ez ok (by have := hr.units; omega) (by rw [hacc.1, hes, ← hxl]; exact z) turn fun s5 F5 H5 β5 l outs n5 I5 a5 b5 g5 r5 => ?_
            have hx := (((Ex.trans e3 a5).trans (Ex.new (o := .lst outs) (g5.ex.none n5))))
            exact h1 _ _ _ β5 hx b5 (g5.new n5 _) (.lst (SqL.of upd_same) (r5.mono (Ex.new (g5.ex.none n5)) (Pre.refl _)))
        · exact h1.elim
end
end DM

end

section
set_option Elab.async false
set_option linter.all false
set_option maxRecDepth 100000
set_option maxHeartbeats 4000000
/-! DMw: a table of functions, called by a word. -/
namespace DM
open PySem PySem.Spec PyProof.Rows L2
def mTab (tbl : List (Str × (List D → Sto → R D))) (n : Nat) (mi : ME) (ms : MA) : ME := fun ρ st => (mi ρ st).bind fun w st => match w with
  | .str z => match tbl.lookup z with
    | some m => (ms ρ st).bind fun ds st => if ds.length = n then m ds st else .bad
    | none => .bad
  | _ => .bad
section
variable {T : List NdefX.NTab} {X : Cx} {W : WX} {e i : Expr} {es : List Expr} {mi : ME} {ms : MA} {p p2 pos : Pos} {x : Str} {k n : Nat}
/-- one entry -/
def TabE (T : List NdefX.NTab) (X : Cx) (k n : Nat) (TD : Addr) (z : Str) (m : List D → Sto → R D) : Prop :=
  ∃ (f : Addr) (fd : FuncData) (ps : List Str), KDct X.K X.w TD z (.ref f) ∧ FnOk X.prog X.w X.K X.mg X.base (L2.CX X.prog X.w) k f fd ps (spM (gX T X) n m) ∧ PySem.W.keepIn X.K (.ref f) = true ∧ Binds X.K fd ps []
theorem ev_tab {TD : Addr} {tbl : List (Str × (List D → Sto → R D))} (hm : X.mg x = some (.ref TD)) (tb : ∀ z m, tbl.lookup z = some m → TabE T X k n TD z m) (hr : Room k X.A) (tk : Takes X W) (hi : EvE T X W i mi) (ha : EvA T X W (e :: es) ms) (hg : Gl X x := by rfl) (hdb : (x == ("__debug__" : Str)) = false := by decide) (hs : PlainIx i := by exact fun _ _ => rfl)
    (he : starEach (e :: es) X.env = (false, eval e X.env) :: starEach es X.env := by rfl) (hpl : (backTo pos (starEach es X.env)).any (·.1) = false := by rfl)
    (hc : eval (.Call (.Subscript (.Name x p) i p2) (e :: es) [] pos) X.env = (do callWith pos (← eval (.Subscript (.Name x p) i p2) X.env) [] (backTo pos (starEach (e :: es) X.env)) (backToKw pos (keywordEach [] X.env))) := by rfl) :
    EvE T X W (.Call (.Subscript (.Name x p) i p2) (e :: es) [] pos) (mTab tbl n mi ms) := by
  refine ⟨fun pins s σ H Q I h => ?_⟩
  obtain ⟨F, β, ρ, st, g, er, h⟩ := h
  have hp := pe_ix (pos := p2) ix_kdict (pe_glob (pos := p) (v := .ref TD) hg hm rfl hdb) hi hs
  have hT : tOp (rIxD X.K X.w) (tC (.ref TD)) (tM (gX T X) W mi) σ H (fun v H1 => ∃ (f : Addr) (fd : FuncData) (ps : List Str) (m : List D → Sto → R D) (F1 : Hp) (β1 : List Addr) (st1 : Sto), v = .ref f ∧ FnOk X.prog X.w X.K X.mg X.base (L2.CX X.prog X.w) k f fd ps (spM (gX T X) n m) ∧ PySem.W.keepIn X.K (.ref f) = true ∧ Binds X.K fd ps [] ∧ Ex F F1 ∧ Pre β β1 ∧ Good (gX T X) F1 H1 β1 st1 ∧ EnvR (gX T X) F1 β1 σ ρ ∧
      PostE (gX T X) (wAt W σ) F1 β1 Q ((ms ρ st1).bind fun ds st => if ds.length = n then m ds st else .bad)) := by
    refine tM_imp (tM_E g er h) fun v H1 ⟨F1, β1, d, st1, a1, b1, g1, er1, r1, h1⟩ => ?_
    cases r1 with
    | str z =>
      dsimp only at h1
      cases el : tbl.lookup z with
      | none => rw [el] at h1; exact h1.elim
      | some m =>
        rw [el] at h1
        obtain ⟨f, fd, ps, q1, q2, q3, q4⟩ := tb z m el
        exact ⟨TD, z, .ref f, rfl, rfl, q1, f, fd, ps, m, F1, β1, st1, rfl, q2, q3, q4, a1, b1, g1, er1, h1⟩
    | _ => exact h1.elim
  refine Call_ (thn (hp.run pins s σ H _ I hT) fun u s1 ⟨v, H1, I1, ru, f, fd, ps, m, F1, β1, st1, ev, Fn, hk, hb, a1, b1, g1, er1, h1⟩ => ?_) hc
  subst ev
  cases ru
  refine PySem.W.callWith_K (h₀ := X.base) I.ok.mod.kin hk (thn (ha.run pos pins s1 σ H1 _ I1 (tMA_E g1 er1 h1)) fun us s2 ⟨vs, H2, I2, rv, F2, β2, ds, st2, a2, b2, g2, er2, r2, h2⟩ => ⟨I2.kIn, ?_⟩) he hpl
  exact run_fnS (E := fun σ => WE W σ) Fn hr hb (passAt tk σ) I2 rv ⟨F2, β2, st2, ds, g2, r2, h2⟩
end
end DM

end

section
set_option Elab.async false
set_option linter.all false
set_option maxRecDepth 100000
set_option maxHeartbeats 2000000
/-! DMx: what the head tells: facts by names. -/
namespace DM
open PySem PySem.Spec PyProof.Rows L2
open He (ga ma FnV frT asD)
/-! ### where a def stands -/
inductive DAt where
  | g (x : Str) | m (c f : Str) | p (c f : Str)
def getterOf (K : PySem.W.Frag) (p : Addr) : Addr := match PySem.W.recIn K p "property" with
  | some (.ref g :: _) => g
  | _ => 0
def DAt.ad (K : PySem.W.Frag) : DAt → Addr
  | .g x => ga K x
  | .m c f => ma K (ga K c) f
  | .p c f => getterOf K (ma K (ga K c) f)
structure DefZ where
  at_ : DAt
  name : Str
  qual : Str
  st : Stmt
def fnZ (K : PySem.W.Frag) (a : Addr) : FnV := match K.lookup a with
  | some ⟨_, _, .func fd, _⟩ => some (fd.name, fd.qualname, fd.params, fd.body, fd.scope, fd.globals, fd.closure, fd.defaults, fd.builtins)
  | _ => none
def DefZ.val (d : DefZ) : FnV := some (d.name, d.qual, defArgs d.st, .stmts (defBody d.st), defScope d.st, mainGlobals, [], .none, builtinsNs)
def DefZ.ok (K : PySem.W.Frag) (d : DefZ) : Bool := PySem.W.keepIn K (.ref (d.at_.ad K)) && (match K.lookup (d.at_.ad K) with
  | some ⟨_, _, .func fd, _⟩ => PySem.W.codeIn K fd.code d.qual
  | _ => false)
theorem ba {a b : Bool} (h : (a && b) = true) : a = true ∧ b = true := Bool.and_eq_true_iff.mp h
theorem DefZ.fun_ {K : PySem.W.Frag} {d : DefZ} (e : fnZ K (d.at_.ad K) = d.val) (c : d.ok K = true) : ∃ fd, Fun K d.name d.qual d.st (d.at_.ad K) fd := by
  obtain ⟨kp, c2⟩ := ba c
  unfold fnZ at e
  cases q : K.lookup (d.at_.ad K) with
  | none => rw [q] at c2; cases c2
  | some o =>
    obtain ⟨oc, od, dt, osl⟩ := o
    rw [q] at c2 e
    cases dt with
    | func fd =>
      obtain ⟨n1, n2, n3, n4, n5, n6, n7, n8, n9, n10, n11, n12, n13, n14, n15⟩ := fd
      have e2 : (some (n1, n2, n3, n4, n5, n6, n7, n8, n15) : FnV) = some (d.name, d.qual, defArgs d.st, .stmts (defBody d.st), defScope d.st, mainGlobals, [], .none, builtinsNs) := e
      simp only [Option.some.injEq, Prod.mk.injEq] at e2
      obtain ⟨h1, h2, h3, h4, h5, h6, h7, h8, h9⟩ := e2
      subst h1 h2 h3 h4 h5 h6 h7 h8 h9
      exact ⟨_, fun_mk (st := d.st) q c2 kp⟩
    | _ => cases c2
/-! ### facts -/
/-- the value u is the datum d -/
def repB (K : PySem.W.Frag) : Nat → Value → D → Bool
  | _, .none, .non => true
  | _, .bool b, .bl c => b == c
  | _, .int i _, .int j => decide (i = j)
  | _, .str x _, .str y => decide (x = y)
  | _, .ref a, .gl x => decide (PySem.W.nsIn K mainGlobals x = some (some (.ref a)))
  | n + 1, .ref a, .tup ds => (match K.lookup a with
    | some ⟨.type c, none, .seq its _, _⟩ => decide (c = "tuple") && (decide (its.size ≤ sizeLine) && (decide (its.toList.length = ds.length) && (its.toList.zip ds).all fun p => repB K n p.1 p.2))
    | _ => false)
  | _, _, _ => false
def opO (a b : Option (Option Value)) : Bool := decide (a = b)
inductive Fz where
  | val (x : Str) (d : D)
  | glo (x : Str)
  | free (x : Str)
  | blt (x : Str) (id : String)
  | cls (c : Str)
  | noat (c f : Str)
  | meth (c f : Str)
  | prop (c f : Str)
  | mkr (c : Str)
  | eqo (c : Str)
  | neo (c : Str)
  | two (c c' : Str)
  | keep (x : Str)
  | tabv (x z y : Str)
def nsOf (K : PySem.W.Frag) (C : Addr) : Addr := match K.lookup C with
  | some ⟨_, _, .cls cd, _⟩ => cd.ns
  | _ => 0
def isBlt : Option Value → Bool
  | some (.builtin _) => true
  | _ => false
def clsShape (C N : Addr) : Obj → Bool
  | ⟨.type c, _, .cls cd, sl⟩ => decide (c = "type") && (decide (cd.ns = N) && (decide (cd.mro = [.ref C, .type "object"]) && (!cd.hasDel && (decide (sl.size = 6) && isBlt (sl.getD 4 none)))))
  | _ => false
def Fz.ok (K : PySem.W.Frag) : Fz → Bool
  | .val x d => (match PySem.W.nsIn K mainGlobals x with
    | some (some u) => repB K 8 u d
    | _ => false)
  | .glo x => opO (PySem.W.nsIn K mainGlobals x) (some (some (.ref (ga K x))))
  | .free x => opO (PySem.W.nsIn K mainGlobals x) (some none)
  | .blt x id => opO (PySem.W.nsIn K mainGlobals x) (some (some (.builtin id)))
  | .cls c => PySem.W.plainGet K (ga K c) Str.empty && (PySem.W.hasDictIn K (ga K c) && (PySem.W.plainOver K (ga K c) && (opO (PySem.W.findIn K (.ref (ga K c)) "__setattr__") (some (some (.builtin "object.__setattr__"))) &&
      (opO (PySem.W.findIn K (.ref (ga K c)) "__class__") (some (some (.builtin "object.__class__"))) && (decide (PySem.W.mroIn K (ga K c) (.type "object") = some true) && ((ty7.all fun ty => decide (PySem.W.kitOne K (.type ty) (.ref (ga K c)) = some false)) &&
      ((ty7.all fun t => decide (PySem.W.kitOne K (.ref (ga K c)) (.type t) = some false)) && (opO (PySem.W.specialIn K (.builtin "object.__class__") "__get__") (some (some (.builtin "getset_descriptor.__get__"))) && decide (PySem.W.takesIn K (.builtin "object.__class__") = some true)))))))))
  | .noat c f => opO (PySem.W.findIn K (.ref (ga K c)) f) (some none)
  | .meth c f => opO (PySem.W.findIn K (.ref (ga K c)) f) (some (some (.ref (ma K (ga K c) f)))) && (PySem.W.isFn K (.ref (ma K (ga K c) f)) && PySem.W.keepIn K (.ref (ma K (ga K c) f)))
  | .prop c f => opO (PySem.W.findIn K (.ref (ga K c)) f) (some (some (.ref (ma K (ga K c) f)))) && (opO (PySem.W.specialIn K (.ref (ma K (ga K c) f)) "__get__") (some (some (.builtin "property.__get__"))) &&
      (decide (PySem.W.takesIn K (.ref (ma K (ga K c) f)) = some true) && (match PySem.W.recIn K (ma K (ga K c) f) "property" with
        | some (.ref _ :: _) => true
        | _ => false)))
  | .mkr c => PySem.W.makesIn K (ga K c) && (opO (PySem.W.findIn K (.ref (ga K c)) "__init__") (some (some (.ref (ma K (ga K c) "__init__")))) && (PySem.W.isFn K (.ref (ma K (ga K c) "__init__")) && PySem.W.keepIn K (.ref (ga K c))))
  | .eqo c => opO (PySem.W.findIn K (.ref (ga K c)) "__eq__") (some (some (.ref (ma K (ga K c) "__eq__")))) && (PySem.W.isFn K (.ref (ma K (ga K c) "__eq__")) && (ty7.all fun t => PySem.W.notFirst K (ga K c) (.type t)))
  | .neo c => (match K.lookup (ga K c) with
    | some o => clsShape (ga K c) (nsOf K (ga K c)) o
    | none => false) && (PySem.W.nsOkIn K (nsOf K (ga K c)) && (opO (PySem.W.nsIn K (nsOf K (ga K c)) "__eq__") (some (some (.ref (ma K (ga K c) "__eq__")))) && (opO (PySem.W.nsIn K (nsOf K (ga K c)) "__ne__") (some none) && (match K.lookup (ma K (ga K c) "__eq__") with
      | some o => decide (o.cls = .type "function")
      | none => false))))
  | .two c c' => decide (PySem.W.kitOne K (.ref (ga K c)) (.ref (ga K c')) = some false)
  | .keep x => PySem.W.keepIn K (.ref (ga K x))
  | .tabv x z y => opO (PySem.W.nsIn K (ga K x) z) (some (some (.ref (ga K y))))
section
variable {K : PySem.W.Frag} {h : Heap} {mg : Str → Option Value}
theorem opO_ok {a b : Option (Option Value)} (h : opO a b = true) : a = b := of_decide_eq_true h
theorem glo_ok (X : K.In h) (G : h.Ns mainGlobals mg) {x : Str} (c : (Fz.glo x).ok K = true) : mg x = some (.ref (ga K x)) := PySem.W.mg_of X G (opO_ok c)
theorem free_ok (X : K.In h) (G : h.Ns mainGlobals mg) {x : Str} (c : (Fz.free x).ok K = true) : mg x = none := PySem.W.mg_none_of X G (opO_ok c)
theorem blt_ok (X : K.In h) (G : h.Ns mainGlobals mg) {x : Str} {id : String} (c : (Fz.blt x id).ok K = true) : mg x = some (.builtin id) := PySem.W.mg_of X G (opO_ok c)
theorem clsI_ok {x : Str} (c : (Fz.cls x).ok K = true) : ClsI K (ga K x) := by
  obtain ⟨c1, c⟩ := ba c
  obtain ⟨c2, c⟩ := ba c
  obtain ⟨c3, c⟩ := ba c
  obtain ⟨c4, c⟩ := ba c
  obtain ⟨c5, c⟩ := ba c
  obtain ⟨c6, c⟩ := ba c
  obtain ⟨c7, c⟩ := ba c
  obtain ⟨c8, c⟩ := ba c
  obtain ⟨c9, c10⟩ := ba c
  exact ⟨⟨c1, c2, c3, opO_ok c4⟩, opO_ok c5, of_decide_eq_true c6, c7, c8, opO_ok c9, of_decide_eq_true c10⟩
theorem noat_ok {x f : Str} (c : (Fz.noat x f).ok K = true) : NoAttr K (ga K x) f := opO_ok c
theorem meth_ok {x m : Str} (c : (Fz.meth x m).ok K = true) : Meth K (ga K x) m (ma K (ga K x) m) := by
  obtain ⟨c1, c⟩ := ba c
  obtain ⟨c2, c3⟩ := ba c
  exact ⟨opO_ok c1, c2, c3⟩
theorem prop_ok {x f : Str} (c : (Fz.prop x f).ok K = true) : PropOf K (ga K x) f (ma K (ga K x) f) (getterOf K (ma K (ga K x) f)) := by
  obtain ⟨c1, c⟩ := ba c
  obtain ⟨c2, c⟩ := ba c
  obtain ⟨c3, c4⟩ := ba c
  refine ⟨opO_ok c1, opO_ok c2, of_decide_eq_true c3, ?_⟩
  unfold getterOf
  split at c4
  · rename_i g rest e
    exact ⟨rest, by rw [e]⟩
  · cases c4
theorem mkr_ok {x : Str} (c : (Fz.mkr x).ok K = true) : Mk K (ga K x) (ma K (ga K x) "__init__") := by
  obtain ⟨c1, c⟩ := ba c
  obtain ⟨c2, c⟩ := ba c
  obtain ⟨c3, c4⟩ := ba c
  exact ⟨c1, opO_ok c2, c3, c4⟩
theorem eqo_ok {x : Str} (c : (Fz.eqo x).ok K = true) : EqOf K (ga K x) (ma K (ga K x) "__eq__") := by
  obtain ⟨c1, c⟩ := ba c
  obtain ⟨c2, c3⟩ := ba c
  exact ⟨opO_ok c1, c2, c3⟩
theorem shape_ok {C N : Addr} {o : Obj} (h : clsShape C N o = true) : ∃ nm q bs hdct sn sub ab col dd k0 k1 k2 k3 k5 newId, o = excClassObj nm q C N bs [.type "object"] hdct sn sub ab col dd k0 k1 k2 k3 k5 newId := by
  obtain ⟨oc, od, dt, sl⟩ := o
  cases oc with
  | type c =>
    cases dt with
    | cls cd =>
      obtain ⟨h1, h⟩ := ba h
      obtain ⟨h2, h⟩ := ba h
      obtain ⟨h3, h⟩ := ba h
      obtain ⟨h4, h⟩ := ba h
      obtain ⟨h5, h6⟩ := ba h
      have e1 := of_decide_eq_true h1
      have e2 := of_decide_eq_true h2
      have e3 := of_decide_eq_true h3
      have e5 := of_decide_eq_true h5
      subst e1
      obtain ⟨a1, a2, a3, a4, a5, a6, a7, a8, a9, a10, a11⟩ := cd
      simp only at e2 e3 h4
      obtain ⟨l⟩ := sl
      simp only [List.size_toArray] at e5
      match l, e5, h6 with
      | [k0, k1, k2, k3, k4, k5], _, h6 =>
        have h6 : isBlt k4 = true := h6
        cases k4 with
        | none => cases h6
        | some v =>
          cases v with
          | builtin id =>
            have h4 : a11 = false := by simpa using h4
            refine ⟨a1, a5, a2, a6, a7, a8, a9, a10, od, k0, k1, k2, k3, k5, id, ?_⟩
            rw [e2, e3, h4]
          | _ => cases h6
    | _ => cases h
  | _ => cases dt <;> cases h
theorem neo_ok {x : Str} (c : (Fz.neo x).ok K = true) : NeOf K (ga K x) (ma K (ga K x) "__eq__") (nsOf K (ga K x)) := by
  obtain ⟨c1, c⟩ := ba c
  obtain ⟨c2, c⟩ := ba c
  obtain ⟨c3, c⟩ := ba c
  obtain ⟨c4, c5⟩ := ba c
  refine ⟨?_, c2, opO_ok c3, opO_ok c4, ?_⟩
  · cases q : K.lookup (ga K x) with
    | none => rw [q] at c1; cases c1
    | some o =>
      rw [q] at c1
      obtain ⟨a1, a2, a3, a4, a5, a6, a7, a8, a9, a10, a11, a12, a13, a14, a15, e⟩ := shape_ok c1
      exact ⟨a1, a2, a3, a4, a5, a6, a7, a8, a9, a10, a11, a12, a13, a14, a15, by rw [e]⟩
  · cases q : K.lookup (ma K (ga K x) "__eq__") with
    | none => rw [q] at c5; cases c5
    | some o => rw [q] at c5; exact ⟨o, rfl, of_decide_eq_true c5⟩
theorem keep_ok {x : Str} (c : (Fz.keep x).ok K = true) : PySem.W.keepIn K (.ref (ga K x)) = true := c
theorem repB_ok (X : K.In h) (G : h.Ns mainGlobals mg) : ∀ (n : Nat) (u : Value) (d : D), repB K n u d = true → ∃ v, RelV v u ∧ ∀ wd F β, Rep wd K mg F β v d := by
  intro n
  induction n with
  | zero =>
    intro u d hb
    unfold repB at hb
    split at hb
    · exact ⟨.non, rfl, fun _ _ _ => .non⟩
    · rename_i b c
      have e : b = c := eq_of_beq hb
      subst e
      exact ⟨.bl b, rfl, fun _ _ _ => .bl _⟩
    · have e := of_decide_eq_true hb
      subst e
      exact ⟨.int _, ⟨_, rfl⟩, fun _ _ _ => .int _⟩
    · have e := of_decide_eq_true hb
      subst e
      exact ⟨.str _, ⟨_, rfl⟩, fun _ _ _ => .str _⟩
    · rename_i a x
      exact ⟨.ref a, rfl, fun _ _ _ => .gl (PySem.W.mg_of X G (of_decide_eq_true hb))⟩
    · rename_i hn
      cases hn
    · cases hb
  | succ n ih =>
    intro u d hb
    unfold repB at hb
    split at hb
    · exact ⟨.non, rfl, fun _ _ _ => .non⟩
    · rename_i b c
      have e : b = c := eq_of_beq hb
      subst e
      exact ⟨.bl b, rfl, fun _ _ _ => .bl _⟩
    · have e := of_decide_eq_true hb
      subst e
      exact ⟨.int _, ⟨_, rfl⟩, fun _ _ _ => .int _⟩
    · have e := of_decide_eq_true hb
      subst e
      exact ⟨.str _, ⟨_, rfl⟩, fun _ _ _ => .str _⟩
    · rename_i a x
      exact ⟨.ref a, rfl, fun _ _ _ => .gl (PySem.W.mg_of X G (of_decide_eq_true hb))⟩
    · rename_i m a ds hm
      cases hm
      split at hb
      · rename_i c its k sl q
        obtain ⟨h1, hb⟩ := ba hb
        obtain ⟨h2, hb⟩ := ba hb
        obtain ⟨h3, h4⟩ := ba hb
        have e1 := of_decide_eq_true h1
        subst e1
        have key : ∀ (l : List Value) (ds : List D), l.length = ds.length → ((l.zip ds).all fun p => repB K n p.1 p.2) = true → ∃ vs, Vals vs l ∧ ∀ wd F β, RepAll wd K mg F β vs ds := by
          intro l
          induction l with
          | nil =>
            intro ds hl _
            cases ds with
            | nil => exact ⟨[], .nil, fun _ _ _ => .nil⟩
            | cons _ _ => simp at hl
          | cons u l ihl =>
            intro ds hl ha
            cases ds with
            | nil => simp at hl
            | cons d ds =>
              rw [List.zip_cons_cons, List.all_cons] at ha
              obtain ⟨a1, a2⟩ := ba ha
              obtain ⟨v, r1, r2⟩ := ih u d a1
              obtain ⟨vs, s1, s2⟩ := ihl ds (by simpa using hl) a2
              exact ⟨v :: vs, .cons r1 s1, fun wd F β => .cons (r2 wd F β) (s2 wd F β)⟩
        obtain ⟨vs, s1, s2⟩ := key its.toList ds (of_decide_eq_true h3) h4
        exact ⟨.ref a, rfl, fun wd F β => .tup (.inr ⟨_, its, k, q, ⟨rfl, rfl⟩, rfl, of_decide_eq_true h2, s1⟩) (s2 wd F β)⟩
      · cases hb
    · cases hb
theorem val_ok (X : K.In h) (G : h.Ns mainGlobals mg) {x : Str} {d : D} {wd : World} (c : (Fz.val x d).ok K = true) : GlOk wd K mg x d := by
  have c : (match PySem.W.nsIn K mainGlobals x with
    | some (some u) => repB K 8 u d
    | _ => false) = true := c
  split at c
  · rename_i u e
    obtain ⟨v, r1, r2⟩ := repB_ok X G 8 u d c
    exact ⟨v, u, PySem.W.mg_of X G e, r1, fun F β => r2 wd F β⟩
  · cases c
end
end DM

end

section
set_option Elab.async false
set_option linter.all false
set_option maxRecDepth 100000
set_option maxHeartbeats 2000000
/-! DMy: the head's Hook; the law at its end. -/
namespace DM
open PySem PySem.Spec PyProof.Rows L2
open He (ga ma FnV frT asD Tab dicW keysIn)
/-! ### code objects and their tables -/
def cTab (K : PySem.W.Frag) (d : DAt) : Addr × Addr := (codeAd K (d.ad K), He.tabOf K (codeAd K (d.ad K)))
structure SaysZ (fa : List Fz) (fn : List DefZ) (ts : List Tab) (tf : List DAt) (w : World) (h : Heap) (K : PySem.W.Frag) : Prop where
  fs : (fa.all fun f => f.ok K) = true
  ds : (fn.all fun d => d.ok K) = true
  vs : fn.map (fun d => fnZ K (d.at_.ad K)) = fn.map DefZ.val
  tb : ts.map (fun t => dicW K (t.1 K)) = ts.map fun t => some (keysIn w.params t.2)
  hd : ∀ p ∈ tf, PySem.W.codeHdIn K (cTab K p).1 (cTab K p).2 = true
  out : ∀ p ∈ tf, K.lookup (cTab K p).2 = none
  empty : ∀ p ∈ tf, h.get? (cTab K p).2 = some { cls := .none, data := .fields #[] }
def tabsZ (g : Addr → Option Obj) (tf : List DAt) (K : PySem.W.Frag) : Bool := tf.all fun p => PySem.W.codeHdIn K (cTab K p).1 (cTab K p).2 && (match g (cTab K p).2 with
  | some o => He.emptyTab o
  | none => false)
abbrev AlZ : Type := (Bool × List FnV) × List (Option (List (Option (Str × Int))))
def obsZ' (fa : List Fz) (fn : List DefZ) (ts : List Tab) (tf : List DAt) (g : Addr → Option Obj) (K : PySem.W.Frag) : AlZ := (((fa.all fun f => f.ok K) && ((fn.all fun d => d.ok K) && tabsZ g tf K), fn.map fun d => fnZ K (d.at_.ad K)), ts.map fun t => dicW K (t.1 K))
def obsZ (n : Nat) (fa : List Fz) (fn : List DefZ) (ts : List Tab) (tf : List DAt) (g : Addr → Option Obj) : AlZ := obsZ' fa fn ts tf g (frT g (asD g n))
def valZ (fn : List DefZ) (ts : List Tab) (w : World) : AlZ := ((true, fn.map DefZ.val), ts.map fun t => some (keysIn w.params t.2))
theorem saysZ_of {n : Nat} {fa : List Fz} {fn : List DefZ} {ts : List Tab} {tf : List DAt} {w : World} {h : Heap} (e : obsZ n fa fn ts tf h.get? = valZ fn ts w) : SaysZ fa fn ts tf w h (frT h.get? (asD h.get? n)) := by
  have e1 : ((fa.all fun f => f.ok (frT h.get? (asD h.get? n))) && ((fn.all fun d => d.ok (frT h.get? (asD h.get? n))) && tabsZ h.get? tf (frT h.get? (asD h.get? n)))) = true := congrArg (fun z : AlZ => z.1.1) e
  obtain ⟨h1, h2⟩ := ba e1
  obtain ⟨h3, h4⟩ := ba h2
  have key : ∀ p ∈ tf, PySem.W.codeHdIn (frT h.get? (asD h.get? n)) (cTab (frT h.get? (asD h.get? n)) p).1 (cTab (frT h.get? (asD h.get? n)) p).2 = true ∧ ∃ o, h.get? (cTab (frT h.get? (asD h.get? n)) p).2 = some o ∧ He.emptyTab o = true := fun p hp => by
    obtain ⟨z1, z2⟩ := ba (List.all_eq_true.mp h4 p hp)
    refine ⟨z1, ?_⟩
    cases q : h.get? (cTab (frT h.get? (asD h.get? n)) p).2 with
    | none => rw [q] at z2; cases z2
    | some o => rw [q] at z2; exact ⟨o, rfl, z2⟩
  refine ⟨h1, h3, congrArg (fun z : AlZ => z.1.2) e, congrArg (fun z : AlZ => z.2) e, fun p hp => (key p hp).1, fun p hp => ?_, fun p hp => ?_⟩
  · obtain ⟨_, o, q, z⟩ := key p hp
    exact He.frT_none q z
  · obtain ⟨_, o, q, z⟩ := key p hp
    rw [q, He.emptyTab_eq z]
def hookZ (n : Nat) (fa : List Fz) (fn : List DefZ) (ts : List Tab) (tf : List DAt) : PySem.W.Hook where
  α := AlZ
  obs := fun s => obsZ n fa fn ts tf s.heap.get?
  val := fun w => valZ fn ts w
  says := fun w h => ∃ K : PySem.W.Frag, K.In h ∧ SaysZ fa fn ts tf w h K
  of := fun _ _ e => ⟨_, He.frT_in, saysZ_of e⟩
  keeps := fun _ _ _ ⟨K, hK, c⟩ k => ⟨K, PySem.W.Frag.In.keeps hK k, ⟨c.fs, c.ds, c.vs, c.tb, c.hd, c.out, fun p hp => k _ _ (c.empty p hp)⟩⟩
theorem obsZ_eq {n : Nat} {fa : List Fz} {fn : List DefZ} {ts : List Tab} {tf : List DAt} {g : Addr → Option Obj} {s : Shared} (h : ∀ a, g a = s.heap.get? a) : obsZ n fa fn ts tf g = (hookZ n fa fn ts tf).obs s := by
  have e : g = s.heap.get? := funext h
  rw [e] <;> rfl
section
variable {fa : List Fz} {fn : List DefZ} {ts : List Tab} {tf : List DAt} {w : World} {h : Heap} {K : PySem.W.Frag}
theorem SaysZ.fact (c : SaysZ fa fn ts tf w h K) (i : Nat) {f : Fz} (e : fa[i]? = some f := by rfl) : f.ok K = true := List.all_eq_true.mp c.fs f (List.mem_of_getElem? e)
theorem SaysZ.def_ (c : SaysZ fa fn ts tf w h K) (i : Nat) {d : DefZ} (e : fn[i]? = some d := by rfl) : ∃ fd, Fun K d.name d.qual d.st (d.at_.ad K) fd := by
  have e2 : (fn.map fun d => fnZ K (d.at_.ad K))[i]? = (fn.map DefZ.val)[i]? := by rw [c.vs]
  rw [List.getElem?_map, List.getElem?_map, e] at e2
  exact DefZ.fun_ (Option.some.inj e2) (List.all_eq_true.mp c.ds d (List.mem_of_getElem? e))
theorem SaysZ.tab (c : SaysZ fa fn ts tf w h K) (i : Nat) {t : Tab} (e : ts[i]? = some t := by rfl) : ∃ es n, KDict K w (t.1 K) es n := by
  have e2 : (ts.map fun t => dicW K (t.1 K))[i]? = (ts.map fun t => some (keysIn w.params t.2))[i]? := by rw [c.tb]
  rw [List.getElem?_map, List.getElem?_map, e] at e2
  exact He.dicW_ok (Option.some.inj e2)
end
/-- what the law's own mirror gives: True, for every script -/
def LawM (m : List D → Sto → R D) : Prop := ∀ ns : List Int, ns.length ≤ 63 → (∀ z ∈ ns, Builtin.Int.intBits z ≤ 1048576) → ∃ st, m [.lst (ns.map .int)] [] = .ok (.bl true) st
theorem rep_intsL {wd : World} {K : PySem.W.Frag} {mg : Str → Option Value} {F : Hp} {β : List Addr} (ns : List Int) : RepAll wd K mg F β (ns.map V.int) (ns.map D.int) := rep_ints ns
/-- THE END: the law's def keeps the promise of a mirror that always says True -/
theorem law_end {P : Program} {w : World} {K : PySem.W.Frag} {mg : Str → Option Value} {T : List NdefX.NTab} {cs : List (Addr × Addr)} {m : List D → Sto → R D} (hm : LawM m) (hT : ∀ p ∈ T, ∃ q ∈ cs, q.2 = p.1)
    (H : Hp) (a : Addr) (ns : List Int) (hn : ns.length ≤ 63) (hb : ∀ z ∈ ns, Builtin.Int.intBits z ≤ 1048576) (hH : ∀ p ∈ cs, H p.2 = some (.tbl #[])) (hS : SqL K H a (ns.map V.int)) :
    spM ⟨K, mg, T, w⟩ 1 m [.ref a] H (fun v _ => v = .bl true) fun _ _ _ => False := by
  let F : Hp := fun b => if b = a then (match H b with | some (.tbl _) => none | o => o) else none
  have eF : Ex F H := fun b o e => by
    show H b = some o
    have e : (if b = a then (match H b with | some (.tbl _) => none | o => o) else none) = some o := e
    split at e
    · split at e
      · cases e
      · exact e
    · cases e
  have sF : SqL K F a (ns.map V.int) := by
    have fa : F a = (match H a with | some (.tbl _) => none | o => o) := if_pos rfl
    rcases hS with (h | ⟨o, h⟩) | h
    · exact .inl (.inl (by rw [fa, h]))
    · exact .inl (.inr ⟨o, by rw [fa, h]⟩)
    · exact .inr h
  have g : Good ⟨K, mg, T, w⟩ F H [] [] := ⟨eF, fun n b h => by simp at h, fun m n b h => by simp at h, rfl, fun n b o h => by simp at h, fun p hp => by
    obtain ⟨q, hq, e⟩ := hT p hp
    exact NdefX.TabN.nil (by rw [← e]; exact hH q hq), fun b ps z => by
    have z : (if b = a then (match H b with | some (.tbl _) => none | o => o) else none) = some (.tbl ps) := z
    split at z
    · split at z
      · cases z
      · rename_i hz
        exact hz ps z
    · cases z⟩
  obtain ⟨st, e⟩ := hm ns hn hb
  refine ⟨F, [], [], [.lst (ns.map .int)], g, .cons (.lst sF (rep_intsL ns)) .nil, ?_⟩
  show PostE _ _ _ _ _ (m [.lst (ns.map .int)] [])
  rw [e]
  intro v H' F' β' _ _ _ r
  cases r
  rfl
end DM

end

section
set_option Elab.async false
set_option linter.all false
set_option maxRecDepth 100000
set_option maxHeartbeats 2000000
/-! DMz: defs as they are held; calls of them. -/
namespace DM
open PySem PySem.Spec PyProof.Rows L2
/-- the def at a keeps its mirror's promise -/
def Has (P : Program) (w : World) (K : PySem.W.Frag) (mg : Str → Option Value) (base : Heap) (T : List NdefX.NTab) (k : Nat) (a : Addr) (ps : List Str) (m : List D → Sto → R D) : Prop :=
  ∃ fd, FnOk P w K mg base (L2.CX P w) k a fd ps (spM ⟨K, mg, T, w⟩ ps.length m) ∧ Binds K fd ps [] ∧ PySem.W.keepIn K (.ref a) = true
/-- .. an __init__, called with keywords too -/
def HasI (P : Program) (w : World) (K : PySem.W.Frag) (mg : Str → Option Value) (base : Heap) (T : List NdefX.NTab) (k : Nat) (a : Addr) (ps ks : List Str) (is : List Nat) (m : List D → Sto → R D) : Prop :=
  ∃ fd, FnOk P w K mg base (L2.CX P w) k a fd ps (spM ⟨K, mg, T, w⟩ ps.length m) ∧ Binds K fd ps [] ∧ KWm K fd ps ks is
section
variable {P : Program} {w : World} {K : PySem.W.Frag} {mg : Str → Option Value} {base : Heap} {T : List NdefX.NTab} {k j : Nat} {a : Addr} {ps N : List Str} {m : List D → Sto → R D} {x qual : Str} {st : Stmt} {sl : Nat → D → Sto → R D} {b : MS}
theorem Has.mono (h : Has P w K mg base T j a ps m) (hj : j ≤ k) : Has P w K mg base T k a ps m := by
  obtain ⟨fd, h1, h2, h3⟩ := h
  exact ⟨fd, h1.mono hj, h2, h3⟩
theorem tk_fn {cdv : Value} {A : Around} {outer : List Env} {s : Shared} {H : Hp} {E : XK} {f : Addr} : Takes (cxOf (L2.CX P w) P w K mg base N qual (defScope st) f cdv A outer s H E) (wF E) := takes_of (X := cxOf (L2.CX P w) P w K mg base N qual (defScope st) f cdv A outer s H E) rfl rfl rfl rfl
theorem po_fn {cdv : Value} {A : Around} {outer : List Env} {s : Shared} {H : Hp} {E : XK} {f : Addr} : PassesOwn (model P w) (cxOf (L2.CX P w) P w K mg base N qual (defScope st) f cdv A outer s H E).A (cxOf (L2.CX P w) P w K mg base N qual (defScope st) f cdv A outer s H E).env (cxOf (L2.CX P w) P w K mg base N qual (defScope st) f cdv A outer s H E).xe :=
  passes_of (X := cxOf (L2.CX P w) P w K mg base N qual (defScope st) f cdv A outer s H E) rfl
abbrev BodyOk (P : Program) (w : World) (K : PySem.W.Frag) (mg : Str → Option Value) (base : Heap) (T : List NdefX.NTab) (k : Nat) (N : List Str) (qual : Str) (st : Stmt) (f : Addr) (b : MS) : Prop :=
  ∀ (cdv : Value) (A : Around) (outer : List Env) (s : Shared) (H : Hp) (E : XK), cdv = .ref (codeAd K f) → Room k (A.deeper (envOfC qual (defScope st) s.heap.objs.size f cdv)) → EvSs T (cxOf (L2.CX P w) P w K mg base N qual (defScope st) f cdv A outer s H E) (wF E) (defBody st) b
theorem has_of (hF : ∃ fd, Fun K x qual st a fd) (S : FnScope N ps (defScope st)) (so : SealOk ⟨K, mg, T, w⟩ sl)
    (hbind : ∀ (kV doc pm : Value) (an : Option Addr) (cdv ct : Value) (us : List Value), us.length = ps.length → bindArgs (PySem.W.fnOf x qual (defArgs st) (defBody st) (defScope st) .none kV doc pm an cdv ct) ⟨us, []⟩ = pure (ps.zip us))
    (hb : BodyOk P w K mg base T k N qual st a b) : Has P w K mg base T (k + 1) a ps (fnM sl N.length b) := by
  obtain ⟨fd, F⟩ := hF
  exact ⟨fd, fn_M F S so hb, F.binds hbind, F.kp⟩
theorem hasI_of {ks : List Str} {is : List Nat} (hF : ∃ fd, Fun K x qual st a fd) (S : FnScope N ps (defScope st)) (so : SealOk ⟨K, mg, T, w⟩ sl)
    (hbind : ∀ (kV doc pm : Value) (an : Option Addr) (cdv ct : Value) (us : List Value), us.length = ps.length → bindArgs (PySem.W.fnOf x qual (defArgs st) (defBody st) (defScope st) .none kV doc pm an cdv ct) ⟨us, []⟩ = pure (ps.zip us))
    (hkw : ∀ (kV doc pm : Value) (an : Option Addr) (cdv ct : Value) (u : Value) (ws : List Value), ws.length = ks.length → bindArgs (PySem.W.fnOf x qual (defArgs st) (defBody st) (defScope st) .none kV doc pm an cdv ct) ⟨[u], ks.zip ws⟩ = pure (ps.zip (u :: permD is ws)))
    (hb : BodyOk P w K mg base T k N qual st a b) : HasI P w K mg base T (k + 1) a ps ks is (fnM sl N.length b) := by
  obtain ⟨fd, F⟩ := hF
  refine ⟨fd, fn_M F S so hb, F.binds hbind, ?_⟩
  obtain ⟨oc, od, kV, doc, pm, an, cdv, ct, osl, rfl, lk, hcd⟩ := F.ex
  exact ⟨fun s u ws _ hl => .of_eq (hkw kV doc pm an cdv ct u ws hl)⟩
/-- a def of which nothing is promised -/
theorem has_bad (hF : ∃ fd, Fun K x qual st a fd)
    (hbind : ∀ (kV doc pm : Value) (an : Option Addr) (cdv ct : Value) (us : List Value), us.length = ps.length → bindArgs (PySem.W.fnOf x qual (defArgs st) (defBody st) (defScope st) .none kV doc pm an cdv ct) ⟨us, []⟩ = pure (ps.zip us)) :
    Has P w K mg base T k a ps (fun _ _ => .bad) := by
  obtain ⟨fd, F⟩ := hF
  have no : ∀ vs H Q E, ¬ spM ⟨K, mg, T, w⟩ ps.length (fun _ _ => .bad) vs H Q E := fun vs H Q E ⟨F0, β, st0, ds, _, _, h⟩ => by
    split at h <;> exact h
  exact ⟨fd, ⟨fun vs H Q E h => (no vs H Q E h).elim, fun A outer s H args us vs Q E _ _ _ _ h => (no vs H Q E h).elim⟩, F.binds hbind, F.kp⟩
end
section
variable {T : List NdefX.NTab} {X : Cx} {W : WX} {E : XK} {k : Nat} {a C : Addr} {ps : List Str} {m : List D → Sto → R D} {x nm : Str} {p pos apos : Pos} {e o : Expr} {es : List Expr} {ms : MA} {mo : ME}
theorem ev_callH (h : Has X.prog X.w X.K X.mg X.base T k a ps m) (hr : Room k X.A) (hm : X.mg x = some (.ref a)) (tk : Takes X W) (ha : EvA T X W (e :: es) ms) (hg : Gl X x := by rfl) (hdb : (x == ("__debug__" : Str)) = false := by decide) (he : starEach (e :: es) X.env = (false, eval e X.env) :: starEach es X.env := by rfl) (hpl : (backTo pos (starEach es X.env)).any (·.1) = false := by rfl) :
    EvE T X W (.Call (.Name x p) (e :: es) [] pos) (mCall ps.length m ms) := by
  obtain ⟨fd, h1, h2, h3⟩ := h
  exact ev_call h1 hr hm h3 h2 tk ha hg hdb he hpl
theorem ev_callH0 (h : Has X.prog X.w X.K X.mg X.base T k a ps m) (hr : Room k X.A) (hm : X.mg x = some (.ref a)) (tk : Takes X (wF E)) (hg : Gl X x := by rfl) (hdb : (x == ("__debug__" : Str)) = false := by decide) :
    EvE T X (wF E) (.Call (.Name x p) [] [] pos) (mCall ps.length m mNil) := by
  obtain ⟨fd, h1, h2, h3⟩ := h
  exact ev_call0 h1 hr hm h3 h2 tk hg hdb
theorem ev_methH {pl : Sem Bool} {c : Str} (h : Has X.prog X.w X.K X.mg X.base T k a ps m) (hr : Room k X.A) (hc : X.mg c = some (.ref C)) (cl : ClsI X.K C) (hm : Meth X.K C nm a) (tk : Takes X (wF E)) (he : EvE T X (wF E) o mo) (ha : EvA T X (wF E) (e :: es) ms) (hst : starEach (e :: es) X.env = (false, eval e X.env) :: starEach es X.env := by rfl) (hpl : (backTo pos (starEach es X.env)).any (·.1) = false := by rfl)
    (ht : eval (.Call (.Attribute o nm apos) (e :: es) [] pos) X.env = (do
      let ov ← eval o X.env
      standAt apos.atName
      let (f, first) ← holding [ov] (getMethod ov nm pl)
      callWith pos f first (backTo pos (starEach (e :: es) X.env)) (backToKw pos (keywordEach [] X.env))) := by rfl) :
    EvE T X (wF E) (.Call (.Attribute o nm apos) (e :: es) [] pos) (mMeth c nm ps.length m mo ms) := by
  obtain ⟨fd, h1, h2, h3⟩ := h
  exact ev_meth he hc cl.cl hm h1 hr h2 tk ha hst hpl ht
theorem ev_methH0 {pl : Sem Bool} {c : Str} (h : Has X.prog X.w X.K X.mg X.base T k a ps m) (hr : Room k X.A) (hc : X.mg c = some (.ref C)) (cl : ClsI X.K C) (hm : Meth X.K C nm a) (tk : Takes X (wF E)) (he : EvE T X (wF E) o mo)
    (ht : eval (.Call (.Attribute o nm apos) [] [] pos) X.env = (do
      let ov ← eval o X.env
      standAt apos.atName
      let (f, first) ← holding [ov] (getMethod ov nm pl)
      callWith pos f first (backTo pos (starEach [] X.env)) (backToKw pos (keywordEach [] X.env))) := by rfl) :
    EvE T X (wF E) (.Call (.Attribute o nm apos) [] [] pos) (mMeth c nm ps.length m mo mNil) := by
  obtain ⟨fd, h1, h2, h3⟩ := h
  exact ev_meth0 he hc cl.cl hm h1 hr h2 tk ht
theorem ev_propH {pr : Addr} {c : Str} (h : Has X.prog X.w X.K X.mg X.base T k a ps m) (hr : Room (k + 1) X.A) (hc : X.mg c = some (.ref C)) (cl : ClsI X.K C) (hp : PropOf X.K C nm pr a) (he : EvE T X W o mo) (hab : attributeBase o nm X.env (eval o X.env) = eval o X.env := by rfl) :
    EvE T X W (.Attribute o nm pos) (mProp c ps.length (fun ds st => noX (m ds st)) mo) := by
  obtain ⟨fd, h1, h2, h3⟩ := h
  exact ev_prop he hc cl.cl hp h1 hr h2 hab
theorem ev_makeH {frz : Bool} {c : Str} (h : Has X.prog X.w X.K X.mg X.base T k a ps m) (M : Mk X.K C a) (hr : Room (k + 1) X.A) (hm : X.mg c = some (.ref C)) (tk : Takes X (wF E)) (ha : EvA T X (wF E) (e :: es) ms) (hg : Gl X c := by rfl) (hdb : (c == ("__debug__" : Str)) = false := by decide) (he : starEach (e :: es) X.env = (false, eval e X.env) :: starEach es X.env := by rfl) (hpl : (backTo pos (starEach es X.env)).any (·.1) = false := by rfl) :
    EvE T X (wF E) (.Call (.Name c p) (e :: es) [] pos) (mMake frz c ps.length m ms) := by
  obtain ⟨fd, h1, h2, h3⟩ := h
  exact ev_make M h1 hr hm h2 tk ha hg hdb he hpl
theorem ev_makeI {frz : Bool} {c : Str} {ks : List Str} {is : List Nat} (h : HasI X.prog X.w X.K X.mg X.base T k a ps ks is m) (M : Mk X.K C a) (hr : Room (k + 1) X.A) (hm : X.mg c = some (.ref C)) (tk : Takes X (wF E)) (ha : EvA T X (wF E) (e :: es) ms) (hg : Gl X c := by rfl) (hdb : (c == ("__debug__" : Str)) = false := by decide) (he : starEach (e :: es) X.env = (false, eval e X.env) :: starEach es X.env := by rfl) (hpl : (backTo pos (starEach es X.env)).any (·.1) = false := by rfl) :
    EvE T X (wF E) (.Call (.Name c p) (e :: es) [] pos) (mMake frz c ps.length m ms) := by
  obtain ⟨fd, h1, h2, h3⟩ := h
  exact ev_make M h1 hr hm h2 tk ha hg hdb he hpl
theorem ev_makeKI {frz : Bool} {c : Str} {ks : List Str} {is : List Nat} {kws : List Keyword} (l : Nat) (h : HasI X.prog X.w X.K X.mg X.base T k a ps ks is m) (M : Mk X.K C a) (hr : Room (k + 1) X.A) (hm : X.mg c = some (.ref C)) (tk : Takes X (wF E)) (hkw : EvK T X (wF E) kws ms) (hl : ks.length = l := by rfl)
    (hall : (backToKw pos (keywordEach kws X.env)).all (·.1.isSome) = true := by rfl) (hks : (backToKw pos (keywordEach kws X.env)).filterMap (·.1) = ks := by rfl) (hg : Gl X c := by rfl) (hdb : (c == ("__debug__" : Str)) = false := by decide)
    (hpl : ((backTo pos (starEach [] X.env)).any (·.1) || (backToKw pos (keywordEach kws X.env)).any (·.1.isNone)) = false := by rfl) :
    EvE T X (wF E) (.Call (.Name c p) [] kws pos) (mMake frz c ps.length m (mPerm l is ms)) := by
  obtain ⟨fd, h1, h2, h3⟩ := h
  exact ev_makeK l is M h1 hr hm h3 tk hkw hl hall hks hg hdb hpl
/-- a function of a library, held by a name of the module -/
theorem ev_bf {id : String} {r : List V → Hp → VK → Prop} {bf : List D → Sto → R D} (hc : CallR X (.builtin id) r) (hr : CaD (gX T X) r bf) (hm : X.mg x = some (.builtin id)) (ha : EvA T X W (e :: es) ms) (hg : Gl X x := by rfl) (hdb : (x == ("__debug__" : Str)) = false := by decide)
    (he : starEach (e :: es) X.env = (false, eval e X.env) :: starEach es X.env := by rfl) (hpl : (backTo pos (starEach es X.env)).any (·.1) = false := by rfl) : EvE T X W (.Call (.Name x p) (e :: es) [] pos) (mBi bf ms) :=
  pe_imp (pe_callBfun hc hg hm ha hdb he hpl) fun _ _ _ => bi_read hr
theorem op_ownEqH (h : Has X.prog X.w X.K X.mg X.base T k a ps m) (eo : EqOf X.K C a) (hr : Room k X.A) : OpR X (compareOp .Eq) (rOwnEq X.K C (spM (gX T X) ps.length m)) := by
  obtain ⟨fd, h1, h2, h3⟩ := h
  exact op_ownEq h1 eo h2 hr
theorem op_ownNeH {N : Addr} (h : Has X.prog X.w X.K X.mg X.base T k a ps m) (no : NeOf X.K C a N) (hr : Room (k + 1) X.A) : OpR X (compareOp .NotEq) (rOwnNe C (spM (gX T X) ps.length m)) := by
  obtain ⟨fd, h1, h2, h3⟩ := h
  exact op_ownNe h1 no h2 hr
theorem tabE_of {TD f : Addr} {es : Array DictEntry} {n i : Nat} {z : Str} (KD : KDict X.K X.w TD es n) (hk : PySem.W.nsIn X.K TD z = some (some (.ref f))) (h : Has X.prog X.w X.K X.mg X.base T i f ps m) (hi : i ≤ k) : TabE T X k ps.length TD z m := by
  obtain ⟨fd, h1, h2, h3⟩ := h
  exact ⟨f, fd, ps, ⟨es, n, .ref f, KD.at_, KD.lit, hk, rfl⟩, h1.mono hi, h3, h2⟩
theorem et_din {i o : Expr} {mi mo : ME} (hu : X.A.units + 1 < cLine) (hi : EvE T X W i mi) (ho : EvE T X W o mo) (hm : behindInMarks .In o = false := by first | exact nomark _ | rfl) : EvT T X W (.Compare i [.In] [o] pos) (mTst (mDIn false mi mo)) :=
  pt_imp (pt_cmp (pc_xin hu hi ho) hm) fun _ _ _ h => din_read (tst_read h)
theorem et_dnotin {i o : Expr} {mi mo : ME} (hu : X.A.units + 1 < cLine) (hi : EvE T X W i mi) (ho : EvE T X W o mo) (hm : behindInMarks .NotIn o = false := by first | exact nomark _ | rfl) : EvT T X W (.Compare i [.NotIn] [o] pos) (mTst (mDIn true mi mo)) :=
  pt_imp (pt_cmp (pc_xnotin hu hi ho) hm) fun _ _ _ h => din_read (tst_read h)
theorem hfree_none {l : List (Str × NameKind)} {l2 : List (Str × NameKind)} (h : (l.all fun y => y.2 != NameKind.free) = true) : ∀ y ∈ l, y.2 = .free → l2.lookup y.1 = some .cell ∨ l2.lookup y.1 = some .free := fun y hy e => by
  have := List.all_eq_true.mp h y hy
  rw [e] at this
  cases this
theorem tk0 {X : Cx} : Takes X (wF E0) := LamX.takes0
end
end DM

end

section
set_option Elab.async false
set_option linter.all false
set_option maxRecDepth 100000
set_option maxHeartbeats 2000000
/-! DMA1: is of bools; functions called by names alone. -/
namespace DM
open PySem PySem.Spec PyProof.Rows L2
def dIsB : D → D → Sto → R D := fun d e st => match d, e with
  | .bl a, .bl b => .ok (.bl (decide (a = b))) st
  | _, _ => .bad
def dNotB : D → D → Sto → R D := fun d e st => match d, e with
  | .bl a, .bl b => .ok (.bl (!decide (a = b))) st
  | _, _ => .bad
theorem od_isB {G : Gb} : OpD G rIsB dIsB := by
  intro Wq F H β st x y d e Q gd rx ry h
  cases rx with
  | bl a =>
    cases ry with
    | bl b => exact ⟨a, b, rfl, rfl, h _ H F β (Ex.refl _) (Pre.refl _) gd (.bl _)⟩
    | _ => exact h.elim
  | _ => exact h.elim
theorem od_notB {G : Gb} : OpD G rNotB dNotB := by
  intro Wq F H β st x y d e Q gd rx ry h
  cases rx with
  | bl a =>
    cases ry with
    | bl b => exact ⟨a, b, rfl, rfl, h _ H F β (Ex.refl _) (Pre.refl _) gd (.bl _)⟩
    | _ => exact h.elim
  | _ => exact h.elim
/-- the def at a keeps its mirror's promise when called by the names ks -/
def HasK (P : Program) (w : World) (K : PySem.W.Frag) (mg : Str → Option Value) (base : Heap) (T : List NdefX.NTab) (k : Nat) (a : Addr) (ps ks : List Str) (is : List Nat) (m : List D → Sto → R D) : Prop :=
  ∃ fd, FnOk P w K mg base (L2.CX P w) k a fd ps (spM ⟨K, mg, T, w⟩ ps.length m) ∧ KWb K fd ps ks is ∧ PySem.W.keepIn K (.ref a) = true
section
variable {P : Program} {w : World} {K : PySem.W.Frag} {mg : Str → Option Value} {base : Heap} {T : List NdefX.NTab} {k j : Nat} {a : Addr} {ps N : List Str} {m : List D → Sto → R D} {x qual : Str} {st : Stmt} {sl : Nat → D → Sto → R D} {b : MS}
theorem hask_of {ks : List Str} {is : List Nat} (hF : ∃ fd, Fun K x qual st a fd) (S : FnScope N ps (defScope st)) (so : SealOk ⟨K, mg, T, w⟩ sl)
    (hkw : ∀ (kV doc pm : Value) (an : Option Addr) (cdv ct : Value) (ws : List Value), ws.length = ks.length → bindArgs (PySem.W.fnOf x qual (defArgs st) (defBody st) (defScope st) .none kV doc pm an cdv ct) ⟨[], ks.zip ws⟩ = pure (ps.zip (permD is ws)))
    (hb : BodyOk P w K mg base T k N qual st a b) : HasK P w K mg base T (k + 1) a ps ks is (fnM sl N.length b) := by
  obtain ⟨fd, F⟩ := hF
  refine ⟨fd, fn_M F S so hb, ?_, F.kp⟩
  obtain ⟨oc, od, kV, doc, pm, an, cdv, ct, osl, rfl, lk, hcd⟩ := F.ex
  exact ⟨fun s ws _ hl => .of_eq (hkw kV doc pm an cdv ct ws hl)⟩
end
section
variable {T : List NdefX.NTab} {X : Cx} {W : WX} {E : XK} {k : Nat} {a C : Addr} {ps : List Str} {m : List D → Sto → R D} {x nm : Str} {p pos apos : Pos} {ms : MA}
theorem ev_callHK {ks : List Str} {is : List Nat} {kws : List Keyword} (l : Nat) (h : HasK X.prog X.w X.K X.mg X.base T k a ps ks is m) (hr : Room k X.A) (hm : X.mg x = some (.ref a)) (tk : Takes X W) (hkw : EvK T X W kws ms) (hl : ks.length = l := by rfl)
    (hall : (backToKw pos (keywordEach kws X.env)).all (·.1.isSome) = true := by rfl) (hks : (backToKw pos (keywordEach kws X.env)).filterMap (·.1) = ks := by rfl) (hg : Gl X x := by rfl) (hdb : (x == ("__debug__" : Str)) = false := by decide)
    (hpl : ((backTo pos (starEach [] X.env)).any (·.1) || (backToKw pos (keywordEach kws X.env)).any (·.1.isNone)) = false := by rfl) :
    EvE T X W (.Call (.Name x p) [] kws pos) (mCallK ps.length l is m ms) := by
  obtain ⟨fd, h1, h2, h3⟩ := h
  exact ev_callK l is h1 hr hm h3 h2 tk hkw hl hall hks hg hdb hpl
end
end DM

end

section
set_option Elab.async false
set_option linter.all false
set_option maxRecDepth 100000
set_option maxHeartbeats 2000000
/-! DMA2: the head's Hook over a written list of addresses; the run's equation in parts. -/
namespace DM
open PySem PySem.Spec PyProof.Rows L2
open He (ga ma FnV frT asD Tab dicW keysIn)
def obsA (as : List Addr) (fa : List Fz) (fn : List DefZ) (ts : List Tab) (tf : List DAt) (g : Addr → Option Obj) : AlZ := obsZ' fa fn ts tf g (frT g as)
theorem saysA_of {as : List Addr} {fa : List Fz} {fn : List DefZ} {ts : List Tab} {tf : List DAt} {w : World} {h : Heap} (e : obsA as fa fn ts tf h.get? = valZ fn ts w) : SaysZ fa fn ts tf w h (frT h.get? as) := by
  have e1 : ((fa.all fun f => f.ok (frT h.get? as)) && ((fn.all fun d => d.ok (frT h.get? as)) && tabsZ h.get? tf (frT h.get? as))) = true := congrArg (fun z : AlZ => z.1.1) e
  obtain ⟨h1, h2⟩ := ba e1
  obtain ⟨h3, h4⟩ := ba h2
  have key : ∀ p ∈ tf, PySem.W.codeHdIn (frT h.get? as) (cTab (frT h.get? as) p).1 (cTab (frT h.get? as) p).2 = true ∧ ∃ o, h.get? (cTab (frT h.get? as) p).2 = some o ∧ He.emptyTab o = true := fun p hp => by
    obtain ⟨z1, z2⟩ := ba (List.all_eq_true.mp h4 p hp)
    refine ⟨z1, ?_⟩
    cases q : h.get? (cTab (frT h.get? as) p).2 with
    | none => rw [q] at z2; cases z2
    | some o => rw [q] at z2; exact ⟨o, rfl, z2⟩
  refine ⟨h1, h3, congrArg (fun z : AlZ => z.1.2) e, congrArg (fun z : AlZ => z.2) e, fun p hp => (key p hp).1, fun p hp => ?_, fun p hp => ?_⟩
  · obtain ⟨_, o, q, z⟩ := key p hp
    exact He.frT_none q z
  · obtain ⟨_, o, q, z⟩ := key p hp
    rw [q, He.emptyTab_eq z]
def hookA (as : List Addr) (fa : List Fz) (fn : List DefZ) (ts : List Tab) (tf : List DAt) : PySem.W.Hook where
  α := AlZ
  obs := fun s => obsA as fa fn ts tf s.heap.get?
  val := fun w => valZ fn ts w
  says := fun w h => ∃ K : PySem.W.Frag, K.In h ∧ SaysZ fa fn ts tf w h K
  of := fun _ _ e => ⟨_, He.frT_in, saysA_of e⟩
  keeps := fun _ _ _ ⟨K, hK, c⟩ k => ⟨K, PySem.W.Frag.In.keeps hK k, ⟨c.fs, c.ds, c.vs, c.tb, c.hd, c.out, fun p hp => k _ _ (c.empty p hp)⟩⟩
theorem obsA_eq {as : List Addr} {fa : List Fz} {fn : List DefZ} {ts : List Tab} {tf : List DAt} {g : Addr → Option Obj} {s : Shared} (h : ∀ a, g a = s.heap.get? a) : obsA as fa fn ts tf g = (hookA as fa fn ts tf).obs s := by
  have e : g = s.heap.get? := funext h
  rw [e] <;> rfl
theorem join3 {X A B C : Type} {x : Option X} {f : X → A} {g : X → B} {h : X → C} {a : A} {b : B} {c : C} (e1 : x.map f = some a) (e2 : x.map g = some b) (e3 : x.map h = some c) : x.map (fun z => (f z, g z, h z)) = some (a, b, c) := by
  cases x with
  | none => cases e1
  | some z =>
    cases e1
    cases e2
    cases e3
    rfl
end DM

end

section
set_option Elab.async false
set_option linter.all false
set_option maxRecDepth 100000
set_option maxHeartbeats 2000000
/-! DQ: mirrors at work, by simp: each construct applied. -/
namespace DM
open PySem PySem.Spec PyProof.Rows L2
def lkD (o : Option (Option D)) (st : Sto) : R D := match o with
  | some (some d) => .ok d st
  | _ => .bad
@[simp] theorem lkD_some {d : D} {st : Sto} : lkD (some (some d)) st = .ok d st := rfl
@[simp] theorem q_var {i : Nat} {ρ : En} {st : Sto} : mVar i ρ st = lkD ρ[i]? st := rfl
@[simp] theorem q_c {d : D} {ρ : En} {st : Sto} : mC d ρ st = .ok d st := rfl
@[simp] theorem q_op {f : D → D → Sto → R D} {a b : ME} {ρ : En} {st : Sto} : mOp f a b ρ st = (a ρ st).bind fun x st => (b ρ st).bind fun y st => f x y st := rfl
def onBl (d : D) (x y : R D) : R D := match d with
  | .bl true => x
  | .bl false => y
  | _ => .bad
@[simp] theorem onBl_bl {c : Bool} {x y : R D} : onBl (.bl c) x y = if c = true then x else y := by cases c <;> rfl
@[simp] theorem q_andV {a b : ME} {ρ : En} {st : Sto} : mAndV a b ρ st = (a ρ st).bind fun c st => onBl c (b ρ st) (.ok (.bl false) st) := rfl
@[simp] theorem q_orV {a b : ME} {ρ : En} {st : Sto} : mOrV a b ρ st = (a ρ st).bind fun c st => onBl c (.ok (.bl true) st) (b ρ st) := rfl
def tsB (d : D) (st : Sto) : R Bool := match d with
  | .bl b => .ok b st
  | _ => .bad
@[simp] theorem tsB_bl {b : Bool} {st : Sto} : tsB (.bl b) st = .ok b st := rfl
@[simp] theorem q_tst {m : ME} {ρ : En} {st : Sto} : mTst m ρ st = (m ρ st).bind tsB := rfl
def ifK {α : Type} (r : R Bool) (a b : Sto → R α) : R α := r.bind fun k st => if k then a st else b st
@[simp] theorem ifK_ok {α : Type} {k : Bool} {st : Sto} {a b : Sto → R α} : ifK (.ok k st) a b = if k = true then a st else b st := rfl
@[simp] theorem q_if {c : MT} {a b : ME} {ρ : En} {st : Sto} : mIf c a b ρ st = ifK (c ρ st) (a ρ) (b ρ) := rfl
@[simp] theorem q_nil {ρ : En} {st : Sto} : mNil ρ st = .ok [] st := rfl
@[simp] theorem q_cons {m : ME} {ms : MA} {ρ : En} {st : Sto} : mCons m ms ρ st = (m ρ st).bind fun d st => (ms ρ st).bind fun ds st => .ok (d :: ds) st := rfl
theorem szOk_le {α : Type} {l : List α} (h : l.length ≤ 16777216) : szOk l = true := decide_eq_true (by rw [sizeLine_eq]; exact h)
@[simp] theorem szOk0 : szOk ([] : List D) = true := szOk_le (by simp)
@[simp] theorem szOk1 {a : D} : szOk [a] = true := szOk_le (by simp)
@[simp] theorem szOk2 {a b : D} : szOk [a, b] = true := szOk_le (by simp)
@[simp] theorem szOk3 {a b c : D} : szOk [a, b, c] = true := szOk_le (by simp)
@[simp] theorem szOk4 {a b c d : D} : szOk [a, b, c, d] = true := szOk_le (by simp)
@[simp] theorem szOk5 {a b c d e : D} : szOk [a, b, c, d, e] = true := szOk_le (by simp)
@[simp] theorem q_tup {m : MA} {ρ : En} {st : Sto} : mTup m ρ st = (m ρ st).bind fun ds st => if szOk ds then .ok (.tup ds) st else .bad := rfl
@[simp] theorem q_lst {m : MA} {ρ : En} {st : Sto} : mLst m ρ st = (m ρ st).bind fun ds st => if szOk ds then .ok (.lst ds) st else .bad := rfl
@[simp] theorem q_lstM {m : MA} {ρ : En} {st : Sto} : mLstM m ρ st = (m ρ st).bind fun ds st => if szOk ds then .ok (.ref st.length) (st ++ [.lst ds]) else .bad := rfl
@[simp] theorem q_call {n : Nat} {f : List D → Sto → R D} {ms : MA} {ρ : En} {st : Sto} : mCall n f ms ρ st = (ms ρ st).bind fun ds st => if ds.length = n then f ds st else .bad := rfl
@[simp] theorem q_bi {f : List D → Sto → R D} {ms : MA} {ρ : En} {st : Sto} : mBi f ms ρ st = (ms ρ st).bind fun ds st => f ds st := rfl
@[simp] theorem q_bm {ty : String} {f : D → List D → Sto → R D} {mo : ME} {ms : MA} {ρ : En} {st : Sto} : mBm ty f mo ms ρ st = (mo ρ st).bind fun d st => if tyB st d = some ty ∧ (ty = "list" ∨ ty = "str") then (ms ρ st).bind fun ds st => f d ds st else .bad := rfl
/-- the next statement -/
def seqK (r : RS) (b : MS) : RS := match r with
  | .ok (.nx ρ) st => b ρ st
  | r => r
@[simp] theorem seqK_nx {b : MS} {ρ : En} {st : Sto} : seqK (.ok (.nx ρ) st) b = b ρ st := rfl
@[simp] theorem seqK_rt {b : MS} {d : D} {st : Sto} : seqK (.ok (.rt d) st) b = .ok (.rt d) st := rfl
@[simp] theorem q_seq {a b : MS} {ρ : En} {st : Sto} : mSeq a b ρ st = seqK (a ρ st) b := rfl
@[simp] theorem q_ret {m : ME} {ρ : En} {st : Sto} : mRet m ρ st = (m ρ st).bindS ρ fun d st => .ok (.rt d) st := rfl
@[simp] theorem q_drop {m : ME} {ρ : En} {st : Sto} : mDrop m ρ st = (m ρ st).bindS ρ fun _ st => .ok (.nx ρ) st := rfl
@[simp] theorem q_next {ρ : En} {st : Sto} : mNext ρ st = .ok (.nx ρ) st := rfl
def ifKS (r : R Bool) (ρ : En) (a b : MS) : RS := r.bindS ρ fun k st => if k then a ρ st else b ρ st
@[simp] theorem ifKS_ok {k : Bool} {ρ : En} {st : Sto} {a b : MS} : ifKS (.ok k st) ρ a b = if k = true then a ρ st else b ρ st := rfl
@[simp] theorem q_ifS {c : MT} {a b : MS} {ρ : En} {st : Sto} : mIfS c a b ρ st = ifKS (c ρ st) ρ a b := rfl
@[simp] theorem q_gN {i : Nat} {d : D} {ρ : En} {st : Sto} : gN i d ρ st = .ok (ρ.set i (some d)) st := rfl
def asgK (r : RG) : RS := match r with
  | .ok ρ st => .ok (.nx ρ) st
  | .bad => .bad
@[simp] theorem asgK_ok {ρ : En} {st : Sto} : asgK (.ok ρ st) = .ok (.nx ρ) st := rfl
@[simp] theorem q_asg {m : ME} {g : MG} {ρ : En} {st : Sto} : mAsg m g ρ st = (m ρ st).bindS ρ fun d st => asgK (g d ρ st) := rfl
def grK (r : RG) (k : En → Sto → RG) : RG := match r with
  | .ok ρ st => k ρ st
  | .bad => .bad
@[simp] theorem grK_ok {ρ : En} {st : Sto} {k : En → Sto → RG} : grK (.ok ρ st) k = k ρ st := rfl
@[simp] theorem q_gNil {ρ : En} {st : Sto} : gNilM [] ρ st = .ok ρ st := rfl
@[simp] theorem q_gCons {g : MG} {gs : MGs} {d : D} {ds : List D} {ρ : En} {st : Sto} : gConsM g gs (d :: ds) ρ st = grK (g d ρ st) (gs ds) := rfl
@[simp] theorem q_gTup {n : Nat} {gs : MGs} {ds : List D} {ρ : En} {st : Sto} : gTupM n gs (.tup ds) ρ st = if ds.length = n then gs ds ρ st else .bad := rfl
@[simp] theorem q_par {i j : Nat} {a b : ME} {ρ : En} {st : Sto} : mPar i j (mCons a (mCons b mNil)) ρ st = (a ρ st).bindS ρ fun d st => (b ρ st).bindS ρ fun e st => .ok (.nx ((ρ.set i (some d)).set j (some e))) st := by
  show ((mCons a (mCons b mNil)) ρ st).bindS ρ _ = _
  simp only [q_cons, q_nil]
  cases a ρ st with
  | ok d st1 =>
    simp only [R.bind_ok, R.bindS_ok]
    cases b ρ st1 <;> rfl
  | _ => rfl
@[simp] theorem q_and {a b : MT} {ρ : En} {st : Sto} : mAnd a b ρ st = ifK (a ρ st) (b ρ) (fun st => .ok false st) := rfl
@[simp] theorem q_or {a b : MT} {ρ : En} {st : Sto} : mOr a b ρ st = ifK (a ρ st) (fun st => .ok true st) (b ρ) := rfl
@[simp] theorem q_not {a : MT} {ρ : En} {st : Sto} : mNot a ρ st = (a ρ st).bind fun k st => .ok (!k) st := rfl
def okM (i j : Int) : Bool := mulOk i j
theorem dMul_ok {i j : Int} {st : Sto} (h : okM i j = true) : dMul (.int i) (.int j) st = .ok (.int (i * j)) st := if_pos h
@[simp] theorem dSub_ok {i j : Int} {st : Sto} : dSub (.int i) (.int j) st = .ok (.int (i - j)) st := rfl
@[simp] theorem dAdd_ok {i j : Int} {st : Sto} : dAdd (.int i) (.int j) st = .ok (.int (i + j)) st := rfl
@[simp] theorem dGt_ok {i j : Int} {st : Sto} : dGt (.int i) (.int j) st = .ok (.bl (decide (j < i))) st := rfl
@[simp] theorem dLt_ok {i j : Int} {st : Sto} : dLt (.int i) (.int j) st = .ok (.bl (decide (i < j))) st := rfl
@[simp] theorem dGe_ok {i j : Int} {st : Sto} : dGe (.int i) (.int j) st = .ok (.bl (decide (j ≤ i))) st := rfl
@[simp] theorem dLe_ok {i j : Int} {st : Sto} : dLe (.int i) (.int j) st = .ok (.bl (decide (i ≤ j))) st := rfl
theorem shp_int (i : Int) : SeqAt.shaped (.int i) = true := rfl
theorem eqB_int {i j : Int} {st : Sto} : eqB st (.int i) (.int j) = some (decide (i = j)) := by
  show (if (SeqAt.shaped (.int i) && SeqAt.shaped (.int j)) = true then some (PyData.eqv (.int i) (.int j)) else none) = _
  rw [shp_int, shp_int]
  exact congrArg some (by simp only [PyData.eqv]; rw [Bool.eq_iff_iff]; simp)
theorem eqB_str {i j : Str} {st : Sto} (hi : SeqAt.shaped (.str i) = true) (hj : SeqAt.shaped (.str j) = true) : eqB st (.str i) (.str j) = some (decide (i = j)) := by
  show (if (SeqAt.shaped (.str i) && SeqAt.shaped (.str j)) = true then some (PyData.eqv (.str i) (.str j)) else none) = _
  rw [hi, hj]
  exact congrArg some (by simp only [PyData.eqv]; rw [Bool.eq_iff_iff]; simp)
@[simp] theorem dEq_int {i j : Int} {st : Sto} : dEq (.int i) (.int j) st = .ok (.bl (decide (i = j))) st := by unfold dEq; rw [eqB_int]
theorem dEq_str {i j : Str} {st : Sto} (hi : SeqAt.shaped (.str i) = true) (hj : SeqAt.shaped (.str j) = true) : dEq (.str i) (.str j) st = .ok (.bl (decide (i = j))) st := by unfold dEq; rw [eqB_str hi hj]
@[simp] theorem dNe_int {i j : Int} {st : Sto} : dNe (.int i) (.int j) st = .ok (.bl (!decide (i = j))) st := by unfold dNe; rw [eqB_int]
theorem fn_rt {sl : Nat → D → Sto → R D} {N : Nat} {b : MS} {ds : List D} {st st' : Sto} {d : D} (h : b (startM N ds) st = .ok (.rt d) st') : fnM sl N b ds st = sl st.length d st' := by unfold fnM; rw [h]
@[simp] theorem seal_int {n : Nat} {i : Int} {st : Sto} : sealR n (.int i) st = .ok (.int i) (st.take n) := rfl
@[simp] theorem seal_bl {n : Nat} {i : Bool} {st : Sto} : sealR n (.bl i) st = .ok (.bl i) (st.take n) := rfl
@[simp] theorem seal_str {n : Nat} {i : Str} {st : Sto} : sealR n (.str i) st = .ok (.str i) (st.take n) := rfl
theorem seal_tup {n : Nat} {l : List D} {st : Sto} (h : lowL n l = true) : sealR n (.tup l) st = .ok (.tup l) (st.take n) := if_pos h
theorem seal_lst {n : Nat} {l : List D} {st : Sto} (h : lowL n l = true) : sealR n (.lst l) st = .ok (.lst l) (st.take n) := if_pos h
theorem seal_new {l : List D} {st : Sto} (h : lowL st.length l = true) : sealR st.length (.ref st.length) (st ++ [.lst l]) = .ok (.lst l) st := by
  unfold sealR
  simp [h]
theorem take_self (st : Sto) : st.take st.length = st := by simp
theorem app_last {l : List D} {y : D} {st : Sto} (h : lowD st.length y = true) (hz : l.length < 1000) : dAppend (.ref st.length) [y] (st ++ [.lst l]) = .ok .non (st ++ [.lst (l ++ [y])]) := by
  have hz2 : l.length < sizeLine := by rw [sizeLine_eq]; show l.length < 16777216; omega
  unfold dAppend
  simp [h, hz2]
@[simp] theorem ty_last {l : List D} {st : Sto} : tyB (st ++ [.lst l]) (.ref st.length) = some "list" := by simp [tyB]
theorem set_last {α : Type} (l : List α) (a b : α) : (l ++ [a]).set l.length b = l ++ [b] := by simp
/-- a comprehension that leaves the store as it is -/
theorem lc_run {α : Type} {enc f : α → D} {b : α → Bool} {p : Pt} {t : MT} {e : ME} {ρ : En} {st : Sto} : ∀ (l : List α) (acc : List D),
    (∀ x ∈ l, ∀ acc, ∃ ρ1, setP p (enc x) ρ = some ρ1 ∧ t ρ1 (st ++ [.lst acc]) = .ok (b x) (st ++ [.lst acc]) ∧ (b x = true → e ρ1 (st ++ [.lst acc]) = .ok (f x) (st ++ [.lst acc]) ∧ lowD st.length (f x) = true)) →
    acc.length + l.length < 100000 → lcM p t e st.length ρ (l.map enc) (st ++ [.lst acc]) = .ok () (st ++ [.lst (acc ++ (l.filter b).map f)])
  | [], acc, _, _ => by simp [lcM]
  | x :: l, acc, h, hz => by
    obtain ⟨ρ1, h1, h2, h3⟩ := h x List.mem_cons_self acc
    simp only [List.length_cons] at hz
    have hl : ∀ y ∈ l, _ := fun y hy => h y (List.mem_cons_of_mem _ hy)
    rw [List.map_cons, lcM, h1]
    simp only [h2, R.nox_ok, R.bind_ok]
    cases hb : b x with
    | false =>
      rw [List.filter_cons_of_neg (by simp [hb])]
      exact lc_run l acc hl (by omega)
    | true =>
      obtain ⟨h4, h5⟩ := h3 hb
      have hz2 : acc.length < sizeLine := by rw [sizeLine_eq]; show acc.length < 16777216; omega
      rw [List.filter_cons_of_pos (by simp [hb])]
      simp only [h4, R.nox_ok, R.bind_ok, if_true, List.getElem?_concat_length]
      rw [if_pos ⟨hz2, h5⟩, set_last]
      rw [lc_run l (acc ++ [f x]) hl (by simp; omega)]
      simp
theorem q_lc {α : Type} (enc f : α → D) (b : α → Bool) {mi : MI} {p : Pt} {t : MT} {e : ME} {vs : List Nat} {ρ : En} {st : Sto} (l : List α) (hi : mi ρ st = .ok (l.map enc) st)
    (h : ∀ x ∈ l, ∀ acc, ∃ ρ1, setP p (enc x) (wipeM ρ vs) = some ρ1 ∧ t ρ1 (st ++ [.lst acc]) = .ok (b x) (st ++ [.lst acc]) ∧ (b x = true → e ρ1 (st ++ [.lst acc]) = .ok (f x) (st ++ [.lst acc]) ∧ lowD st.length (f x) = true))
    (hz : l.length < 100000) : mLc mi p t e vs ρ st = .ok (.lst ((l.filter b).map f)) st := by
  unfold mLc
  rw [hi, R.bind_ok, lc_run l [] h (by simpa using hz), R.bind_ok]
  simp [lcEnd]
/-- .. of no tests -/
theorem q_lc1 {α : Type} (enc f : α → D) {mi : MI} {p : Pt} {e : ME} {vs : List Nat} {ρ : En} {st : Sto} (l : List α) (hi : mi ρ st = .ok (l.map enc) st)
    (h : ∀ x ∈ l, ∀ acc, ∃ ρ1, setP p (enc x) (wipeM ρ vs) = some ρ1 ∧ e ρ1 (st ++ [.lst acc]) = .ok (f x) (st ++ [.lst acc]) ∧ lowD st.length (f x) = true)
    (hz : l.length < 100000) : mLc mi p mYes e vs ρ st = .ok (.lst (l.map f)) st := by
  rw [q_lc (t := mYes) enc f (fun _ => true) l hi (fun x hx acc => let ⟨ρ1, h1, h2, h3⟩ := h x hx acc; ⟨ρ1, h1, rfl, fun _ => ⟨h2, h3⟩⟩) hz]
  rw [List.filter_eq_self.mpr fun _ _ => rfl]
/-- a loop that keeps a relation -/
theorem for_rel {α σ : Type} {enc : α → D} {g : MG} {b : MS} (Rl : σ → En → Sto → Prop) (step : σ → α → Option σ)
    (h : ∀ s x ρ st s', Rl s ρ st → step s x = some s' → ∃ ρ1 st1 ρ2 st2, g (enc x) ρ st = .ok ρ1 st1 ∧ b ρ1 st1 = .ok (.nx ρ2) st2 ∧ Rl s' ρ2 st2) :
    ∀ (l : List α) (s : σ) (ρ : En) (st : Sto) (s' : σ), Rl s ρ st → l.foldlM step s = some s' → ∃ ρ2 st2, forM g b (l.map enc) ρ st = .ok (.nx ρ2) st2 ∧ Rl s' ρ2 st2
  | [], s, ρ, st, s', r, e => by
    cases e
    exact ⟨ρ, st, rfl, r⟩
  | x :: l, s, ρ, st, s', r, e => by
    rw [List.foldlM_cons] at e
    cases e1 : step s x with
    | none => rw [e1] at e; cases e
    | some s1 =>
      rw [e1] at e
      obtain ⟨ρ1, st1, ρ2, st2, h1, h2, r2⟩ := h s x ρ st s1 r e1
      obtain ⟨ρ3, st3, h3, r3⟩ := for_rel Rl step h l s1 ρ2 st2 s' r2 e
      refine ⟨ρ3, st3, ?_, r3⟩
      rw [List.map_cons, forM, h1]
      dsimp only
      rw [h2]
      exact h3
@[simp] theorem q_for {mi : MI} {g : MG} {b : MS} {ρ : En} {st : Sto} : mFor mi g b ρ st = (mi ρ st).bindS ρ fun ds st => forM g b ds ρ st := rfl
@[simp] theorem q_yes {ρ : En} {st : Sto} : mYes ρ st = .ok true st := rfl
def itK (d : D) (st : Sto) : R (List D) := match itemsOf d with
  | some ds => .ok ds st
  | none => .bad
@[simp] theorem itK_tup {ds : List D} {st : Sto} : itK (.tup ds) st = .ok ds st := rfl
@[simp] theorem itK_lst {ds : List D} {st : Sto} : itK (.lst ds) st = .ok ds st := rfl
@[simp] theorem q_iter {m : ME} {ρ : En} {st : Sto} : mIter m ρ st = (m ρ st).bind itK := rfl
theorem ext_last {l es : List D} {st : Sto} (h : lowL st.length es = true) (hz : l.length + es.length < 100000) : dExtend (.ref st.length) [.lst es] (st ++ [.lst l]) = .ok .non (st ++ [.lst (l ++ es)]) := by
  have hz2 : l.length + es.length ≤ sizeLine := by rw [sizeLine_eq]; show l.length + es.length ≤ 16777216; omega
  unfold dExtend
  simp [h, hz2, lstOf]
def dgetK (st : Sto) (o i : D) : R D := match dxtOf st o with
  | some kvs => match keyT i with
    | some k => match getK kvs k with
      | some d => .ok d st
      | none => .bad
    | none => .bad
  | none => .bad
theorem dgetK_ok {st : Sto} {o i d : D} {kvs : List (List Key × D)} {k : List Key} (h1 : dxtOf st o = some kvs) (h2 : keyT i = some k) (h3 : getK kvs k = some d) : dgetK st o i = .ok d st := by
  unfold dgetK
  rw [h1]
  dsimp only
  rw [h2]
  dsimp only
  rw [h3]
@[simp] theorem q_dget {mo mi : ME} {ρ : En} {st : Sto} : mDGet mo mi ρ st = (mo ρ st).bind fun o st => (mi ρ st).bind fun i st => dgetK st o i := rfl
def dinK (neg : Bool) (st : Sto) (o i : D) : R D := match dxtOf st o with
  | some kvs => match keyT i with
    | some k => .ok (.bl (if neg then !(getK kvs k).isSome else (getK kvs k).isSome)) st
    | none => .bad
  | none => .bad
theorem dinK_ok {neg : Bool} {st : Sto} {o i : D} {kvs : List (List Key × D)} {k : List Key} (h1 : dxtOf st o = some kvs) (h2 : keyT i = some k) : dinK neg st o i = .ok (.bl (if neg then !(getK kvs k).isSome else (getK kvs k).isSome)) st := by
  unfold dinK
  rw [h1]
  dsimp only
  rw [h2]
@[simp] theorem q_din {neg : Bool} {mi mo : ME} {ρ : En} {st : Sto} : mDIn neg mi mo ρ st = (mi ρ st).bind fun i st => (mo ρ st).bind fun o st => dinK neg st o i := rfl
def dputK (ρ : En) (st : Sto) (o i v : D) : RS := match o with
  | .ref n => match st[n]? with
    | some (.dxt kvs) => match keyT i with
      | some k => if kvs.length < sizeLine ∧ lowD n v = true then .ok (.nx ρ) (st.set n (.dxt (putKD kvs k v))) else .bad
      | none => .bad
    | _ => .bad
  | _ => .bad
theorem dputK_ok {ρ : En} {st : Sto} {n : Nat} {i v : D} {kvs : List (List Key × D)} {k : List Key} (h1 : st[n]? = some (.dxt kvs)) (h2 : keyT i = some k) (h3 : kvs.length < 100000) (h4 : lowD n v = true) : dputK ρ st (.ref n) i v = .ok (.nx ρ) (st.set n (.dxt (putKD kvs k v))) := by
  have hz : kvs.length < sizeLine := by rw [sizeLine_eq]; show kvs.length < 16777216; omega
  unfold dputK
  dsimp only
  rw [h1]
  dsimp only
  rw [h2]
  exact if_pos ⟨hz, h4⟩
@[simp] theorem q_dput {mo mi mv : ME} {ρ : En} {st : Sto} : mDPut mo mi mv ρ st = (mv ρ st).bindS ρ fun v st => (mo ρ st).bindS ρ fun o st => (mi ρ st).bindS ρ fun i st => dputK ρ st o i v := rfl
end DM

end

section
set_option Elab.async false
set_option linter.all false
set_option maxRecDepth 100000
set_option maxHeartbeats 2000000
/-! DQ2: mirrors at work: objects, properties, slices, loops by hand, tables. -/
namespace DM
open PySem PySem.Spec PyProof.Rows L2
section
variable {ρ : En} {st : Sto}
def propK (c : Str) (n : Nat) (f : List D → Sto → R D) (o : D) (st : Sto) : R D := match insOf st o with
  | some (c', _) => if c' = c then (if [o].length = n then f [o] st else .bad) else .bad
  | none => .bad
@[simp] theorem q_prop {c : Str} {n : Nat} {f : List D → Sto → R D} {mo : ME} : mProp c n f mo ρ st = (mo ρ st).bind (propK c n f) := rfl
@[simp] theorem propK_obj {c : Str} {f : List D → Sto → R D} {fs : List (Str × D)} : propK c 1 f (.obj c fs) st = f [.obj c fs] st := by unfold propK; simp [insOf]
def fldK (c f : Str) (o : D) (st : Sto) : R D := match insOf st o with
  | some (c', fs) => if c' = c then (match fs.lookup f with
    | some d => .ok d st
    | none => .bad) else .bad
  | none => .bad
@[simp] theorem q_fld {c f : Str} {mo : ME} : mFld c f mo ρ st = (mo ρ st).bind (fldK c f) := rfl
@[simp] theorem fldK_obj {c f : Str} {d : D} : fldK c f (.obj c [(f, d)]) st = .ok d st := by unfold fldK; simp [insOf]
@[simp] theorem noX_ok {d : D} : noX (.ok d st) = .ok d st := rfl
def isBK (cs : List Str) (t : String) (d : D) (st : Sto) : R D := match insOf st d with
  | some (c, _) => if c ∈ cs then .ok (.bl false) st else .bad
  | none => match tyB st d with
    | some ty => .ok (.bl (isB ty t)) st
    | none => .bad
@[simp] theorem q_isB {cs : List Str} {t : String} {m : ME} : mIsB cs t m ρ st = (m ρ st).bind (isBK cs t) := rfl
@[simp] theorem isBK_int {cs : List Str} {t : String} {i : Int} : isBK cs t (.int i) st = .ok (.bl (isB "int" t)) st := rfl
@[simp] theorem isBK_bl {cs : List Str} {t : String} {i : Bool} : isBK cs t (.bl i) st = .ok (.bl (isB "bool" t)) st := rfl
@[simp] theorem isBK_str {cs : List Str} {t : String} {i : Str} : isBK cs t (.str i) st = .ok (.bl (isB "str" t)) st := rfl
@[simp] theorem isBK_non {cs : List Str} {t : String} : isBK cs t .non st = .ok (.bl (isB "NoneType" t)) st := rfl
@[simp] theorem isBK_tup {cs : List Str} {t : String} {ds : List D} : isBK cs t (.tup ds) st = .ok (.bl (isB "tuple" t)) st := rfl
@[simp] theorem isBK_lst {cs : List Str} {t : String} {ds : List D} : isBK cs t (.lst ds) st = .ok (.bl (isB "list" t)) st := rfl
theorem isBK_obj {cs : List Str} {t : String} {c : Str} {fs : List (Str × D)} (h : c ∈ cs) : isBK cs t (.obj c fs) st = .ok (.bl false) st := if_pos h
def isCK (cs : List Str) (c : Str) (d : D) (st : Sto) : R D := match insOf st d with
  | some (c', _) => if c' ∈ cs then .ok (.bl (decide (c' = c))) st else .bad
  | none => match tyB st d with
    | some _ => .ok (.bl false) st
    | none => .bad
@[simp] theorem q_isC {cs : List Str} {c : Str} {m : ME} : mIsC cs c m ρ st = (m ρ st).bind (isCK cs c) := rfl
@[simp] theorem isCK_int {cs : List Str} {c : Str} {i : Int} : isCK cs c (.int i) st = .ok (.bl false) st := rfl
@[simp] theorem isCK_bl {cs : List Str} {c : Str} {i : Bool} : isCK cs c (.bl i) st = .ok (.bl false) st := rfl
@[simp] theorem isCK_str {cs : List Str} {c : Str} {i : Str} : isCK cs c (.str i) st = .ok (.bl false) st := rfl
@[simp] theorem isCK_non {cs : List Str} {c : Str} : isCK cs c .non st = .ok (.bl false) st := rfl
@[simp] theorem isCK_tup {cs : List Str} {c : Str} {ds : List D} : isCK cs c (.tup ds) st = .ok (.bl false) st := rfl
@[simp] theorem isCK_lst {cs : List Str} {c : Str} {ds : List D} : isCK cs c (.lst ds) st = .ok (.bl false) st := rfl
theorem isCK_obj {cs : List Str} {c c' : Str} {fs : List (Str × D)} (h : c' ∈ cs) : isCK cs c (.obj c' fs) st = .ok (.bl (decide (c' = c))) st := if_pos h
def notV (d : D) (st : Sto) : R D := match d with
  | .bl b => .ok (.bl (!b)) st
  | _ => .bad
@[simp] theorem notV_bl {b : Bool} : notV (.bl b) st = .ok (.bl (!b)) st := rfl
@[simp] theorem q_notV {a : ME} : mNotV a ρ st = (a ρ st).bind notV := rfl
def chK (z : D) (st : Sto) (k : Sto → R D) : R D := match z with
  | .bl true => k st
  | .bl false => .ok (.bl false) st
  | _ => .bad
@[simp] theorem chK_bl {b : Bool} {k : Sto → R D} : chK (.bl b) st k = if b = true then k st else .ok (.bl false) st := by cases b <;> rfl
@[simp] theorem q_chain {f f' : D → D → Sto → R D} {a b c : ME} : mChain f f' a b c ρ st = (a ρ st).bind fun x st => (b ρ st).bind fun y st => (f x y st).bind fun z st => chK z st fun st => (c ρ st).bind fun u st => f' y u st := rfl
def pK (d : D) (st : Sto) : R (Option Int) := match d with
  | .int i => .ok (some i) st
  | _ => .bad
@[simp] theorem pK_int {i : Int} : pK (.int i) st = .ok (some i) st := rfl
@[simp] theorem q_p {m : ME} : mP m ρ st = (m ρ st).bind pK := rfl
@[simp] theorem q_noP : mNoP ρ st = .ok none st := rfl
theorem q_p0 {m : ME} {i : Int} {st' : Sto} (h : m ρ st = .ok (.int i) st') : mP m ρ st = .ok (some i) st' := by unfold mP; rw [h]; rfl
@[simp] theorem q_sl {m : ME} {ml mh : MO} : mSl m ml mh ρ st = (m ρ st).bind fun d st => (ml ρ st).bind fun lo st => (mh ρ st).bind fun hi st => slD st lo hi d := rfl
def stK (d : D) (st : Sto) (ms : Sto → R (List D)) : R (List D) := match seqOf st d with
  | some ds => (ms st).bind fun es st => .ok (ds ++ es) st
  | none => .bad
@[simp] theorem q_star {m : ME} {ms : MA} : mStar m ms ρ st = (m ρ st).bind fun d st => stK d st (ms ρ) := rfl
@[simp] theorem stK_tup {ds : List D} {ms : Sto → R (List D)} : stK (.tup ds) st ms = (ms st).bind fun es st => .ok (ds ++ es) st := rfl
@[simp] theorem stK_lst {ds : List D} {ms : Sto → R (List D)} : stK (.lst ds) st ms = (ms st).bind fun es st => .ok (ds ++ es) st := rfl
def mkK (c : Str) (n : Nat) (f : List D → Sto → R D) (ds : List D) (st : Sto) : R D :=
  (if (D.ref st.length :: ds).length = n then f (.ref st.length :: ds) (st ++ [.ins c []]) else .bad).bind fun v st' => match v with
    | .non => if st'.length = st.length + 1 then (match st'[st.length]? with
      | some (.ins c' fs) => if lowF st.length fs then .ok (.obj c' fs) (st'.take st.length) else .bad
      | _ => .bad) else .bad
    | _ => .bad
@[simp] theorem q_make {c : Str} {n : Nat} {f : List D → Sto → R D} {ms : MA} : mMake true c n f ms ρ st = (ms ρ st).bind (mkK c n f) := by
  unfold mMake
  cases ms ρ st <;> rfl
theorem mkK_ok {c : Str} {n : Nat} {f : List D → Sto → R D} {ds : List D} {fs : List (Str × D)} (hn : ds.length + 1 = n) (hf : f (.ref st.length :: ds) (st ++ [.ins c []]) = .ok .non (st ++ [.ins c fs])) (hl : lowF st.length fs = true) : mkK c n f ds st = .ok (.obj c fs) st := by
  unfold mkK
  rw [if_pos (by simpa using hn), hf]
  simp [hl]
@[simp] theorem q_perm {l : Nat} {is : List Nat} {ms : MA} : mPerm l is ms ρ st = (ms ρ st).bind fun zs st => if zs.length = l then .ok (permD is zs) st else .bad := rfl
def fmK2 (r : RS) (k : MS) : RS := match r with
  | .ok (.nx ρ) st => k ρ st
  | .ok (.ct ρ) st => k ρ st
  | .ok (.bk ρ) st => .ok (.nx ρ) st
  | r => r
@[simp] theorem fmK2_nx {k : MS} : fmK2 (.ok (.nx ρ) st) k = k ρ st := rfl
@[simp] theorem fmK2_rt {k : MS} {d : D} : fmK2 (.ok (.rt d) st) k = .ok (.rt d) st := rfl
def fmK (r : RG) (b : MS) (k : MS) : RS := match r with
  | .bad => .bad
  | .ok ρ st => fmK2 (b ρ st) k
@[simp] theorem fmK_ok {b k : MS} : fmK (.ok ρ st) b k = fmK2 (b ρ st) k := rfl
@[simp] theorem forM_nil {g : MG} {b : MS} : forM g b [] ρ st = .ok (.nx ρ) st := rfl
@[simp] theorem forM_cons {g : MG} {b : MS} {d : D} {ds : List D} : forM g b (d :: ds) ρ st = fmK (g d ρ st) b (forM g b ds) := by
  rw [forM]
  cases g d ρ st with
  | bad => rfl
  | ok ρ1 st1 =>
    dsimp only [fmK]
    cases b ρ1 st1 with
    | bad => rfl
    | ok f st2 => cases f <;> rfl
def setFK (ρ : En) (c f : Str) (d o : D) (st : Sto) : RS := match o with
  | .ref k => match st[k]? with
    | some (.ins c' fs) => if c' = c ∧ fs.length < 1000 ∧ lowD k d = true then .ok (.nx ρ) (st.set k (.ins c (putD f d fs))) else .bad
    | _ => .bad
  | _ => .bad
@[simp] theorem q_setF {c f : Str} {mo me : ME} : mSetF c f mo me ρ st = (me ρ st).bindS ρ fun d st => (mo ρ st).bindS ρ fun o st => setFK ρ c f d o st := rfl
theorem setF_new {c f : Str} {d : D} (h : lowD st.length d = true) : setFK ρ c f d (.ref st.length) (st ++ [.ins c []]) = .ok (.nx ρ) (st ++ [.ins c [(f, d)]]) := by
  unfold setFK
  simp [h, putD]
def tabK (tbl : List (Str × (List D → Sto → R D))) (n : Nat) (ms : Sto → R (List D)) (w : D) (st : Sto) : R D := match w with
  | .str z => match tbl.lookup z with
    | some m => (ms st).bind fun ds st => if ds.length = n then m ds st else .bad
    | none => .bad
  | _ => .bad
@[simp] theorem q_tab {tbl : List (Str × (List D → Sto → R D))} {n : Nat} {mi : ME} {ms : MA} : mTab tbl n mi ms ρ st = (mi ρ st).bind (tabK tbl n (ms ρ)) := by
  unfold mTab
  cases mi ρ st with
  | ok w st => cases w <;> rfl
  | _ => rfl
theorem tabK_ok {tbl : List (Str × (List D → Sto → R D))} {n : Nat} {ms : Sto → R (List D)} {z : Str} {m : List D → Sto → R D} (h : tbl.lookup z = some m) : tabK tbl n ms (.str z) st = (ms st).bind fun ds st => if ds.length = n then m ds st else .bad := by
  unfold tabK
  dsimp only
  rw [h]
theorem fn_nx {sl : Nat → D → Sto → R D} {N : Nat} {b : MS} {ds : List D} {st st' : Sto} {ρ : En} (h : b (startM N ds) st = .ok (.nx ρ) st') : fnM sl N b ds st = sl st.length .non st' := by unfold fnM; rw [h]
@[simp] theorem seal_non {n : Nat} : sealR n .non st = .ok .non (st.take n) := rfl
theorem seal_obj {n : Nat} {c : Str} {fs : List (Str × D)} (h : lowF n fs = true) : sealR n (.obj c fs) st = .ok (.obj c fs) (st.take n) := if_pos h
def rng1K (ds : List D) (st : Sto) : R (List D) := match ds with
  | [.int j] => if b62 j then .ok (rngD 0 j.toNat) st else .bad
  | _ => .bad
@[simp] theorem q_rng1 {ms : MA} : mRng1 ms ρ st = (ms ρ st).bind rng1K := rfl
theorem rng1K_ok {j : Int} (h : b62 j = true) : rng1K [.int j] st = .ok (rngD 0 j.toNat) st := by unfold rng1K; dsimp only; rw [if_pos h]
/-- a loop whose steps need not know what came of the ones before -/
theorem for_inv {α : Type} {enc : α → D} {g : MG} {b : MS} (N : Nat) (I : Nat → En → Sto → Prop)
    (h : ∀ n x ρ st, n < N → I n ρ st → ∃ ρ1 st1 ρ2 st2, g (enc x) ρ st = .ok ρ1 st1 ∧ b ρ1 st1 = .ok (.nx ρ2) st2 ∧ I (n + 1) ρ2 st2) :
    ∀ (l : List α) (n : Nat) (ρ : En) (st : Sto), n + l.length ≤ N → I n ρ st → ∃ ρ2 st2, forM g b (l.map enc) ρ st = .ok (.nx ρ2) st2 ∧ I (n + l.length) ρ2 st2
  | [], n, ρ, st, _, r => ⟨ρ, st, rfl, r⟩
  | x :: l, n, ρ, st, hz, r => by
    rw [List.length_cons] at hz
    obtain ⟨ρ1, st1, ρ2, st2, h1, h2, r2⟩ := h n x ρ st (by omega) r
    obtain ⟨ρ3, st3, h3, r3⟩ := for_inv N I h l (n + 1) ρ2 st2 (by omega) r2
    refine ⟨ρ3, st3, ?_, ?_⟩
    · rw [List.map_cons, forM, h1]
      dsimp only
      rw [h2]
      exact h3
    · rw [List.length_cons]
      have e : n + 1 + l.length = n + (l.length + 1) := by omega
      rw [← e]
      exact r3
/-- .. that may say False -/
@[simp] theorem dEq_bl {a b : Bool} : dEq (.bl a) (.bl b) st = .ok (.bl (decide (a = b))) st := by cases a <;> cases b <;> rfl
@[simp] theorem dNe_bl {a b : Bool} : dNe (.bl a) (.bl b) st = .ok (.bl (!decide (a = b))) st := by cases a <;> cases b <;> rfl
theorem intsOf_map : ∀ l : List Int, intsOf (l.map D.int) = some l
  | [] => rfl
  | i :: l => by
    rw [List.map_cons, intsOf, intsOf_map l]
    rfl
end
end DM

end

section
set_option Elab.async false
set_option linter.all false
set_option maxRecDepth 100000
set_option maxHeartbeats 2000000
/-! DQ3: lists in the store at any place, a comprehension that leaves things behind, the desk. -/
namespace DM
open PySem PySem.Spec PyProof.Rows L2
section
variable {ρ : En} {st : Sto}
theorem ix_ref {k : Nat} {ds : List D} {i : Int} {x : D} (h : st[k]? = some (.lst ds)) (hx : atI ds i = some x) : dIx (.ref k) (.int i) st = .ok x st := by
  unfold dIx
  dsimp only
  have e : atD st (.ref k) i = some x := by
    show (seqOf st (.ref k)).bind _ = _
    simp [seqOf, lstOf, h, hx]
  rw [e]
theorem gSub_ok {mo mi : ME} {d : D} {k : Nat} {i : Int} {ds : List D} {j : Nat} (h1 : mo ρ st = .ok (.ref k) st) (h2 : mi ρ st = .ok (.int i) st) (h3 : st[k]? = some (.lst ds)) (h4 : ixN ds.length i = some j) (h5 : lowD k d = true) : gSubM mo mi d ρ st = .ok ρ (st.set k (.lst (ds.set j d))) := by
  unfold gSubM
  rw [h1]
  dsimp only
  rw [h2]
  dsimp only
  rw [h3]
  dsimp only
  rw [h4]
  dsimp only
  rw [if_pos h5]
theorem dDivmod_ok {a b : Int} (h : 0 < b ∧ b < 1073741824) : dDivmod [.int a, .int b] st = .ok (.tup [.int (a / b), .int (a % b)]) st := if_pos (decide_eq_true h)
@[simp] theorem dInt_ok {a : Int} : dInt [.int a] st = .ok (.int a) st := rfl
theorem take_set {k : Nat} {o : Ob} : (st.set k o).take st.length = st.set k o := List.take_of_length_le (by simp)
theorem dDivP {a b : Int} (h : divOk a b = true) : dDiv (.int a) (.int b) st = .ok (.int (a / b)) st := if_pos h
theorem dMod_pos {a b : Int} (h : 0 < b) : dMod (.int a) (.int b) st = .ok (.int (a % b)) st := if_pos (decide_eq_true h)
theorem log_lt {i : Int} {n : Nat} (h : i.natAbs < 2 ^ n) (hn : 0 < n) : i.natAbs.log2 < n := by
  rcases Nat.eq_zero_or_pos i.natAbs with e | e
  · rw [e]; simpa using hn
  · exact (Nat.log2_lt (by omega)).mpr h
theorem mul_small {a b : Int} (h1 : 0 ≤ a) (h2 : a < 2 ^ 60) (h3 : 0 ≤ b) (h4 : b < 2 ^ 60) : dMul (.int a) (.int b) st = .ok (.int (a * b)) st := by
  refine if_pos (decide_eq_true ?_)
  have l1 := log_lt (i := a) (n := 60) (by omega) (by omega)
  have l2 := log_lt (i := b) (n := 60) (by omega) (by omega)
  omega
/-- a list of three numbers at k: the desk; n: how often it was asked at most -/
def Dk (k n : Nat) (st : Sto) : Prop := ∃ a b c : Int, st[k]? = some (.lst [.int a, .int b, .int c]) ∧ 0 ≤ a ∧ 0 ≤ b ∧ b < 2147482661 ∧ 0 ≤ c ∧ c ≤ n
theorem Dk.lt {k n : Nat} (h : Dk k n st) : k < st.length := by
  obtain ⟨a, b, c, h, _⟩ := h
  exact (List.getElem?_eq_some_iff.mp h).1
theorem Dk.mono {k n m : Nat} (h : Dk k n st) (hm : n ≤ m) : Dk k m st := by
  obtain ⟨a, b, c, h, h1, h2, h3, h4, h5⟩ := h
  exact ⟨a, b, c, h, h1, h2, h3, h4, by omega⟩
theorem Dk.app {k n : Nat} {x : Sto} (h : Dk k n st) : Dk k n (st ++ x) := by
  have hk := h.lt
  obtain ⟨a, b, c, h, hh⟩ := h
  exact ⟨a, b, c, by rw [List.getElem?_append_left hk]; exact h, hh⟩
theorem set_app {k : Nat} {o : Ob} {x : Sto} (h : k < st.length) : (st ++ x).set k o = st.set k o ++ x := by
  rw [List.set_append_left _ _ h]
/-- a comprehension whose steps leave things behind -/
theorem lcJ_run {α : Type} {enc f : α → D} {p : Pt} {e : ME} {ρ : En} {st : Sto} : ∀ (l : List α) (acc : List D) (junk : Sto),
    (∀ x ∈ l, ∀ acc junk, ∃ ρ1 junk1, setP p (enc x) ρ = some ρ1 ∧ e ρ1 (st ++ .lst acc :: junk) = .ok (f x) (st ++ .lst acc :: junk1) ∧ lowD st.length (f x) = true) →
    acc.length + l.length < 100000 → ∃ junk2, lcM p mYes e st.length ρ (l.map enc) (st ++ .lst acc :: junk) = .ok () (st ++ .lst (acc ++ l.map f) :: junk2)
  | [], acc, junk, _, _ => ⟨junk, by simp [lcM]⟩
  | x :: l, acc, junk, h, hz => by
    obtain ⟨ρ1, junk1, h1, h4, h5⟩ := h x List.mem_cons_self acc junk
    simp only [List.length_cons] at hz
    have hl : ∀ y ∈ l, _ := fun y hy => h y (List.mem_cons_of_mem _ hy)
    have hz2 : acc.length < sizeLine := by rw [sizeLine_eq]; show acc.length < 16777216; omega
    obtain ⟨junk2, ih⟩ := lcJ_run l (acc ++ [f x]) junk1 hl (by simp; omega)
    refine ⟨junk2, ?_⟩
    have g : (st ++ Ob.lst acc :: junk1)[st.length]? = some (.lst acc) := by simp
    have s : (st ++ Ob.lst acc :: junk1).set st.length (.lst (acc ++ [f x])) = st ++ Ob.lst (acc ++ [f x]) :: junk1 := by simp
    rw [List.map_cons, lcM, h1]
    simp only [q_yes, h4, R.nox_ok, R.bind_ok, if_true, g]
    rw [if_pos ⟨hz2, h5⟩, s, ih]
    simp
theorem q_lcJ {α : Type} (enc f : α → D) {mi : MI} {p : Pt} {e : ME} {vs : List Nat} {ρ : En} {st : Sto} (l : List α) (hi : mi ρ st = .ok (l.map enc) st)
    (h : ∀ x ∈ l, ∀ acc junk, ∃ ρ1 junk1, setP p (enc x) (wipeM ρ vs) = some ρ1 ∧ e ρ1 (st ++ .lst acc :: junk) = .ok (f x) (st ++ .lst acc :: junk1) ∧ lowD st.length (f x) = true)
    (hz : l.length < 100000) : mLc mi p mYes e vs ρ st = .ok (.lst (l.map f)) st := by
  obtain ⟨junk2, e⟩ := lcJ_run (st := st) l [] [] h (by simpa using hz)
  unfold mLc
  rw [hi, R.bind_ok, e, R.bind_ok]
  simp [lcEnd]
/-! equal data -/
theorem pdS_of {d : D} {p : PyData} (h : pdOf d = some p) : pdS st d = some p := by
  cases d with
  | ref k => rw [pdOf] at h; cases h
  | _ => exact h
theorem dEq_pd {d e : D} {p q : PyData} (h : pdOf d = some p) (h' : pdOf e = some q) (hp : SeqAt.shaped p = true) (hq : SeqAt.shaped q = true) : dEq d e st = .ok (.bl (PyData.eqv p q)) st := by
  have z : eqB st d e = some (PyData.eqv p q) := by
    unfold eqB
    rw [pdS_of h, pdS_of h']
    simp [hp, hq]
  unfold dEq
  rw [z]
theorem dNe_pd {d e : D} {p q : PyData} (h : pdOf d = some p) (h' : pdOf e = some q) (hp : SeqAt.shaped p = true) (hq : SeqAt.shaped q = true) : dNe d e st = .ok (.bl (!PyData.eqv p q)) st := by
  have z : eqB st d e = some (PyData.eqv p q) := by
    unfold eqB
    rw [pdS_of h, pdS_of h']
    simp [hp, hq]
  unfold dNe
  rw [z]
theorem pdL_strs : ∀ l : List Str, pdL (l.map D.str) = some (l.map PyData.str)
  | [] => rfl
  | s :: l => by
    rw [List.map_cons, pdL, pdL_strs l]
    rfl
theorem shaped_strs {l : List Str} (h : ∀ s ∈ l, SeqAt.shaped (.str s) = true) : SeqAt.shaped (.tuple (l.map PyData.str)) = true ∧ SeqAt.shaped (.list (l.map PyData.str)) = true := by
  have a : PyData.canLayAll0 (l.map PyData.str) = true ∧ PyData.depthAll (l.map PyData.str) ≤ 0 := by
    induction l with
    | nil => exact ⟨rfl, Nat.le_refl _⟩
    | cons s l ih =>
      obtain ⟨h1, h2⟩ := ih fun x hx => h x (List.mem_cons_of_mem _ hx)
      have hs := h s List.mem_cons_self
      simp only [SeqAt.shaped, Bool.and_eq_true] at hs
      refine ⟨?_, ?_⟩
      · rw [List.map_cons, PyData.canLayAll0, hs.1, h1]; rfl
      · rw [List.map_cons, PyData.depthAll, PyData.depth]; omega
  obtain ⟨h1, h2⟩ := a
  refine ⟨?_, ?_⟩ <;> (simp only [SeqAt.shaped, PyData.canLay0, h1, PyData.depth, Bool.true_and]; exact decide_eq_true (by omega))
mutual
def plainD : Nat → D → Bool
  | 0, _ => false
  | _ + 1, .non => true
  | _ + 1, .bl _ => true
  | _ + 1, .int _ => true
  | _ + 1, .str s => SeqAt.shaped (.str s)
  | n + 1, .tup ds => plainL n ds && decide (ds.length < 1000)
  | n + 1, .lst ds => plainL n ds && decide (ds.length < 1000)
  | _ + 1, _ => false
def plainL : Nat → List D → Bool
  | _, [] => true
  | n, d :: ds => plainD n d && plainL n ds
end
theorem plainL_mem {n : Nat} : ∀ {ds : List D}, plainL n ds = true → ∀ d ∈ ds, plainD n d = true
  | [], _, _, h => by cases h
  | d :: ds, h, x, hx => by
    rw [plainL, Bool.and_eq_true] at h
    rcases List.mem_cons.mp hx with rfl | hx
    · exact h.1
    · exact plainL_mem h.2 x hx
theorem zipW_self (ds : List D) : List.zipWith (fun d e => D.wtp [d, e]) ds ds = ds.map fun d => .wtp [d, d] := by
  induction ds with
  | nil => rfl
  | cons d ds ih => simp [ih]
theorem bls_true : ∀ l : List D, blsOf (l.map fun _ => D.bl true) = some (l.map fun _ => true)
  | [] => rfl
  | d :: l => by rw [List.map_cons, blsOf, bls_true l]; rfl
theorem all_true {α : Type} (l : List α) : dAll [.lst (l.map fun _ => .bl true)] st = .ok (.bl true) st := by
  have e : ∀ l : List α, blsOf (l.map fun _ => D.bl true) = some (l.map fun _ => true) := by
    intro l
    induction l with
    | nil => rfl
    | cons d l ih => rw [List.map_cons, blsOf, ih]; rfl
  show dBls (fun bs => bs.all id) [.lst (l.map fun _ => .bl true)] st = _
  unfold dBls
  simp [lstOf, e]
end
end DM

end

section
set_option Elab.async false
set_option linter.all false
set_option maxRecDepth 100000
set_option maxHeartbeats 2000000
/-! DQ4: dicts by any keys, calls by names, is True. -/
namespace DM
open PySem PySem.Spec PyProof.Rows L2
section
variable {ρ : En} {st : Sto}
@[simp] theorem q_callK {n l : Nat} {is : List Nat} {f : List D → Sto → R D} {ms : MA} : mCallK n l is f ms ρ st = (ms ρ st).bind fun zs st => if zs.length = l ∧ (permD is zs).length = n then f (permD is zs) st else .bad := rfl
@[simp] theorem dNotB_ok {a b : Bool} : dNotB (.bl a) (.bl b) st = .ok (.bl (!decide (a = b))) st := rfl
@[simp] theorem dIsB_ok {a b : Bool} : dIsB (.bl a) (.bl b) st = .ok (.bl (decide (a = b))) st := rfl
end
section
variable {α β : Type} [DecidableEq α]
def lookG (l : List (α × β)) (p : α) : Option β := (l.find? fun e => decide (e.1 = p)).map (·.2)
def putG (l : List (α × β)) (p : α) (v : β) : List (α × β) := if (lookG l p).isSome = true then l.map (fun e => if e.1 = p then (e.1, v) else e) else l ++ [(p, v)]
abbrev dicG (κ : α → List Key) (f : β → D) (l : List (α × β)) : List (List Key × D) := l.map fun e => (κ e.1, f e.2)
variable {κ : α → List Key}
theorem getK_G (inj : ∀ p q, κ p = κ q → p = q) (f : β → D) (l : List (α × β)) (p : α) : getK (dicG κ f l) (κ p) = (lookG l p).map f := by
  unfold getK lookG dicG
  induction l with
  | nil => rfl
  | cons e l ih =>
    rw [List.map_cons, List.find?_cons, List.find?_cons]
    by_cases h : e.1 = p
    · simp [h]
    · have h2 : ¬ κ e.1 = κ p := fun z => h (inj _ _ z)
      simp only [h, h2, decide_false]
      exact ih
theorem putK_G (inj : ∀ p q, κ p = κ q → p = q) (f : β → D) (l : List (α × β)) (p : α) (v : β) : putKD (dicG κ f l) (κ p) (f v) = dicG κ f (putG l p v) := by
  unfold putKD putG
  rw [getK_G inj, Option.isSome_map]
  split
  · simp only [dicG, List.map_map]
    apply List.map_congr_left
    intro e _
    simp only [Function.comp]
    by_cases h : e.1 = p
    · simp [h]
    · have h2 : ¬ κ e.1 = κ p := fun z => h (inj _ _ z)
      rw [if_neg h2, if_neg h]
  · simp [dicG]
theorem low_dicG (f : β → D) (hf : ∀ b n, lowD n (f b) = true) (n : Nat) : ∀ l : List (α × β), lowK n (dicG κ f l) = true
  | [] => rfl
  | e :: l => by
    rw [dicG, List.map_cons, lowK, hf, Bool.true_and]
    exact low_dicG f hf n l
end
abbrev kP (p : Int × Int) : List Key := [.inl p.1, .inl p.2]
theorem kP_inj (p q : Int × Int) (h : kP p = kP q) : p = q := by
  obtain ⟨a, b⟩ := p
  obtain ⟨c, d⟩ := q
  simpa [kP] using h
@[simp] theorem keyT_P {a b : Int} : keyT (.tup [.int a, .int b]) = some (kP (a, b)) := rfl
/-- a dict by pairs at the end of the store -/
abbrev stP {β : Type} (f : β → D) (st : Sto) (l : List ((Int × Int) × β)) : Sto := st ++ [.dxt (dicG kP f l)]
section
variable {β : Type} {f : β → D} {l : List ((Int × Int) × β)} {st : Sto} {ρ : En}
theorem getP {a b : Int} {v : β} (h : lookG l (a, b) = some v) : dgetK (stP f st l) (.ref st.length) (.tup [.int a, .int b]) = .ok (f v) (stP f st l) :=
  dgetK_ok (kvs := dicG kP f l) (k := kP (a, b)) (by simp [dxtOf, stP]) rfl (by rw [getK_G kP_inj, h]; rfl)
theorem getP0 {a b : Int} {v : β} (h : lookG l (a, b) = some v) : dgetK st (.dxt (dicG kP f l)) (.tup [.int a, .int b]) = .ok (f v) st :=
  dgetK_ok (kvs := dicG kP f l) (k := kP (a, b)) rfl rfl (by rw [getK_G kP_inj, h]; rfl)
theorem putP {a b : Int} {v : β} (hl : l.length < 1000) (hf : ∀ b n, lowD n (f b) = true) : dputK ρ (stP f st l) (.ref st.length) (.tup [.int a, .int b]) (f v) = .ok (.nx ρ) (stP f st (putG l (a, b) v)) := by
  rw [dputK_ok (kvs := dicG kP f l) (k := kP (a, b)) (by simp [stP]) rfl (by simp; omega) (hf _ _), putK_G kP_inj, set_last]
end
/-- a loop over range, of steps in Option -/
theorem for_range {σ : Type} {g : MG} {b : MS} (Rl : σ → En → Sto → Prop) (step : σ → Nat → Option σ)
    (h : ∀ s (x : Nat) ρ st s', Rl s ρ st → step s x = some s' → ∃ ρ1 st1 ρ2 st2, g (.int x) ρ st = .ok ρ1 st1 ∧ b ρ1 st1 = .ok (.nx ρ2) st2 ∧ Rl s' ρ2 st2)
    (m : Nat) (s : σ) (ρ : En) (st : Sto) (s' : σ) (r : Rl s ρ st) (e : (List.range m).foldlM step s = some s') : ∃ ρ2 st2, forM g b (rngD 0 m) ρ st = .ok (.nx ρ2) st2 ∧ Rl s' ρ2 st2 := by
  have := for_rel (enc := fun i : Nat => D.int (0 + (i : Int))) (g := g) (b := b) Rl step (fun s x ρ st s' r e => by
    rw [Int.zero_add]
    exact h s x ρ st s' r e) (List.range m) s ρ st s' r e
  exact this
end DM

end

section
set_option Elab.async false
set_option linter.all false
set_option maxRecDepth 100000
set_option maxHeartbeats 4000000
namespace K79
open PySem PySem.Spec PyProof.Rows L2 DM
def top (i : Nat) : Stmt := PySem.Challenge.pw_turnedpairs_k79_whole_faults_of_cases.main.body.getD i (.Pass ⟨0, 0, 0, 0⟩)
def facts : List Fz := [.free "len", .free "min", .free "max", .free "range", .free "divmod", .free "int", .glo "_law_slot", .glo "_law_of", .glo "_law_parts", .free "abs", .glo "_law_low", .glo "_law_case_parts", .glo "_law_branches", .glo "_law_plus", .glo "_law_times", .glo "_law_up_to", .glo "_law_word", .glo "_law_means", .glo "_law_worst", .glo "_law_less", .glo "_law_gains", .glo "_law_outs", .free "isinstance", .glo "check_state", .free "str", .val "HABITS" (.tup [.str "shut", .str "open", .str "turns"]), .glo "is_one_of", .glo "check_habit", .glo "check_state_habit", .free "bool", .glo "is_whole", .glo "is_between", .val "MOST_NUMBER" (.int 99), .glo "check_number", .free "tuple", .glo "is_tuple_of", .glo "is_pair", .free "all", .blt "gcd" "math.gcd", .glo "is_fraction", .val "NOTHING" (.tup [.int 0, .int 1]), .glo "is_less", .glo "Case", .cls "Case", .noat "Case" "all_of_it", .glo "is_number", .val "MOST_KINDS" (.int 8), .glo "State", .cls "State", .noat "State" "all_told", .mkr "State", .mkr "Case", .glo "_law_case", .free "list", .free "zip", .glo "_law_same", .glo "check_case", .val "WORDS" (.tup [.str "mean", .str "surely", .str "first"]), .val "DONE" (.tup [.int 0, .int 0, .int 0]), .glo "has_choice_statework", .val "CHOICES" (.tup [.str "shut", .str "open"]), .glo "choices_in", .val "WHOLE" (.tup [.int 1, .int 1]), .glo "shut_in", .glo "lowest", .val "OPEN_statework" (.str "open"), .glo "second_by", .glo "times", .glo "turned", .glo "order_of", .free "sorted", .glo "reached", .glo "plus", .glo "total", .val "SHUT_statework" (.str "shut"), .val "TURNS" (.str "turns"), .glo "choice_for", .glo "mean_with", .glo "habit_means", .prop "Case" "habit", .prop "Case" "state", .prop "State" "parts", .glo "habit_mean", .prop "Case" "most", .val "MEAN" (.str "mean"), .glo "worst_with", .glo "worst_by", .prop "Case" "number", .val "SURELY" (.str "surely"), .val "OPEN_outcomework" (.str "open"), .glo "second_shut", .glo "outcomes", .val "SHUT_outcomework" (.str "shut"), .glo "height_of", .glo "all_behind", .glo "has_choice_outcomework", .glo "choices_of", .glo "minus", .glo "gain_behind", .glo "best_gain", .glo "gains_of", .val "FIRST" (.str "first"), .glo "STORIES", .tabv "STORIES" "mean" "mean_stories", .tabv "STORIES" "surely" "surely_stories", .tabv "STORIES" "first" "first_stories", .glo "stories_by", .glo "faults", .glo "is_sound", .glo "breaking", .glo "is_same", .free "any", .glo "does_break_by", .glo "does_break", .glo "_law_desk", .glo "_law_right", .glo "law", .two "State" "Case", .two "Case" "State", .glo "mean_stories", .glo "surely_stories", .glo "first_stories"]
def defs_ : List DefZ := [⟨.g "_law_slot", "_law_slot", "_law_slot", top 92⟩, ⟨.g "_law_of", "_law_of", "_law_of", top 93⟩, ⟨.g "_law_parts", "_law_parts", "_law_parts", top 100⟩, ⟨.g "_law_low", "_law_low", "_law_low", top 95⟩, ⟨.g "_law_case_parts", "_law_case_parts", "_law_case_parts", top 106⟩, ⟨.g "_law_plus", "_law_plus", "_law_plus", top 96⟩, ⟨.g "_law_branches", "_law_branches", "_law_branches", top 101⟩, ⟨.g "_law_times", "_law_times", "_law_times", top 98⟩, ⟨.g "_law_up_to", "_law_up_to", "_law_up_to", top 99⟩, ⟨.g "_law_word", "_law_word", "_law_word", top 102⟩, ⟨.g "_law_means", "_law_means", "_law_means", top 103⟩, ⟨.g "_law_worst", "_law_worst", "_law_worst", top 104⟩, ⟨.g "_law_less", "_law_less", "_law_less", top 97⟩, ⟨.g "_law_gains", "_law_gains", "_law_gains", top 105⟩, ⟨.g "_law_outs", "_law_outs", "_law_outs", top 108⟩, ⟨.g "check_state", "check_state", "check_state", top 78⟩, ⟨.g "is_one_of", "is_one_of", "is_one_of", top 4⟩, ⟨.g "check_habit", "check_habit", "check_habit", top 79⟩, ⟨.g "check_state_habit", "check_state_habit", "check_state_habit", top 80⟩, ⟨.g "is_whole", "is_whole", "is_whole", top 2⟩, ⟨.g "is_between", "is_between", "is_between", top 3⟩, ⟨.g "check_number", "check_number", "check_number", top 81⟩, ⟨.g "is_tuple_of", "is_tuple_of", "is_tuple_of", top 5⟩, ⟨.g "is_pair", "is_pair", "is_pair", top 6⟩, ⟨.g "is_fraction", "is_fraction", "is_fraction", top 11⟩, ⟨.g "is_less", "is_less", "is_less", top 15⟩, ⟨.m "Case" "__init__", "__init__", "Case.__init__", inClass (top 84) 0⟩, ⟨.g "is_number", "is_number", "is_number", top 25⟩, ⟨.m "State" "__init__", "__init__", "State.__init__", inClass (top 77) 0⟩, ⟨.g "_law_case", "_law_case", "_law_case", top 107⟩, ⟨.g "_law_same", "_law_same", "_law_same", top 94⟩, ⟨.g "check_case", "check_case", "check_case", top 85⟩, ⟨.g "has_choice_statework", "has_choice", "has_choice", top 27⟩, ⟨.g "choices_in", "choices_in", "choices_in", top 29⟩, ⟨.g "shut_in", "shut_in", "shut_in", top 26⟩, ⟨.g "lowest", "lowest", "lowest", top 10⟩, ⟨.g "second_by", "second_by", "second_by", top 31⟩, ⟨.g "times", "times", "times", top 14⟩, ⟨.g "turned", "turned", "turned", top 32⟩, ⟨.g "order_of", "order_of", "order_of", top 33⟩, ⟨.g "reached", "reached", "reached", top 34⟩, ⟨.g "plus", "plus", "plus", top 12⟩, ⟨.g "total", "total", "total", top 16⟩, ⟨.g "mean_with", "mean_with", "mean_with", top 36⟩, ⟨.g "choice_for", "choice_for", "choice_for", top 30⟩, ⟨.g "habit_means", "habit_means", "habit_means", top 37⟩, ⟨.g "habit_mean", "habit_mean", "habit_mean", top 38⟩, ⟨.p "Case" "habit", "habit", "Case.habit", inClass (top 84) 2⟩, ⟨.p "Case" "state", "state", "Case.state", inClass (top 84) 1⟩, ⟨.p "State" "parts", "parts", "State.parts", inClass (top 77) 4⟩, ⟨.p "Case" "most", "most", "Case.most", inClass (top 84) 4⟩, ⟨.g "mean_stories", "mean_stories", "mean_stories", top 61⟩, ⟨.g "worst_with", "worst_with", "worst_with", top 54⟩, ⟨.g "worst_by", "worst_by", "worst_by", top 55⟩, ⟨.p "Case" "number", "number", "Case.number", inClass (top 84) 3⟩, ⟨.g "surely_stories", "surely_stories", "surely_stories", top 62⟩, ⟨.g "second_shut", "second_shut", "second_shut", top 44⟩, ⟨.g "outcomes", "outcomes", "outcomes", top 45⟩, ⟨.g "height_of", "height_of", "height_of", top 46⟩, ⟨.g "all_behind", "all_behind", "all_behind", top 47⟩, ⟨.g "has_choice_outcomework", "has_choice", "has_choice", top 42⟩, ⟨.g "choices_of", "choices_of", "choices_of", top 50⟩, ⟨.g "minus", "minus", "minus", top 13⟩, ⟨.g "gain_behind", "gain_behind", "gain_behind", top 49⟩, ⟨.g "best_gain", "best_gain", "best_gain", top 51⟩, ⟨.g "gains_of", "gains_of", "gains_of", top 52⟩, ⟨.g "first_stories", "first_stories", "first_stories", top 63⟩, ⟨.g "stories_by", "stories_by", "stories_by", top 65⟩, ⟨.g "faults", "faults", "faults", top 86⟩, ⟨.g "is_sound", "is_sound", "is_sound", top 87⟩, ⟨.g "breaking", "breaking", "breaking", top 89⟩, ⟨.g "is_same", "is_same", "is_same", top 66⟩, ⟨.g "does_break_by", "does_break_by", "does_break_by", top 67⟩, ⟨.g "does_break", "does_break", "does_break", top 88⟩, ⟨.g "_law_right", "_law_right", "_law_right", top 109⟩, ⟨.g "_law_desk", "_law_desk", "_law_desk", top 91⟩, ⟨.g "law", "law", "law", top 110⟩]
def tabs_ : List He.Tab := [(fun K => He.ga K "STORIES", ["mean", "surely", "first"])]
def tfs : List DAt := [.g "reached", .g "all_behind"]
abbrev css (K : PySem.W.Frag) : List (Addr × Addr) := tfs.map (cTab K)
def nmAll (l c : Nat) : Str := if l = 94 ∧ c = 29 then "reached.<locals>.<lambda>" else if l = 144 ∧ c = 29 then "all_behind.<locals>.<lambda>" else ""
def tbs (K : PySem.W.Frag) : List NdefX.NTab := tfs.map fun d => ((cTab K d).2, nmAll)
theorem tb_uni (K : PySem.W.Frag) {P0 : Addr} : ∀ p ∈ tbs K, p.1 = P0 → p.2 = nmAll := fun p hp _ => by
  obtain ⟨d, _, rfl⟩ := List.mem_map.mp hp
  rfl
theorem tf_mem_reached (K : PySem.W.Frag) : cTab K (.g "reached") ∈ css K := List.mem_map.mpr ⟨_, List.mem_of_getElem? (i := 0) rfl, rfl⟩
theorem tb_mem_reached (K : PySem.W.Frag) : ((cTab K (.g "reached")).2, nmAll) ∈ tbs K := List.mem_map.mpr ⟨_, List.mem_of_getElem? (i := 0) rfl, rfl⟩
theorem tf_mem_all_behind (K : PySem.W.Frag) : cTab K (.g "all_behind") ∈ css K := List.mem_map.mpr ⟨_, List.mem_of_getElem? (i := 1) rfl, rfl⟩
theorem tb_mem_all_behind (K : PySem.W.Frag) : ((cTab K (.g "all_behind")).2, nmAll) ∈ tbs K := List.mem_map.mpr ⟨_, List.mem_of_getElem? (i := 1) rfl, rfl⟩
theorem fa0 {w : World} {K : PySem.W.Frag} {mg : Str → Option Value} {h : Heap} (KX : K.In h) (G : h.Ns mainGlobals mg) (c : SaysZ facts defs_ tabs_ tfs w h K) : mg "len" = none := free_ok KX G (c.fact 0)
theorem fa1 {w : World} {K : PySem.W.Frag} {mg : Str → Option Value} {h : Heap} (KX : K.In h) (G : h.Ns mainGlobals mg) (c : SaysZ facts defs_ tabs_ tfs w h K) : mg "min" = none := free_ok KX G (c.fact 1)
theorem fa2 {w : World} {K : PySem.W.Frag} {mg : Str → Option Value} {h : Heap} (KX : K.In h) (G : h.Ns mainGlobals mg) (c : SaysZ facts defs_ tabs_ tfs w h K) : mg "max" = none := free_ok KX G (c.fact 2)
theorem fa3 {w : World} {K : PySem.W.Frag} {mg : Str → Option Value} {h : Heap} (KX : K.In h) (G : h.Ns mainGlobals mg) (c : SaysZ facts defs_ tabs_ tfs w h K) : mg "range" = none := free_ok KX G (c.fact 3)
theorem fa4 {w : World} {K : PySem.W.Frag} {mg : Str → Option Value} {h : Heap} (KX : K.In h) (G : h.Ns mainGlobals mg) (c : SaysZ facts defs_ tabs_ tfs w h K) : mg "divmod" = none := free_ok KX G (c.fact 4)
theorem fa5 {w : World} {K : PySem.W.Frag} {mg : Str → Option Value} {h : Heap} (KX : K.In h) (G : h.Ns mainGlobals mg) (c : SaysZ facts defs_ tabs_ tfs w h K) : mg "int" = none := free_ok KX G (c.fact 5)
theorem fa6 {w : World} {K : PySem.W.Frag} {mg : Str → Option Value} {h : Heap} (KX : K.In h) (G : h.Ns mainGlobals mg) (c : SaysZ facts defs_ tabs_ tfs w h K) : mg "_law_slot" = some (.ref (He.ga K "_law_slot")) := glo_ok KX G (c.fact 6)
theorem fa7 {w : World} {K : PySem.W.Frag} {mg : Str → Option Value} {h : Heap} (KX : K.In h) (G : h.Ns mainGlobals mg) (c : SaysZ facts defs_ tabs_ tfs w h K) : mg "_law_of" = some (.ref (He.ga K "_law_of")) := glo_ok KX G (c.fact 7)
theorem fa8 {w : World} {K : PySem.W.Frag} {mg : Str → Option Value} {h : Heap} (KX : K.In h) (G : h.Ns mainGlobals mg) (c : SaysZ facts defs_ tabs_ tfs w h K) : mg "_law_parts" = some (.ref (He.ga K "_law_parts")) := glo_ok KX G (c.fact 8)
theorem fa9 {w : World} {K : PySem.W.Frag} {mg : Str → Option Value} {h : Heap} (KX : K.In h) (G : h.Ns mainGlobals mg) (c : SaysZ facts defs_ tabs_ tfs w h K) : mg "abs" = none := free_ok KX G (c.fact 9)
theorem fa10 {w : World} {K : PySem.W.Frag} {mg : Str → Option Value} {h : Heap} (KX : K.In h) (G : h.Ns mainGlobals mg) (c : SaysZ facts defs_ tabs_ tfs w h K) : mg "_law_low" = some (.ref (He.ga K "_law_low")) := glo_ok KX G (c.fact 10)
theorem fa11 {w : World} {K : PySem.W.Frag} {mg : Str → Option Value} {h : Heap} (KX : K.In h) (G : h.Ns mainGlobals mg) (c : SaysZ facts defs_ tabs_ tfs w h K) : mg "_law_case_parts" = some (.ref (He.ga K "_law_case_parts")) := glo_ok KX G (c.fact 11)
theorem fa12 {w : World} {K : PySem.W.Frag} {mg : Str → Option Value} {h : Heap} (KX : K.In h) (G : h.Ns mainGlobals mg) (c : SaysZ facts defs_ tabs_ tfs w h K) : mg "_law_branches" = some (.ref (He.ga K "_law_branches")) := glo_ok KX G (c.fact 12)
theorem fa13 {w : World} {K : PySem.W.Frag} {mg : Str → Option Value} {h : Heap} (KX : K.In h) (G : h.Ns mainGlobals mg) (c : SaysZ facts defs_ tabs_ tfs w h K) : mg "_law_plus" = some (.ref (He.ga K "_law_plus")) := glo_ok KX G (c.fact 13)
theorem fa14 {w : World} {K : PySem.W.Frag} {mg : Str → Option Value} {h : Heap} (KX : K.In h) (G : h.Ns mainGlobals mg) (c : SaysZ facts defs_ tabs_ tfs w h K) : mg "_law_times" = some (.ref (He.ga K "_law_times")) := glo_ok KX G (c.fact 14)
theorem fa15 {w : World} {K : PySem.W.Frag} {mg : Str → Option Value} {h : Heap} (KX : K.In h) (G : h.Ns mainGlobals mg) (c : SaysZ facts defs_ tabs_ tfs w h K) : mg "_law_up_to" = some (.ref (He.ga K "_law_up_to")) := glo_ok KX G (c.fact 15)
theorem fa16 {w : World} {K : PySem.W.Frag} {mg : Str → Option Value} {h : Heap} (KX : K.In h) (G : h.Ns mainGlobals mg) (c : SaysZ facts defs_ tabs_ tfs w h K) : mg "_law_word" = some (.ref (He.ga K "_law_word")) := glo_ok KX G (c.fact 16)
theorem fa17 {w : World} {K : PySem.W.Frag} {mg : Str → Option Value} {h : Heap} (KX : K.In h) (G : h.Ns mainGlobals mg) (c : SaysZ facts defs_ tabs_ tfs w h K) : mg "_law_means" = some (.ref (He.ga K "_law_means")) := glo_ok KX G (c.fact 17)
theorem fa18 {w : World} {K : PySem.W.Frag} {mg : Str → Option Value} {h : Heap} (KX : K.In h) (G : h.Ns mainGlobals mg) (c : SaysZ facts defs_ tabs_ tfs w h K) : mg "_law_worst" = some (.ref (He.ga K "_law_worst")) := glo_ok KX G (c.fact 18)
theorem fa19 {w : World} {K : PySem.W.Frag} {mg : Str → Option Value} {h : Heap} (KX : K.In h) (G : h.Ns mainGlobals mg) (c : SaysZ facts defs_ tabs_ tfs w h K) : mg "_law_less" = some (.ref (He.ga K "_law_less")) := glo_ok KX G (c.fact 19)
theorem fa20 {w : World} {K : PySem.W.Frag} {mg : Str → Option Value} {h : Heap} (KX : K.In h) (G : h.Ns mainGlobals mg) (c : SaysZ facts defs_ tabs_ tfs w h K) : mg "_law_gains" = some (.ref (He.ga K "_law_gains")) := glo_ok KX G (c.fact 20)
theorem fa21 {w : World} {K : PySem.W.Frag} {mg : Str → Option Value} {h : Heap} (KX : K.In h) (G : h.Ns mainGlobals mg) (c : SaysZ facts defs_ tabs_ tfs w h K) : mg "_law_outs" = some (.ref (He.ga K "_law_outs")) := glo_ok KX G (c.fact 21)
theorem fa22 {w : World} {K : PySem.W.Frag} {mg : Str → Option Value} {h : Heap} (KX : K.In h) (G : h.Ns mainGlobals mg) (c : SaysZ facts defs_ tabs_ tfs w h K) : mg "isinstance" = none := free_ok KX G (c.fact 22)
theorem fa23 {w : World} {K : PySem.W.Frag} {mg : Str → Option Value} {h : Heap} (KX : K.In h) (G : h.Ns mainGlobals mg) (c : SaysZ facts defs_ tabs_ tfs w h K) : mg "check_state" = some (.ref (He.ga K "check_state")) := glo_ok KX G (c.fact 23)
theorem fa24 {w : World} {K : PySem.W.Frag} {mg : Str → Option Value} {h : Heap} (KX : K.In h) (G : h.Ns mainGlobals mg) (c : SaysZ facts defs_ tabs_ tfs w h K) : mg "str" = none := free_ok KX G (c.fact 24)
theorem fa25 {w : World} {K : PySem.W.Frag} {mg : Str → Option Value} {h : Heap} (KX : K.In h) (G : h.Ns mainGlobals mg) (c : SaysZ facts defs_ tabs_ tfs w h K) : GlOk w K mg "HABITS" (.tup [.str "shut", .str "open", .str "turns"]) := val_ok KX G (c.fact 25)
theorem fa26 {w : World} {K : PySem.W.Frag} {mg : Str → Option Value} {h : Heap} (KX : K.In h) (G : h.Ns mainGlobals mg) (c : SaysZ facts defs_ tabs_ tfs w h K) : mg "is_one_of" = some (.ref (He.ga K "is_one_of")) := glo_ok KX G (c.fact 26)
theorem fa27 {w : World} {K : PySem.W.Frag} {mg : Str → Option Value} {h : Heap} (KX : K.In h) (G : h.Ns mainGlobals mg) (c : SaysZ facts defs_ tabs_ tfs w h K) : mg "check_habit" = some (.ref (He.ga K "check_habit")) := glo_ok KX G (c.fact 27)
theorem fa28 {w : World} {K : PySem.W.Frag} {mg : Str → Option Value} {h : Heap} (KX : K.In h) (G : h.Ns mainGlobals mg) (c : SaysZ facts defs_ tabs_ tfs w h K) : mg "check_state_habit" = some (.ref (He.ga K "check_state_habit")) := glo_ok KX G (c.fact 28)
theorem fa29 {w : World} {K : PySem.W.Frag} {mg : Str → Option Value} {h : Heap} (KX : K.In h) (G : h.Ns mainGlobals mg) (c : SaysZ facts defs_ tabs_ tfs w h K) : mg "bool" = none := free_ok KX G (c.fact 29)
theorem fa30 {w : World} {K : PySem.W.Frag} {mg : Str → Option Value} {h : Heap} (KX : K.In h) (G : h.Ns mainGlobals mg) (c : SaysZ facts defs_ tabs_ tfs w h K) : mg "is_whole" = some (.ref (He.ga K "is_whole")) := glo_ok KX G (c.fact 30)
theorem fa31 {w : World} {K : PySem.W.Frag} {mg : Str → Option Value} {h : Heap} (KX : K.In h) (G : h.Ns mainGlobals mg) (c : SaysZ facts defs_ tabs_ tfs w h K) : mg "is_between" = some (.ref (He.ga K "is_between")) := glo_ok KX G (c.fact 31)
theorem fa32 {w : World} {K : PySem.W.Frag} {mg : Str → Option Value} {h : Heap} (KX : K.In h) (G : h.Ns mainGlobals mg) (c : SaysZ facts defs_ tabs_ tfs w h K) : GlOk w K mg "MOST_NUMBER" (.int 99) := val_ok KX G (c.fact 32)
theorem fa33 {w : World} {K : PySem.W.Frag} {mg : Str → Option Value} {h : Heap} (KX : K.In h) (G : h.Ns mainGlobals mg) (c : SaysZ facts defs_ tabs_ tfs w h K) : mg "check_number" = some (.ref (He.ga K "check_number")) := glo_ok KX G (c.fact 33)
theorem fa34 {w : World} {K : PySem.W.Frag} {mg : Str → Option Value} {h : Heap} (KX : K.In h) (G : h.Ns mainGlobals mg) (c : SaysZ facts defs_ tabs_ tfs w h K) : mg "tuple" = none := free_ok KX G (c.fact 34)
theorem fa35 {w : World} {K : PySem.W.Frag} {mg : Str → Option Value} {h : Heap} (KX : K.In h) (G : h.Ns mainGlobals mg) (c : SaysZ facts defs_ tabs_ tfs w h K) : mg "is_tuple_of" = some (.ref (He.ga K "is_tuple_of")) := glo_ok KX G (c.fact 35)
theorem fa36 {w : World} {K : PySem.W.Frag} {mg : Str → Option Value} {h : Heap} (KX : K.In h) (G : h.Ns mainGlobals mg) (c : SaysZ facts defs_ tabs_ tfs w h K) : mg "is_pair" = some (.ref (He.ga K "is_pair")) := glo_ok KX G (c.fact 36)
theorem fa37 {w : World} {K : PySem.W.Frag} {mg : Str → Option Value} {h : Heap} (KX : K.In h) (G : h.Ns mainGlobals mg) (c : SaysZ facts defs_ tabs_ tfs w h K) : mg "all" = none := free_ok KX G (c.fact 37)
theorem fa38 {w : World} {K : PySem.W.Frag} {mg : Str → Option Value} {h : Heap} (KX : K.In h) (G : h.Ns mainGlobals mg) (c : SaysZ facts defs_ tabs_ tfs w h K) : mg "gcd" = some (.builtin "math.gcd") := blt_ok KX G (c.fact 38)
theorem fa39 {w : World} {K : PySem.W.Frag} {mg : Str → Option Value} {h : Heap} (KX : K.In h) (G : h.Ns mainGlobals mg) (c : SaysZ facts defs_ tabs_ tfs w h K) : mg "is_fraction" = some (.ref (He.ga K "is_fraction")) := glo_ok KX G (c.fact 39)
theorem fa40 {w : World} {K : PySem.W.Frag} {mg : Str → Option Value} {h : Heap} (KX : K.In h) (G : h.Ns mainGlobals mg) (c : SaysZ facts defs_ tabs_ tfs w h K) : GlOk w K mg "NOTHING" (.tup [.int 0, .int 1]) := val_ok KX G (c.fact 40)
theorem fa41 {w : World} {K : PySem.W.Frag} {mg : Str → Option Value} {h : Heap} (KX : K.In h) (G : h.Ns mainGlobals mg) (c : SaysZ facts defs_ tabs_ tfs w h K) : mg "is_less" = some (.ref (He.ga K "is_less")) := glo_ok KX G (c.fact 41)
theorem fa42 {w : World} {K : PySem.W.Frag} {mg : Str → Option Value} {h : Heap} (KX : K.In h) (G : h.Ns mainGlobals mg) (c : SaysZ facts defs_ tabs_ tfs w h K) : mg "Case" = some (.ref (He.ga K "Case")) := glo_ok KX G (c.fact 42)
theorem fa43 {w : World} {K : PySem.W.Frag} {mg : Str → Option Value} {h : Heap} (KX : K.In h) (G : h.Ns mainGlobals mg) (c : SaysZ facts defs_ tabs_ tfs w h K) : ClsI K (He.ga K "Case") := clsI_ok (c.fact 43)
theorem fa44 {w : World} {K : PySem.W.Frag} {mg : Str → Option Value} {h : Heap} (KX : K.In h) (G : h.Ns mainGlobals mg) (c : SaysZ facts defs_ tabs_ tfs w h K) : NoAttr K (He.ga K "Case") "all_of_it" := noat_ok (c.fact 44)
theorem fa45 {w : World} {K : PySem.W.Frag} {mg : Str → Option Value} {h : Heap} (KX : K.In h) (G : h.Ns mainGlobals mg) (c : SaysZ facts defs_ tabs_ tfs w h K) : mg "is_number" = some (.ref (He.ga K "is_number")) := glo_ok KX G (c.fact 45)
theorem fa46 {w : World} {K : PySem.W.Frag} {mg : Str → Option Value} {h : Heap} (KX : K.In h) (G : h.Ns mainGlobals mg) (c : SaysZ facts defs_ tabs_ tfs w h K) : GlOk w K mg "MOST_KINDS" (.int 8) := val_ok KX G (c.fact 46)
theorem fa47 {w : World} {K : PySem.W.Frag} {mg : Str → Option Value} {h : Heap} (KX : K.In h) (G : h.Ns mainGlobals mg) (c : SaysZ facts defs_ tabs_ tfs w h K) : mg "State" = some (.ref (He.ga K "State")) := glo_ok KX G (c.fact 47)
theorem fa48 {w : World} {K : PySem.W.Frag} {mg : Str → Option Value} {h : Heap} (KX : K.In h) (G : h.Ns mainGlobals mg) (c : SaysZ facts defs_ tabs_ tfs w h K) : ClsI K (He.ga K "State") := clsI_ok (c.fact 48)
theorem fa49 {w : World} {K : PySem.W.Frag} {mg : Str → Option Value} {h : Heap} (KX : K.In h) (G : h.Ns mainGlobals mg) (c : SaysZ facts defs_ tabs_ tfs w h K) : NoAttr K (He.ga K "State") "all_told" := noat_ok (c.fact 49)
theorem fa50 {w : World} {K : PySem.W.Frag} {mg : Str → Option Value} {h : Heap} (KX : K.In h) (G : h.Ns mainGlobals mg) (c : SaysZ facts defs_ tabs_ tfs w h K) : Mk K (He.ga K "State") (He.ma K (He.ga K "State") "__init__") := mkr_ok (c.fact 50)
theorem fa51 {w : World} {K : PySem.W.Frag} {mg : Str → Option Value} {h : Heap} (KX : K.In h) (G : h.Ns mainGlobals mg) (c : SaysZ facts defs_ tabs_ tfs w h K) : Mk K (He.ga K "Case") (He.ma K (He.ga K "Case") "__init__") := mkr_ok (c.fact 51)
theorem fa52 {w : World} {K : PySem.W.Frag} {mg : Str → Option Value} {h : Heap} (KX : K.In h) (G : h.Ns mainGlobals mg) (c : SaysZ facts defs_ tabs_ tfs w h K) : mg "_law_case" = some (.ref (He.ga K "_law_case")) := glo_ok KX G (c.fact 52)
theorem fa53 {w : World} {K : PySem.W.Frag} {mg : Str → Option Value} {h : Heap} (KX : K.In h) (G : h.Ns mainGlobals mg) (c : SaysZ facts defs_ tabs_ tfs w h K) : mg "list" = none := free_ok KX G (c.fact 53)
theorem fa54 {w : World} {K : PySem.W.Frag} {mg : Str → Option Value} {h : Heap} (KX : K.In h) (G : h.Ns mainGlobals mg) (c : SaysZ facts defs_ tabs_ tfs w h K) : mg "zip" = none := free_ok KX G (c.fact 54)
theorem fa55 {w : World} {K : PySem.W.Frag} {mg : Str → Option Value} {h : Heap} (KX : K.In h) (G : h.Ns mainGlobals mg) (c : SaysZ facts defs_ tabs_ tfs w h K) : mg "_law_same" = some (.ref (He.ga K "_law_same")) := glo_ok KX G (c.fact 55)
theorem fa56 {w : World} {K : PySem.W.Frag} {mg : Str → Option Value} {h : Heap} (KX : K.In h) (G : h.Ns mainGlobals mg) (c : SaysZ facts defs_ tabs_ tfs w h K) : mg "check_case" = some (.ref (He.ga K "check_case")) := glo_ok KX G (c.fact 56)
theorem fa57 {w : World} {K : PySem.W.Frag} {mg : Str → Option Value} {h : Heap} (KX : K.In h) (G : h.Ns mainGlobals mg) (c : SaysZ facts defs_ tabs_ tfs w h K) : GlOk w K mg "WORDS" (.tup [.str "mean", .str "surely", .str "first"]) := val_ok KX G (c.fact 57)
theorem fa58 {w : World} {K : PySem.W.Frag} {mg : Str → Option Value} {h : Heap} (KX : K.In h) (G : h.Ns mainGlobals mg) (c : SaysZ facts defs_ tabs_ tfs w h K) : GlOk w K mg "DONE" (.tup [.int 0, .int 0, .int 0]) := val_ok KX G (c.fact 58)
theorem fa59 {w : World} {K : PySem.W.Frag} {mg : Str → Option Value} {h : Heap} (KX : K.In h) (G : h.Ns mainGlobals mg) (c : SaysZ facts defs_ tabs_ tfs w h K) : mg "has_choice_statework" = some (.ref (He.ga K "has_choice_statework")) := glo_ok KX G (c.fact 59)
theorem fa60 {w : World} {K : PySem.W.Frag} {mg : Str → Option Value} {h : Heap} (KX : K.In h) (G : h.Ns mainGlobals mg) (c : SaysZ facts defs_ tabs_ tfs w h K) : GlOk w K mg "CHOICES" (.tup [.str "shut", .str "open"]) := val_ok KX G (c.fact 60)
theorem fa61 {w : World} {K : PySem.W.Frag} {mg : Str → Option Value} {h : Heap} (KX : K.In h) (G : h.Ns mainGlobals mg) (c : SaysZ facts defs_ tabs_ tfs w h K) : mg "choices_in" = some (.ref (He.ga K "choices_in")) := glo_ok KX G (c.fact 61)
theorem fa62 {w : World} {K : PySem.W.Frag} {mg : Str → Option Value} {h : Heap} (KX : K.In h) (G : h.Ns mainGlobals mg) (c : SaysZ facts defs_ tabs_ tfs w h K) : GlOk w K mg "WHOLE" (.tup [.int 1, .int 1]) := val_ok KX G (c.fact 62)
theorem fa63 {w : World} {K : PySem.W.Frag} {mg : Str → Option Value} {h : Heap} (KX : K.In h) (G : h.Ns mainGlobals mg) (c : SaysZ facts defs_ tabs_ tfs w h K) : mg "shut_in" = some (.ref (He.ga K "shut_in")) := glo_ok KX G (c.fact 63)
theorem fa64 {w : World} {K : PySem.W.Frag} {mg : Str → Option Value} {h : Heap} (KX : K.In h) (G : h.Ns mainGlobals mg) (c : SaysZ facts defs_ tabs_ tfs w h K) : mg "lowest" = some (.ref (He.ga K "lowest")) := glo_ok KX G (c.fact 64)
theorem fa65 {w : World} {K : PySem.W.Frag} {mg : Str → Option Value} {h : Heap} (KX : K.In h) (G : h.Ns mainGlobals mg) (c : SaysZ facts defs_ tabs_ tfs w h K) : GlOk w K mg "OPEN_statework" (.str "open") := val_ok KX G (c.fact 65)
theorem fa66 {w : World} {K : PySem.W.Frag} {mg : Str → Option Value} {h : Heap} (KX : K.In h) (G : h.Ns mainGlobals mg) (c : SaysZ facts defs_ tabs_ tfs w h K) : mg "second_by" = some (.ref (He.ga K "second_by")) := glo_ok KX G (c.fact 66)
theorem fa67 {w : World} {K : PySem.W.Frag} {mg : Str → Option Value} {h : Heap} (KX : K.In h) (G : h.Ns mainGlobals mg) (c : SaysZ facts defs_ tabs_ tfs w h K) : mg "times" = some (.ref (He.ga K "times")) := glo_ok KX G (c.fact 67)
theorem fa68 {w : World} {K : PySem.W.Frag} {mg : Str → Option Value} {h : Heap} (KX : K.In h) (G : h.Ns mainGlobals mg) (c : SaysZ facts defs_ tabs_ tfs w h K) : mg "turned" = some (.ref (He.ga K "turned")) := glo_ok KX G (c.fact 68)
theorem fa69 {w : World} {K : PySem.W.Frag} {mg : Str → Option Value} {h : Heap} (KX : K.In h) (G : h.Ns mainGlobals mg) (c : SaysZ facts defs_ tabs_ tfs w h K) : mg "order_of" = some (.ref (He.ga K "order_of")) := glo_ok KX G (c.fact 69)
theorem fa70 {w : World} {K : PySem.W.Frag} {mg : Str → Option Value} {h : Heap} (KX : K.In h) (G : h.Ns mainGlobals mg) (c : SaysZ facts defs_ tabs_ tfs w h K) : mg "sorted" = none := free_ok KX G (c.fact 70)
theorem fa71 {w : World} {K : PySem.W.Frag} {mg : Str → Option Value} {h : Heap} (KX : K.In h) (G : h.Ns mainGlobals mg) (c : SaysZ facts defs_ tabs_ tfs w h K) : mg "reached" = some (.ref (He.ga K "reached")) := glo_ok KX G (c.fact 71)
theorem fa72 {w : World} {K : PySem.W.Frag} {mg : Str → Option Value} {h : Heap} (KX : K.In h) (G : h.Ns mainGlobals mg) (c : SaysZ facts defs_ tabs_ tfs w h K) : mg "plus" = some (.ref (He.ga K "plus")) := glo_ok KX G (c.fact 72)
theorem fa73 {w : World} {K : PySem.W.Frag} {mg : Str → Option Value} {h : Heap} (KX : K.In h) (G : h.Ns mainGlobals mg) (c : SaysZ facts defs_ tabs_ tfs w h K) : mg "total" = some (.ref (He.ga K "total")) := glo_ok KX G (c.fact 73)
theorem fa74 {w : World} {K : PySem.W.Frag} {mg : Str → Option Value} {h : Heap} (KX : K.In h) (G : h.Ns mainGlobals mg) (c : SaysZ facts defs_ tabs_ tfs w h K) : GlOk w K mg "SHUT_statework" (.str "shut") := val_ok KX G (c.fact 74)
theorem fa75 {w : World} {K : PySem.W.Frag} {mg : Str → Option Value} {h : Heap} (KX : K.In h) (G : h.Ns mainGlobals mg) (c : SaysZ facts defs_ tabs_ tfs w h K) : GlOk w K mg "TURNS" (.str "turns") := val_ok KX G (c.fact 75)
theorem fa76 {w : World} {K : PySem.W.Frag} {mg : Str → Option Value} {h : Heap} (KX : K.In h) (G : h.Ns mainGlobals mg) (c : SaysZ facts defs_ tabs_ tfs w h K) : mg "choice_for" = some (.ref (He.ga K "choice_for")) := glo_ok KX G (c.fact 76)
theorem fa77 {w : World} {K : PySem.W.Frag} {mg : Str → Option Value} {h : Heap} (KX : K.In h) (G : h.Ns mainGlobals mg) (c : SaysZ facts defs_ tabs_ tfs w h K) : mg "mean_with" = some (.ref (He.ga K "mean_with")) := glo_ok KX G (c.fact 77)
theorem fa78 {w : World} {K : PySem.W.Frag} {mg : Str → Option Value} {h : Heap} (KX : K.In h) (G : h.Ns mainGlobals mg) (c : SaysZ facts defs_ tabs_ tfs w h K) : mg "habit_means" = some (.ref (He.ga K "habit_means")) := glo_ok KX G (c.fact 78)
theorem fa79 {w : World} {K : PySem.W.Frag} {mg : Str → Option Value} {h : Heap} (KX : K.In h) (G : h.Ns mainGlobals mg) (c : SaysZ facts defs_ tabs_ tfs w h K) : PropOf K (He.ga K "Case") "habit" (He.ma K (He.ga K "Case") "habit") (getterOf K (He.ma K (He.ga K "Case") "habit")) := prop_ok (c.fact 79)
theorem fa80 {w : World} {K : PySem.W.Frag} {mg : Str → Option Value} {h : Heap} (KX : K.In h) (G : h.Ns mainGlobals mg) (c : SaysZ facts defs_ tabs_ tfs w h K) : PropOf K (He.ga K "Case") "state" (He.ma K (He.ga K "Case") "state") (getterOf K (He.ma K (He.ga K "Case") "state")) := prop_ok (c.fact 80)
theorem fa81 {w : World} {K : PySem.W.Frag} {mg : Str → Option Value} {h : Heap} (KX : K.In h) (G : h.Ns mainGlobals mg) (c : SaysZ facts defs_ tabs_ tfs w h K) : PropOf K (He.ga K "State") "parts" (He.ma K (He.ga K "State") "parts") (getterOf K (He.ma K (He.ga K "State") "parts")) := prop_ok (c.fact 81)
theorem fa82 {w : World} {K : PySem.W.Frag} {mg : Str → Option Value} {h : Heap} (KX : K.In h) (G : h.Ns mainGlobals mg) (c : SaysZ facts defs_ tabs_ tfs w h K) : mg "habit_mean" = some (.ref (He.ga K "habit_mean")) := glo_ok KX G (c.fact 82)
theorem fa83 {w : World} {K : PySem.W.Frag} {mg : Str → Option Value} {h : Heap} (KX : K.In h) (G : h.Ns mainGlobals mg) (c : SaysZ facts defs_ tabs_ tfs w h K) : PropOf K (He.ga K "Case") "most" (He.ma K (He.ga K "Case") "most") (getterOf K (He.ma K (He.ga K "Case") "most")) := prop_ok (c.fact 83)
theorem fa84 {w : World} {K : PySem.W.Frag} {mg : Str → Option Value} {h : Heap} (KX : K.In h) (G : h.Ns mainGlobals mg) (c : SaysZ facts defs_ tabs_ tfs w h K) : GlOk w K mg "MEAN" (.str "mean") := val_ok KX G (c.fact 84)
theorem fa85 {w : World} {K : PySem.W.Frag} {mg : Str → Option Value} {h : Heap} (KX : K.In h) (G : h.Ns mainGlobals mg) (c : SaysZ facts defs_ tabs_ tfs w h K) : mg "worst_with" = some (.ref (He.ga K "worst_with")) := glo_ok KX G (c.fact 85)
theorem fa86 {w : World} {K : PySem.W.Frag} {mg : Str → Option Value} {h : Heap} (KX : K.In h) (G : h.Ns mainGlobals mg) (c : SaysZ facts defs_ tabs_ tfs w h K) : mg "worst_by" = some (.ref (He.ga K "worst_by")) := glo_ok KX G (c.fact 86)
theorem fa87 {w : World} {K : PySem.W.Frag} {mg : Str → Option Value} {h : Heap} (KX : K.In h) (G : h.Ns mainGlobals mg) (c : SaysZ facts defs_ tabs_ tfs w h K) : PropOf K (He.ga K "Case") "number" (He.ma K (He.ga K "Case") "number") (getterOf K (He.ma K (He.ga K "Case") "number")) := prop_ok (c.fact 87)
theorem fa88 {w : World} {K : PySem.W.Frag} {mg : Str → Option Value} {h : Heap} (KX : K.In h) (G : h.Ns mainGlobals mg) (c : SaysZ facts defs_ tabs_ tfs w h K) : GlOk w K mg "SURELY" (.str "surely") := val_ok KX G (c.fact 88)
theorem fa89 {w : World} {K : PySem.W.Frag} {mg : Str → Option Value} {h : Heap} (KX : K.In h) (G : h.Ns mainGlobals mg) (c : SaysZ facts defs_ tabs_ tfs w h K) : GlOk w K mg "OPEN_outcomework" (.str "open") := val_ok KX G (c.fact 89)
theorem fa90 {w : World} {K : PySem.W.Frag} {mg : Str → Option Value} {h : Heap} (KX : K.In h) (G : h.Ns mainGlobals mg) (c : SaysZ facts defs_ tabs_ tfs w h K) : mg "second_shut" = some (.ref (He.ga K "second_shut")) := glo_ok KX G (c.fact 90)
theorem fa91 {w : World} {K : PySem.W.Frag} {mg : Str → Option Value} {h : Heap} (KX : K.In h) (G : h.Ns mainGlobals mg) (c : SaysZ facts defs_ tabs_ tfs w h K) : mg "outcomes" = some (.ref (He.ga K "outcomes")) := glo_ok KX G (c.fact 91)
theorem fa92 {w : World} {K : PySem.W.Frag} {mg : Str → Option Value} {h : Heap} (KX : K.In h) (G : h.Ns mainGlobals mg) (c : SaysZ facts defs_ tabs_ tfs w h K) : GlOk w K mg "SHUT_outcomework" (.str "shut") := val_ok KX G (c.fact 92)
theorem fa93 {w : World} {K : PySem.W.Frag} {mg : Str → Option Value} {h : Heap} (KX : K.In h) (G : h.Ns mainGlobals mg) (c : SaysZ facts defs_ tabs_ tfs w h K) : mg "height_of" = some (.ref (He.ga K "height_of")) := glo_ok KX G (c.fact 93)
theorem fa94 {w : World} {K : PySem.W.Frag} {mg : Str → Option Value} {h : Heap} (KX : K.In h) (G : h.Ns mainGlobals mg) (c : SaysZ facts defs_ tabs_ tfs w h K) : mg "all_behind" = some (.ref (He.ga K "all_behind")) := glo_ok KX G (c.fact 94)
theorem fa95 {w : World} {K : PySem.W.Frag} {mg : Str → Option Value} {h : Heap} (KX : K.In h) (G : h.Ns mainGlobals mg) (c : SaysZ facts defs_ tabs_ tfs w h K) : mg "has_choice_outcomework" = some (.ref (He.ga K "has_choice_outcomework")) := glo_ok KX G (c.fact 95)
theorem fa96 {w : World} {K : PySem.W.Frag} {mg : Str → Option Value} {h : Heap} (KX : K.In h) (G : h.Ns mainGlobals mg) (c : SaysZ facts defs_ tabs_ tfs w h K) : mg "choices_of" = some (.ref (He.ga K "choices_of")) := glo_ok KX G (c.fact 96)
theorem fa97 {w : World} {K : PySem.W.Frag} {mg : Str → Option Value} {h : Heap} (KX : K.In h) (G : h.Ns mainGlobals mg) (c : SaysZ facts defs_ tabs_ tfs w h K) : mg "minus" = some (.ref (He.ga K "minus")) := glo_ok KX G (c.fact 97)
theorem fa98 {w : World} {K : PySem.W.Frag} {mg : Str → Option Value} {h : Heap} (KX : K.In h) (G : h.Ns mainGlobals mg) (c : SaysZ facts defs_ tabs_ tfs w h K) : mg "gain_behind" = some (.ref (He.ga K "gain_behind")) := glo_ok KX G (c.fact 98)
theorem fa99 {w : World} {K : PySem.W.Frag} {mg : Str → Option Value} {h : Heap} (KX : K.In h) (G : h.Ns mainGlobals mg) (c : SaysZ facts defs_ tabs_ tfs w h K) : mg "best_gain" = some (.ref (He.ga K "best_gain")) := glo_ok KX G (c.fact 99)
theorem fa100 {w : World} {K : PySem.W.Frag} {mg : Str → Option Value} {h : Heap} (KX : K.In h) (G : h.Ns mainGlobals mg) (c : SaysZ facts defs_ tabs_ tfs w h K) : mg "gains_of" = some (.ref (He.ga K "gains_of")) := glo_ok KX G (c.fact 100)
theorem fa101 {w : World} {K : PySem.W.Frag} {mg : Str → Option Value} {h : Heap} (KX : K.In h) (G : h.Ns mainGlobals mg) (c : SaysZ facts defs_ tabs_ tfs w h K) : GlOk w K mg "FIRST" (.str "first") := val_ok KX G (c.fact 101)
theorem fa102 {w : World} {K : PySem.W.Frag} {mg : Str → Option Value} {h : Heap} (KX : K.In h) (G : h.Ns mainGlobals mg) (c : SaysZ facts defs_ tabs_ tfs w h K) : mg "STORIES" = some (.ref (He.ga K "STORIES")) := glo_ok KX G (c.fact 102)
theorem fa103 {w : World} {K : PySem.W.Frag} {mg : Str → Option Value} {h : Heap} (KX : K.In h) (G : h.Ns mainGlobals mg) (c : SaysZ facts defs_ tabs_ tfs w h K) : PySem.W.nsIn K (He.ga K "STORIES") "mean" = some (some (.ref (He.ga K "mean_stories"))) := opO_ok (c.fact (f := .tabv "STORIES" "mean" "mean_stories") 103)
theorem fa104 {w : World} {K : PySem.W.Frag} {mg : Str → Option Value} {h : Heap} (KX : K.In h) (G : h.Ns mainGlobals mg) (c : SaysZ facts defs_ tabs_ tfs w h K) : PySem.W.nsIn K (He.ga K "STORIES") "surely" = some (some (.ref (He.ga K "surely_stories"))) := opO_ok (c.fact (f := .tabv "STORIES" "surely" "surely_stories") 104)
theorem fa105 {w : World} {K : PySem.W.Frag} {mg : Str → Option Value} {h : Heap} (KX : K.In h) (G : h.Ns mainGlobals mg) (c : SaysZ facts defs_ tabs_ tfs w h K) : PySem.W.nsIn K (He.ga K "STORIES") "first" = some (some (.ref (He.ga K "first_stories"))) := opO_ok (c.fact (f := .tabv "STORIES" "first" "first_stories") 105)
theorem fa106 {w : World} {K : PySem.W.Frag} {mg : Str → Option Value} {h : Heap} (KX : K.In h) (G : h.Ns mainGlobals mg) (c : SaysZ facts defs_ tabs_ tfs w h K) : mg "stories_by" = some (.ref (He.ga K "stories_by")) := glo_ok KX G (c.fact 106)
theorem fa107 {w : World} {K : PySem.W.Frag} {mg : Str → Option Value} {h : Heap} (KX : K.In h) (G : h.Ns mainGlobals mg) (c : SaysZ facts defs_ tabs_ tfs w h K) : mg "faults" = some (.ref (He.ga K "faults")) := glo_ok KX G (c.fact 107)
theorem fa108 {w : World} {K : PySem.W.Frag} {mg : Str → Option Value} {h : Heap} (KX : K.In h) (G : h.Ns mainGlobals mg) (c : SaysZ facts defs_ tabs_ tfs w h K) : mg "is_sound" = some (.ref (He.ga K "is_sound")) := glo_ok KX G (c.fact 108)
theorem fa109 {w : World} {K : PySem.W.Frag} {mg : Str → Option Value} {h : Heap} (KX : K.In h) (G : h.Ns mainGlobals mg) (c : SaysZ facts defs_ tabs_ tfs w h K) : mg "breaking" = some (.ref (He.ga K "breaking")) := glo_ok KX G (c.fact 109)
theorem fa110 {w : World} {K : PySem.W.Frag} {mg : Str → Option Value} {h : Heap} (KX : K.In h) (G : h.Ns mainGlobals mg) (c : SaysZ facts defs_ tabs_ tfs w h K) : mg "is_same" = some (.ref (He.ga K "is_same")) := glo_ok KX G (c.fact 110)
theorem fa111 {w : World} {K : PySem.W.Frag} {mg : Str → Option Value} {h : Heap} (KX : K.In h) (G : h.Ns mainGlobals mg) (c : SaysZ facts defs_ tabs_ tfs w h K) : mg "any" = none := free_ok KX G (c.fact 111)
theorem fa112 {w : World} {K : PySem.W.Frag} {mg : Str → Option Value} {h : Heap} (KX : K.In h) (G : h.Ns mainGlobals mg) (c : SaysZ facts defs_ tabs_ tfs w h K) : mg "does_break_by" = some (.ref (He.ga K "does_break_by")) := glo_ok KX G (c.fact 112)
theorem fa113 {w : World} {K : PySem.W.Frag} {mg : Str → Option Value} {h : Heap} (KX : K.In h) (G : h.Ns mainGlobals mg) (c : SaysZ facts defs_ tabs_ tfs w h K) : mg "does_break" = some (.ref (He.ga K "does_break")) := glo_ok KX G (c.fact 113)
theorem fa114 {w : World} {K : PySem.W.Frag} {mg : Str → Option Value} {h : Heap} (KX : K.In h) (G : h.Ns mainGlobals mg) (c : SaysZ facts defs_ tabs_ tfs w h K) : mg "_law_desk" = some (.ref (He.ga K "_law_desk")) := glo_ok KX G (c.fact 114)
theorem fa115 {w : World} {K : PySem.W.Frag} {mg : Str → Option Value} {h : Heap} (KX : K.In h) (G : h.Ns mainGlobals mg) (c : SaysZ facts defs_ tabs_ tfs w h K) : mg "_law_right" = some (.ref (He.ga K "_law_right")) := glo_ok KX G (c.fact 115)
theorem fa116 {w : World} {K : PySem.W.Frag} {mg : Str → Option Value} {h : Heap} (KX : K.In h) (G : h.Ns mainGlobals mg) (c : SaysZ facts defs_ tabs_ tfs w h K) : mg "law" = some (.ref (He.ga K "law")) := glo_ok KX G (c.fact 116)
theorem fa117 {w : World} {K : PySem.W.Frag} {mg : Str → Option Value} {h : Heap} (KX : K.In h) (G : h.Ns mainGlobals mg) (c : SaysZ facts defs_ tabs_ tfs w h K) : PySem.W.kitOne K (.ref (He.ga K "State")) (.ref (He.ga K "Case")) = some false := of_decide_eq_true (c.fact (f := .two "State" "Case") 117)
theorem fa118 {w : World} {K : PySem.W.Frag} {mg : Str → Option Value} {h : Heap} (KX : K.In h) (G : h.Ns mainGlobals mg) (c : SaysZ facts defs_ tabs_ tfs w h K) : PySem.W.kitOne K (.ref (He.ga K "Case")) (.ref (He.ga K "State")) = some false := of_decide_eq_true (c.fact (f := .two "Case" "State") 118)
theorem fa119 {w : World} {K : PySem.W.Frag} {mg : Str → Option Value} {h : Heap} (KX : K.In h) (G : h.Ns mainGlobals mg) (c : SaysZ facts defs_ tabs_ tfs w h K) : mg "mean_stories" = some (.ref (He.ga K "mean_stories")) := glo_ok KX G (c.fact 119)
theorem fa120 {w : World} {K : PySem.W.Frag} {mg : Str → Option Value} {h : Heap} (KX : K.In h) (G : h.Ns mainGlobals mg) (c : SaysZ facts defs_ tabs_ tfs w h K) : mg "surely_stories" = some (.ref (He.ga K "surely_stories")) := glo_ok KX G (c.fact 120)
theorem fa121 {w : World} {K : PySem.W.Frag} {mg : Str → Option Value} {h : Heap} (KX : K.In h) (G : h.Ns mainGlobals mg) (c : SaysZ facts defs_ tabs_ tfs w h K) : mg "first_stories" = some (.ref (He.ga K "first_stories")) := glo_ok KX G (c.fact 121)
abbrev clss : List Str := ["State", "Case"]
theorem clst {w : World} {K : PySem.W.Frag} {mg : Str → Option Value} {h : Heap} (KX : K.In h) (G : h.Ns mainGlobals mg) (c : SaysZ facts defs_ tabs_ tfs w h K) : ClsT K mg clss := by
  intro x hx
  simp only [clss, List.mem_cons, List.not_mem_nil, or_false] at hx
  rcases hx with hx | hx
  · subst hx
    refine ⟨_, (fa47 KX G c), (fa48 KX G c), fun y hy ne => ?_⟩
    simp only [clss, List.mem_cons, List.not_mem_nil, or_false] at hy
    rcases hy with hy | hy
    · exact absurd hy ne
    · subst hy
      exact ⟨_, (fa42 KX G c), (fa117 KX G c)⟩
  · subst hx
    refine ⟨_, (fa42 KX G c), (fa43 KX G c), fun y hy ne => ?_⟩
    simp only [clss, List.mem_cons, List.not_mem_nil, or_false] at hy
    rcases hy with hy | hy
    · subst hy
      exact ⟨_, (fa47 KX G c), (fa118 KX G c)⟩
    · exact absurd hy ne
/-! ### _law_slot -/
abbrev s__law_slot : Stmt := top 92
abbrev n__law_slot : List Str := ["desk", "many", "figure"]
abbrev p__law_slot : List Str := ["desk", "many"]
theorem nd__law_slot : n__law_slot.Nodup := by decide +kernel
theorem sc__law_slot : FnScope n__law_slot p__law_slot (defScope s__law_slot) := ⟨rfl, rfl, rfl, nd__law_slot, rfl, by decide +kernel, by decide +kernel⟩
def b__law_slot : MS := (mSeq (mIfS (mTst (mOp dGt (mOp dIx (mVar 0) (mC (.int 0))) (mC (.int 0)))) (mSeq (mAsg (mBi dDivmod (mCons (mOp dIx (mVar 0) (mC (.int 0))) (mCons (mVar 1) mNil))) (gTupM 2 (gConsM (gSubM (mVar 0) (mC (.int 0))) (gConsM (gN 2) gNilM)))) (mRet (mVar 2))) mNext) (mSeq (mAsg (mOp dAdd (mOp dIx (mVar 0) (mC (.int 2))) (mC (.int 1))) (gSubM (mVar 0) (mC (.int 2)))) (mSeq (mAsg (mOp dMod (mBi dInt (mCons (mOp dAdd (mOp dAdd (mOp dMul (mOp dIx (mVar 0) (mC (.int 1))) (mOp dAdd (mOp dMod (mBi dInt (mCons (mOp dIx (mVar 0) (mC (.int 1))) mNil)) (mC (.int 9791))) (mC (.int 47017)))) (mOp dMul (mC (.int 10223)) (mOp dIx (mVar 0) (mC (.int 2))))) (mC (.int 199))) mNil)) (mC (.int 2147482661))) (gSubM (mVar 0) (mC (.int 1)))) (mRet (mOp dMod (mBi dInt (mCons (mOp dDiv (mOp dIx (mVar 0) (mC (.int 1))) (mC (.int 541))) mNil)) (mVar 1))))))
def m__law_slot : List D → Sto → R D := fnM sealR 3 b__law_slot
section
variable {P : Program} {w : World} {K : PySem.W.Frag} {mg : Str → Option Value} {base h : Heap} (KX : K.In h) (G : h.Ns mainGlobals mg) (c : SaysZ facts defs_ tabs_ tfs w h K) (TB : ∀ p ∈ css K, LamX.TabB base mg p.1 p.2)
include KX G c TB
theorem body__law_slot : BodyOk P w K mg base (tbs K) 0 n__law_slot "_law_slot" s__law_slot ((.g "_law_slot" : DAt).ad K) b__law_slot := fun cdv A outer s H E hcdv hr =>
  (ess_cons (es_if (et_cmp op_gt od_gt (ev_ix (ev_var 0) ev_int) ev_int) (ess_cons (es_asg (ev_bi call_divmodF cd_divmod (fa4 KX G c) (by decide +kernel) (ea_cons (ev_ix (ev_var 0) ev_int) (ea_cons (ev_var 1) ea_nil))) (eg_tup rfl (egs_cons (eg_sub (ev_var 0) ev_int) (egs_cons (eg_name 2 nd__law_slot) egs_nil)))) (ess_one (es_ret (ev_var 2)))) ess_nil) (ess_cons (es_asg (ev_op op_addAll od_add (ev_ix (ev_var 0) ev_int) ev_int) (eg_sub (ev_var 0) ev_int)) (ess_cons (es_asg (ev_op op_mod od_mod (ev_bt call_int1 cd_int (fa5 KX G c) (by decide +kernel) (ea_cons (ev_op op_addAll od_add (ev_op op_addAll od_add (ev_op op_mulW od_mul (ev_ix (ev_var 0) ev_int) (ev_op op_addAll od_add (ev_op op_mod od_mod (ev_bt call_int1 cd_int (fa5 KX G c) (by decide +kernel) (ea_cons (ev_ix (ev_var 0) ev_int) ea_nil)) ev_int) ev_int)) (ev_op op_mulW od_mul ev_int (ev_ix (ev_var 0) ev_int))) ev_int) ea_nil)) ev_int) (eg_sub (ev_var 0) ev_int)) (ess_one (es_ret (ev_op op_mod od_mod (ev_bt call_int1 cd_int (fa5 KX G c) (by decide +kernel) (ea_cons (ev_op op_fdivW od_div (ev_ix (ev_var 0) ev_int) ev_int) ea_nil)) (ev_var 1)))))))
theorem has__law_slot : Has P w K mg base (tbs K) 1 ((.g "_law_slot" : DAt).ad K) p__law_slot m__law_slot :=
  has_of (ps := p__law_slot) (c.def_ 0) sc__law_slot sealR_ok (fun _ _ _ _ _ _ us hl => match us, hl with | [_, _], _ => rfl) (body__law_slot KX G c TB)
end
/-! ### _law_of -/
abbrev s__law_of : Stmt := top 93
abbrev n__law_of : List Str := ["desk", "some"]
abbrev p__law_of : List Str := ["desk", "some"]
theorem nd__law_of : n__law_of.Nodup := by decide +kernel
theorem sc__law_of : FnScope n__law_of p__law_of (defScope s__law_of) := ⟨rfl, rfl, rfl, nd__law_of, rfl, by decide +kernel, by decide +kernel⟩
def b__law_of : MS := (mRet (mOp dIx (mVar 1) (mCall 2 m__law_slot (mCons (mVar 0) (mCons (mBi dLen (mCons (mVar 1) mNil)) mNil)))))
def m__law_of : List D → Sto → R D := fnM sealR 2 b__law_of
section
variable {P : Program} {w : World} {K : PySem.W.Frag} {mg : Str → Option Value} {base h : Heap} (KX : K.In h) (G : h.Ns mainGlobals mg) (c : SaysZ facts defs_ tabs_ tfs w h K) (TB : ∀ p ∈ css K, LamX.TabB base mg p.1 p.2)
include KX G c TB
theorem body__law_of : BodyOk P w K mg base (tbs K) 1 n__law_of "_law_of" s__law_of ((.g "_law_of" : DAt).ad K) b__law_of := fun cdv A outer s H E hcdv hr =>
  (ess_one (es_ret (ev_ix (ev_var 1) (ev_callH (has__law_slot KX G c TB) (hr.mono (by decide)) (fa6 KX G c) tk_fn (ea_cons (ev_var 0) (ea_cons (ev_bi call_len cd_len (fa0 KX G c) (by decide +kernel) (ea_cons (ev_var 1) ea_nil)) ea_nil))))))
theorem has__law_of : Has P w K mg base (tbs K) 2 ((.g "_law_of" : DAt).ad K) p__law_of m__law_of :=
  has_of (ps := p__law_of) (c.def_ 1) sc__law_of sealR_ok (fun _ _ _ _ _ _ us hl => match us, hl with | [_, _], _ => rfl) (body__law_of KX G c TB)
end
/-! ### _law_parts -/
abbrev s__law_parts : Stmt := top 100
abbrev n__law_parts : List Str := ["desk", "most", "total_v", "ready", "single"]
abbrev p__law_parts : List Str := ["desk", "most"]
theorem nd__law_parts : n__law_parts.Nodup := by decide +kernel
theorem sc__law_parts : FnScope n__law_parts p__law_parts (defScope s__law_parts) := ⟨rfl, rfl, rfl, nd__law_parts, rfl, by decide +kernel, by decide +kernel⟩
def b__law_parts : MS := (mSeq (mAsg (mOp dAdd (mC (.int 1)) (mCall 2 m__law_slot (mCons (mVar 0) (mCons (mVar 1) mNil)))) (gN 2)) (mSeq (mAsg (mCall 2 m__law_of (mCons (mVar 0) (mCons (mLst (mCons (mC (.int 0)) (mCons (mC (.int 0)) (mCons (mC (.int 0)) (mCons (mC (.int 1)) (mCons (mC (.int 2)) mNil)))))) mNil))) (gN 3)) (mSeq (mAsg (mBi dMin2 (mCons (mVar 3) (mCons (mOp dSub (mVar 2) (mC (.int 1))) mNil))) (gN 3)) (mSeq (mAsg (mCall 2 m__law_slot (mCons (mVar 0) (mCons (mOp dAdd (mOp dSub (mVar 2) (mVar 3)) (mC (.int 1))) mNil))) (gN 4)) (mRet (mTup (mCons (mVar 3) (mCons (mVar 4) (mCons (mOp dSub (mOp dSub (mVar 2) (mVar 3)) (mVar 4)) mNil)))))))))
def m__law_parts : List D → Sto → R D := fnM sealR 5 b__law_parts
section
variable {P : Program} {w : World} {K : PySem.W.Frag} {mg : Str → Option Value} {base h : Heap} (KX : K.In h) (G : h.Ns mainGlobals mg) (c : SaysZ facts defs_ tabs_ tfs w h K) (TB : ∀ p ∈ css K, LamX.TabB base mg p.1 p.2)
include KX G c TB
theorem body__law_parts : BodyOk P w K mg base (tbs K) 2 n__law_parts "_law_parts" s__law_parts ((.g "_law_parts" : DAt).ad K) b__law_parts := fun cdv A outer s H E hcdv hr =>
  (ess_cons (es_asg (ev_op op_addAll od_add ev_int (ev_callH (has__law_slot KX G c TB) (hr.mono (by decide)) (fa6 KX G c) tk_fn (ea_cons (ev_var 0) (ea_cons (ev_var 1) ea_nil)))) (eg_name 2 nd__law_parts)) (ess_cons (es_asg (ev_callH (has__law_of KX G c TB) (hr.mono (by decide)) (fa7 KX G c) tk_fn (ea_cons (ev_var 0) (ea_cons (ev_lst (ea_cons ev_int (ea_cons ev_int (ea_cons ev_int (ea_cons ev_int (ea_cons ev_int ea_nil)))))) ea_nil))) (eg_name 3 nd__law_parts)) (ess_cons (es_asg (ev_bi (call_min2 rfl) cd_min2 (fa1 KX G c) (by decide +kernel) (ea_cons (ev_var 3) (ea_cons (ev_op op_sub od_sub (ev_var 2) ev_int) ea_nil))) (eg_name 3 nd__law_parts)) (ess_cons (es_asg (ev_callH (has__law_slot KX G c TB) (hr.mono (by decide)) (fa6 KX G c) tk_fn (ea_cons (ev_var 0) (ea_cons (ev_op op_addAll od_add (ev_op op_sub od_sub (ev_var 2) (ev_var 3)) ev_int) ea_nil))) (eg_name 4 nd__law_parts)) (ess_one (es_ret (ev_tup (ea_cons (ev_var 3) (ea_cons (ev_var 4) (ea_cons (ev_op op_sub od_sub (ev_op op_sub od_sub (ev_var 2) (ev_var 3)) (ev_var 4)) ea_nil))))))))))
theorem has__law_parts : Has P w K mg base (tbs K) 3 ((.g "_law_parts" : DAt).ad K) p__law_parts m__law_parts :=
  has_of (ps := p__law_parts) (c.def_ 2) sc__law_parts sealR_ok (fun _ _ _ _ _ _ us hl => match us, hl with | [_, _], _ => rfl) (body__law_parts KX G c TB)
end
/-! ### _law_low -/
abbrev s__law_low : Stmt := top 95
abbrev n__law_low : List Str := ["top", "under", "one", "two"]
abbrev p__law_low : List Str := ["top", "under"]
theorem nd__law_low : n__law_low.Nodup := by decide +kernel
theorem sc__law_low : FnScope n__law_low p__law_low (defScope s__law_low) := ⟨rfl, rfl, rfl, nd__law_low, rfl, by decide +kernel, by decide +kernel⟩
def b__law_low : MS := (mSeq (mPar 2 3 (mCons (mBi dAbs (mCons (mVar 0) mNil)) (mCons (mBi dAbs (mCons (mVar 1) mNil)) mNil))) (mSeq (whileM (mTst (mOp dGt (mVar 3) (mC (.int 0)))) (mPar 2 3 (mCons (mVar 3) (mCons (mOp dMod (mBi dInt (mCons (mVar 2) mNil)) (mVar 3)) mNil))) 100) (mSeq (mAsg (mIf (mTst (mOp dGt (mVar 1) (mC (.int 0)))) (mVar 2) (mOp dSub (mC (.int 0)) (mVar 2))) (gN 2)) (mRet (mTup (mCons (mOp dDiv (mVar 0) (mVar 2)) (mCons (mOp dDiv (mVar 1) (mVar 2)) mNil)))))))
def m__law_low : List D → Sto → R D := fnM sealR 4 b__law_low
section
variable {P : Program} {w : World} {K : PySem.W.Frag} {mg : Str → Option Value} {base h : Heap} (KX : K.In h) (G : h.Ns mainGlobals mg) (c : SaysZ facts defs_ tabs_ tfs w h K) (TB : ∀ p ∈ css K, LamX.TabB base mg p.1 p.2)
include KX G c TB
theorem body__law_low : BodyOk P w K mg base (tbs K) 0 n__law_low "_law_low" s__law_low ((.g "_law_low" : DAt).ad K) b__law_low := fun cdv A outer s H E hcdv hr =>
  (ess_cons (es_par 2 3 (hc := rfl) (hN := nd__law_low) (ha := (ea_cons (ev_bi call_abs cd_abs (fa9 KX G c) (by decide +kernel) (ea_cons (ev_var 0) ea_nil)) (ea_cons (ev_bi call_abs cd_abs (fa9 KX G c) (by decide +kernel) (ea_cons (ev_var 1) ea_nil)) ea_nil)))) (ess_cons (es_while 100 (et_cmp op_gt od_gt (ev_var 3) ev_int) (ess_one (es_par 2 3 (hc := rfl) (hN := nd__law_low) (ha := (ea_cons (ev_var 3) (ea_cons (ev_op op_mod od_mod (ev_bt call_int1 cd_int (fa5 KX G c) (by decide +kernel) (ea_cons (ev_var 2) ea_nil)) (ev_var 3)) ea_nil))))) po_fn) (ess_cons (es_asg (ev_if (et_cmp op_gt od_gt (ev_var 1) ev_int) (ev_var 2) (ev_op op_sub od_sub ev_int (ev_var 2))) (eg_name 2 nd__law_low)) (ess_one (es_ret (ev_tup (ea_cons (ev_op op_fdivW od_div (ev_var 0) (ev_var 2)) (ea_cons (ev_op op_fdivW od_div (ev_var 1) (ev_var 2)) ea_nil))))))))
theorem has__law_low : Has P w K mg base (tbs K) 1 ((.g "_law_low" : DAt).ad K) p__law_low m__law_low :=
  has_of (ps := p__law_low) (c.def_ 3) sc__law_low sealR_ok (fun _ _ _ _ _ _ us hl => match us, hl with | [_, _], _ => rfl) (body__law_low KX G c TB)
end
/-! ### _law_case_parts -/
abbrev s__law_case_parts : Stmt := top 106
abbrev n__law_case_parts : List Str := ["desk", "most", "state"]
abbrev p__law_case_parts : List Str := ["desk", "most"]
theorem nd__law_case_parts : n__law_case_parts.Nodup := by decide +kernel
theorem sc__law_case_parts : FnScope n__law_case_parts p__law_case_parts (defScope s__law_case_parts) := ⟨rfl, rfl, rfl, nd__law_case_parts, rfl, by decide +kernel, by decide +kernel⟩
def b__law_case_parts : MS := (mSeq (mAsg (mCall 2 m__law_parts (mCons (mVar 0) (mCons (mVar 1) mNil))) (gN 2)) (mRet (mTup (mCons (mVar 2) (mCons (mCall 2 m__law_of (mCons (mVar 0) (mCons (mLst (mCons (mC (.str "shut")) (mCons (mC (.str "open")) (mCons (mC (.str "turns")) mNil)))) mNil))) (mCons (mCall 2 m__law_slot (mCons (mVar 0) (mCons (mC (.int 10)) mNil))) (mCons (mCall 2 m__law_low (mCons (mCall 2 m__law_slot (mCons (mVar 0) (mCons (mC (.int 40)) mNil))) (mCons (mOp dAdd (mC (.int 1)) (mCall 2 m__law_slot (mCons (mVar 0) (mCons (mC (.int 4)) mNil)))) mNil))) mNil)))))))
def m__law_case_parts : List D → Sto → R D := fnM sealR 3 b__law_case_parts
section
variable {P : Program} {w : World} {K : PySem.W.Frag} {mg : Str → Option Value} {base h : Heap} (KX : K.In h) (G : h.Ns mainGlobals mg) (c : SaysZ facts defs_ tabs_ tfs w h K) (TB : ∀ p ∈ css K, LamX.TabB base mg p.1 p.2)
include KX G c TB
theorem body__law_case_parts : BodyOk P w K mg base (tbs K) 3 n__law_case_parts "_law_case_parts" s__law_case_parts ((.g "_law_case_parts" : DAt).ad K) b__law_case_parts := fun cdv A outer s H E hcdv hr =>
  (ess_cons (es_asg (ev_callH (has__law_parts KX G c TB) (hr.mono (by decide)) (fa8 KX G c) tk_fn (ea_cons (ev_var 0) (ea_cons (ev_var 1) ea_nil))) (eg_name 2 nd__law_case_parts)) (ess_one (es_ret (ev_tup (ea_cons (ev_var 2) (ea_cons (ev_callH (has__law_of KX G c TB) (hr.mono (by decide)) (fa7 KX G c) tk_fn (ea_cons (ev_var 0) (ea_cons (ev_lst (ea_cons ev_str (ea_cons ev_str (ea_cons ev_str ea_nil)))) ea_nil))) (ea_cons (ev_callH (has__law_slot KX G c TB) (hr.mono (by decide)) (fa6 KX G c) tk_fn (ea_cons (ev_var 0) (ea_cons ev_int ea_nil))) (ea_cons (ev_callH (has__law_low KX G c TB) (hr.mono (by decide)) (fa10 KX G c) tk_fn (ea_cons (ev_callH (has__law_slot KX G c TB) (hr.mono (by decide)) (fa6 KX G c) tk_fn (ea_cons (ev_var 0) (ea_cons ev_int ea_nil))) (ea_cons (ev_op op_addAll od_add ev_int (ev_callH (has__law_slot KX G c TB) (hr.mono (by decide)) (fa6 KX G c) tk_fn (ea_cons (ev_var 0) (ea_cons ev_int ea_nil)))) ea_nil))) ea_nil))))))))
theorem has__law_case_parts : Has P w K mg base (tbs K) 4 ((.g "_law_case_parts" : DAt).ad K) p__law_case_parts m__law_case_parts :=
  has_of (ps := p__law_case_parts) (c.def_ 4) sc__law_case_parts sealR_ok (fun _ _ _ _ _ _ us hl => match us, hl with | [_, _], _ => rfl) (body__law_case_parts KX G c TB)
end
/-! ### _law_plus -/
abbrev s__law_plus : Stmt := top 96
abbrev n__law_plus : List Str := ["one", "two"]
abbrev p__law_plus : List Str := ["one", "two"]
theorem nd__law_plus : n__law_plus.Nodup := by decide +kernel
theorem sc__law_plus : FnScope n__law_plus p__law_plus (defScope s__law_plus) := ⟨rfl, rfl, rfl, nd__law_plus, rfl, by decide +kernel, by decide +kernel⟩
def b__law_plus : MS := (mRet (mCall 2 m__law_low (mCons (mOp dAdd (mOp dMul (mOp dIx (mVar 0) (mC (.int 0))) (mOp dIx (mVar 1) (mC (.int 1)))) (mOp dMul (mOp dIx (mVar 1) (mC (.int 0))) (mOp dIx (mVar 0) (mC (.int 1))))) (mCons (mOp dMul (mOp dIx (mVar 0) (mC (.int 1))) (mOp dIx (mVar 1) (mC (.int 1)))) mNil))))
def m__law_plus : List D → Sto → R D := fnM sealR 2 b__law_plus
section
variable {P : Program} {w : World} {K : PySem.W.Frag} {mg : Str → Option Value} {base h : Heap} (KX : K.In h) (G : h.Ns mainGlobals mg) (c : SaysZ facts defs_ tabs_ tfs w h K) (TB : ∀ p ∈ css K, LamX.TabB base mg p.1 p.2)
include KX G c TB
theorem body__law_plus : BodyOk P w K mg base (tbs K) 1 n__law_plus "_law_plus" s__law_plus ((.g "_law_plus" : DAt).ad K) b__law_plus := fun cdv A outer s H E hcdv hr =>
  (ess_one (es_ret (ev_callH (has__law_low KX G c TB) (hr.mono (by decide)) (fa10 KX G c) tk_fn (ea_cons (ev_op op_addAll od_add (ev_op op_mulW od_mul (ev_ix (ev_var 0) ev_int) (ev_ix (ev_var 1) ev_int)) (ev_op op_mulW od_mul (ev_ix (ev_var 1) ev_int) (ev_ix (ev_var 0) ev_int))) (ea_cons (ev_op op_mulW od_mul (ev_ix (ev_var 0) ev_int) (ev_ix (ev_var 1) ev_int)) ea_nil)))))
theorem has__law_plus : Has P w K mg base (tbs K) 2 ((.g "_law_plus" : DAt).ad K) p__law_plus m__law_plus :=
  has_of (ps := p__law_plus) (c.def_ 5) sc__law_plus sealR_ok (fun _ _ _ _ _ _ us hl => match us, hl with | [_, _], _ => rfl) (body__law_plus KX G c TB)
end
/-! ### _law_branches -/
abbrev s__law_branches : Stmt := top 101
abbrev n__law_branches : List Str := ["single", "hidden", "rest"]
abbrev p__law_branches : List Str := ["single", "hidden"]
theorem nd__law_branches : n__law_branches.Nodup := by decide +kernel
theorem sc__law_branches : FnScope n__law_branches p__law_branches (defScope s__law_branches) := ⟨rfl, rfl, rfl, nd__law_branches, rfl, by decide +kernel, by decide +kernel⟩
def b__law_branches : MS := (mSeq (mAsg (mOp dSub (mOp dAdd (mVar 0) (mOp dMul (mC (.int 2)) (mVar 1))) (mC (.int 1))) (gN 2)) (mRet (mTup (mCons (mCall 2 m__law_low (mCons (mC (.int 1)) (mCons (mVar 2) mNil))) (mCons (mCall 2 m__law_low (mCons (mVar 0) (mCons (mVar 2) mNil))) (mCons (mCall 2 m__law_low (mCons (mOp dMul (mC (.int 2)) (mOp dSub (mVar 1) (mC (.int 1)))) (mCons (mVar 2) mNil))) mNil))))))
def m__law_branches : List D → Sto → R D := fnM sealR 3 b__law_branches
section
variable {P : Program} {w : World} {K : PySem.W.Frag} {mg : Str → Option Value} {base h : Heap} (KX : K.In h) (G : h.Ns mainGlobals mg) (c : SaysZ facts defs_ tabs_ tfs w h K) (TB : ∀ p ∈ css K, LamX.TabB base mg p.1 p.2)
include KX G c TB
theorem body__law_branches : BodyOk P w K mg base (tbs K) 1 n__law_branches "_law_branches" s__law_branches ((.g "_law_branches" : DAt).ad K) b__law_branches := fun cdv A outer s H E hcdv hr =>
  (ess_cons (es_asg (ev_op op_sub od_sub (ev_op op_addAll od_add (ev_var 0) (ev_op op_mulW od_mul ev_int (ev_var 1))) ev_int) (eg_name 2 nd__law_branches)) (ess_one (es_ret (ev_tup (ea_cons (ev_callH (has__law_low KX G c TB) (hr.mono (by decide)) (fa10 KX G c) tk_fn (ea_cons ev_int (ea_cons (ev_var 2) ea_nil))) (ea_cons (ev_callH (has__law_low KX G c TB) (hr.mono (by decide)) (fa10 KX G c) tk_fn (ea_cons (ev_var 0) (ea_cons (ev_var 2) ea_nil))) (ea_cons (ev_callH (has__law_low KX G c TB) (hr.mono (by decide)) (fa10 KX G c) tk_fn (ea_cons (ev_op op_mulW od_mul ev_int (ev_op op_sub od_sub (ev_var 1) ev_int)) (ea_cons (ev_var 2) ea_nil))) ea_nil)))))))
theorem has__law_branches : Has P w K mg base (tbs K) 2 ((.g "_law_branches" : DAt).ad K) p__law_branches m__law_branches :=
  has_of (ps := p__law_branches) (c.def_ 6) sc__law_branches sealR_ok (fun _ _ _ _ _ _ us hl => match us, hl with | [_, _], _ => rfl) (body__law_branches KX G c TB)
end
/-! ### _law_times -/
abbrev s__law_times : Stmt := top 98
abbrev n__law_times : List Str := ["one", "two"]
abbrev p__law_times : List Str := ["one", "two"]
theorem nd__law_times : n__law_times.Nodup := by decide +kernel
theorem sc__law_times : FnScope n__law_times p__law_times (defScope s__law_times) := ⟨rfl, rfl, rfl, nd__law_times, rfl, by decide +kernel, by decide +kernel⟩
def b__law_times : MS := (mRet (mCall 2 m__law_low (mCons (mOp dMul (mOp dIx (mVar 0) (mC (.int 0))) (mOp dIx (mVar 1) (mC (.int 0)))) (mCons (mOp dMul (mOp dIx (mVar 0) (mC (.int 1))) (mOp dIx (mVar 1) (mC (.int 1)))) mNil))))
def m__law_times : List D → Sto → R D := fnM sealR 2 b__law_times
section
variable {P : Program} {w : World} {K : PySem.W.Frag} {mg : Str → Option Value} {base h : Heap} (KX : K.In h) (G : h.Ns mainGlobals mg) (c : SaysZ facts defs_ tabs_ tfs w h K) (TB : ∀ p ∈ css K, LamX.TabB base mg p.1 p.2)
include KX G c TB
theorem body__law_times : BodyOk P w K mg base (tbs K) 1 n__law_times "_law_times" s__law_times ((.g "_law_times" : DAt).ad K) b__law_times := fun cdv A outer s H E hcdv hr =>
  (ess_one (es_ret (ev_callH (has__law_low KX G c TB) (hr.mono (by decide)) (fa10 KX G c) tk_fn (ea_cons (ev_op op_mulW od_mul (ev_ix (ev_var 0) ev_int) (ev_ix (ev_var 1) ev_int)) (ea_cons (ev_op op_mulW od_mul (ev_ix (ev_var 0) ev_int) (ev_ix (ev_var 1) ev_int)) ea_nil)))))
theorem has__law_times : Has P w K mg base (tbs K) 2 ((.g "_law_times" : DAt).ad K) p__law_times m__law_times :=
  has_of (ps := p__law_times) (c.def_ 7) sc__law_times sealR_ok (fun _ _ _ _ _ _ us hl => match us, hl with | [_, _], _ => rfl) (body__law_times KX G c TB)
end
/-! ### _law_up_to -/
abbrev s__law_up_to : Stmt := top 99
abbrev n__law_up_to : List Str := ["one", "two"]
abbrev p__law_up_to : List Str := ["one", "two"]
theorem nd__law_up_to : n__law_up_to.Nodup := by decide +kernel
theorem sc__law_up_to : FnScope n__law_up_to p__law_up_to (defScope s__law_up_to) := ⟨rfl, rfl, rfl, nd__law_up_to, rfl, by decide +kernel, by decide +kernel⟩
def b__law_up_to : MS := (mRet (mOp dLe (mOp dMul (mOp dIx (mVar 0) (mC (.int 0))) (mOp dIx (mVar 1) (mC (.int 1)))) (mOp dMul (mOp dIx (mVar 1) (mC (.int 0))) (mOp dIx (mVar 0) (mC (.int 1))))))
def m__law_up_to : List D → Sto → R D := fnM sealR 2 b__law_up_to
section
variable {P : Program} {w : World} {K : PySem.W.Frag} {mg : Str → Option Value} {base h : Heap} (KX : K.In h) (G : h.Ns mainGlobals mg) (c : SaysZ facts defs_ tabs_ tfs w h K) (TB : ∀ p ∈ css K, LamX.TabB base mg p.1 p.2)
include KX G c TB
theorem body__law_up_to : BodyOk P w K mg base (tbs K) 0 n__law_up_to "_law_up_to" s__law_up_to ((.g "_law_up_to" : DAt).ad K) b__law_up_to := fun cdv A outer s H E hcdv hr =>
  (ess_one (es_ret (ev_cmp op_le od_le (ev_op op_mulW od_mul (ev_ix (ev_var 0) ev_int) (ev_ix (ev_var 1) ev_int)) (ev_op op_mulW od_mul (ev_ix (ev_var 1) ev_int) (ev_ix (ev_var 0) ev_int)))))
theorem has__law_up_to : Has P w K mg base (tbs K) 1 ((.g "_law_up_to" : DAt).ad K) p__law_up_to m__law_up_to :=
  has_of (ps := p__law_up_to) (c.def_ 8) sc__law_up_to sealR_ok (fun _ _ _ _ _ _ us hl => match us, hl with | [_, _], _ => rfl) (body__law_up_to KX G c TB)
end
/-! ### _law_word -/
abbrev s__law_word : Stmt := top 102
abbrev n__law_word : List Str := ["habit", "single", "hidden"]
abbrev p__law_word : List Str := ["habit", "single", "hidden"]
theorem nd__law_word : n__law_word.Nodup := by decide +kernel
theorem sc__law_word : FnScope n__law_word p__law_word (defScope s__law_word) := ⟨rfl, rfl, rfl, nd__law_word, rfl, by decide +kernel, by decide +kernel⟩
def b__law_word : MS := (mSeq (mIfS (mTst (mOp dEq (mVar 1) (mC (.int 0)))) (mRet (mC (.str "shut"))) mNext) (mRet (mIf (mOr (mTst (mOp dEq (mVar 0) (mC (.str "open")))) (mAnd (mTst (mOp dEq (mVar 0) (mC (.str "turns")))) (mTst (mOp dEq (mOp dMod (mOp dSub (mOp dAdd (mVar 1) (mOp dMul (mC (.int 2)) (mVar 2))) (mC (.int 1))) (mC (.int 2))) (mC (.int 1)))))) (mC (.str "open")) (mC (.str "shut")))))
def m__law_word : List D → Sto → R D := fnM sealR 3 b__law_word
section
variable {P : Program} {w : World} {K : PySem.W.Frag} {mg : Str → Option Value} {base h : Heap} (KX : K.In h) (G : h.Ns mainGlobals mg) (c : SaysZ facts defs_ tabs_ tfs w h K) (TB : ∀ p ∈ css K, LamX.TabB base mg p.1 p.2)
include KX G c TB
theorem body__law_word : BodyOk P w K mg base (tbs K) 0 n__law_word "_law_word" s__law_word ((.g "_law_word" : DAt).ad K) b__law_word := fun cdv A outer s H E hcdv hr =>
  (ess_cons (es_if (et_cmp (op_eqD hr.units) od_eq (ev_var 1) ev_int) (ess_one (es_ret ev_str)) ess_nil) (ess_one (es_ret (ev_if (EvW.pt (ew_or (et_cmp (op_eqD hr.units) od_eq (ev_var 0) ev_str) (ew_or1 (EvW.pt (ew_and (et_cmp (op_eqD hr.units) od_eq (ev_var 0) ev_str) (ew_and1 (et_cmp (op_eqD hr.units) od_eq (ev_op op_mod od_mod (ev_op op_sub od_sub (ev_op op_addAll od_add (ev_var 1) (ev_op op_mulW od_mul ev_int (ev_var 2))) ev_int) ev_int) ev_int))))))) ev_str ev_str))))
theorem has__law_word : Has P w K mg base (tbs K) 1 ((.g "_law_word" : DAt).ad K) p__law_word m__law_word :=
  has_of (ps := p__law_word) (c.def_ 9) sc__law_word sealR_ok (fun _ _ _ _ _ _ us hl => match us, hl with | [_, _, _], _ => rfl) (body__law_word KX G c TB)
end
/-! ### _law_means -/
abbrev s__law_means : Stmt := top 103
abbrev n__law_means : List Str := ["most", "habit", "found", "hidden", "single", "cards", "luck", "fellow", "other", "shut", "opened", "behind"]
abbrev p__law_means : List Str := ["most", "habit"]
theorem nd__law_means : n__law_means.Nodup := by decide +kernel
theorem sc__law_means : FnScope n__law_means p__law_means (defScope s__law_means) := ⟨rfl, rfl, rfl, nd__law_means, rfl, by decide +kernel, by decide +kernel⟩
def b__law_means : MS := (mSeq (mAsg mDNewX (gN 2)) (mSeq (mFor (mRng1 (mCons (mOp dAdd (mVar 0) (mC (.int 1))) mNil)) (gN 3) (mFor (mRng1 (mCons (mOp dAdd (mOp dSub (mVar 0) (mVar 3)) (mC (.int 1))) mNil)) (gN 4) (mIfS (mTst (mOp dEq (mVar 3) (mC (.int 0)))) (mDPut (mVar 2) (mTup (mCons (mVar 4) (mCons (mC (.int 0)) mNil))) (mTup (mCons (mVar 4) (mCons (mC (.int 1)) mNil)))) (mSeq (mAsg (mOp dAdd (mVar 4) (mOp dMul (mC (.int 2)) (mVar 3))) (gN 5)) (mSeq (mAsg (mCall 2 m__law_branches (mCons (mVar 4) (mCons (mVar 3) mNil))) (gTupM 3 (gConsM (gN 6) (gConsM (gN 7) (gConsM (gN 8) gNilM))))) (mSeq (mAsg (mCall 2 m__law_plus (mCons (mCall 2 m__law_times (mCons (mVar 6) (mCons (mDGet (mVar 2) (mTup (mCons (mVar 4) (mCons (mOp dSub (mVar 3) (mC (.int 1))) mNil)))) mNil))) (mCons (mCall 2 m__law_times (mCons (mVar 7) (mCons (mCall 2 m__law_plus (mCons (mTup (mCons (mC (.int 1)) (mCons (mC (.int 1)) mNil))) (mCons (mDGet (mVar 2) (mTup (mCons (mVar 4) (mCons (mOp dSub (mVar 3) (mC (.int 1))) mNil)))) mNil))) mNil))) mNil))) (gN 9)) (mSeq (mAsg (mIf (mTst (mOp dGt (mVar 3) (mC (.int 1)))) (mCall 2 m__law_plus (mCons (mVar 9) (mCons (mCall 2 m__law_times (mCons (mVar 8) (mCons (mDGet (mVar 2) (mTup (mCons (mOp dAdd (mVar 4) (mC (.int 2))) (mCons (mOp dSub (mVar 3) (mC (.int 2))) mNil)))) mNil))) mNil))) (mVar 9)) (gN 9)) (mSeq (mAsg (mDGet (mVar 2) (mTup (mCons (mOp dAdd (mVar 4) (mC (.int 1))) (mCons (mOp dSub (mVar 3) (mC (.int 1))) mNil)))) (gN 10)) (mSeq (mIfS (mTst (mOp dIsN (mVar 1) (mC .non))) (mAsg (mIf (mAnd (mTst (mOp dGt (mVar 4) (mC (.int 0)))) (mTst (mCall 2 m__law_up_to (mCons (mVar 10) (mCons (mVar 9) mNil))))) (mVar 10) (mVar 9)) (gN 11)) (mAsg (mIf (mTst (mOp dEq (mCall 3 m__law_word (mCons (mVar 1) (mCons (mVar 4) (mCons (mVar 3) mNil)))) (mC (.str "open")))) (mVar 10) (mVar 9)) (gN 11))) (mSeq (mAsg (mCall 2 m__law_times (mCons (mCall 2 m__law_low (mCons (mOp dMul (mC (.int 2)) (mVar 3)) (mCons (mVar 5) mNil))) (mCons (mVar 11) mNil))) (gN 11)) (mSeq (mIfS (mTst (mOp dGt (mVar 4) (mC (.int 0)))) (mAsg (mCall 2 m__law_plus (mCons (mVar 11) (mCons (mCall 2 m__law_times (mCons (mCall 2 m__law_low (mCons (mVar 4) (mCons (mVar 5) mNil))) (mCons (mDGet (mVar 2) (mTup (mCons (mOp dSub (mVar 4) (mC (.int 1))) (mCons (mVar 3) mNil)))) mNil))) mNil))) (gN 11)) mNext) (mDPut (mVar 2) (mTup (mCons (mVar 4) (mCons (mVar 3) mNil))) (mCall 2 m__law_plus (mCons (mTup (mCons (mC (.int 1)) (mCons (mC (.int 1)) mNil))) (mCons (mVar 11) mNil))))))))))))))) (mRet (mVar 2))))
def m__law_means : List D → Sto → R D := fnM sealR 12 b__law_means
section
variable {P : Program} {w : World} {K : PySem.W.Frag} {mg : Str → Option Value} {base h : Heap} (KX : K.In h) (G : h.Ns mainGlobals mg) (c : SaysZ facts defs_ tabs_ tfs w h K) (TB : ∀ p ∈ css K, LamX.TabB base mg p.1 p.2)
include KX G c TB
theorem body__law_means : BodyOk P w K mg base (tbs K) 2 n__law_means "_law_means" s__law_means ((.g "_law_means" : DAt).ad K) b__law_means := fun cdv A outer s H E hcdv hr =>
  (ess_cons (es_asg ev_dnewX (eg_name 2 nd__law_means)) (ess_cons (es_for (ei_rng1 (fa3 KX G c) (ea_cons (ev_op op_addAll od_add (ev_var 0) ev_int) ea_nil)) (eg_name 3 nd__law_means) (ess_one (es_for (ei_rng1 (fa3 KX G c) (ea_cons (ev_op op_addAll od_add (ev_op op_sub od_sub (ev_var 0) (ev_var 3)) ev_int) ea_nil)) (eg_name 4 nd__law_means) (ess_one (es_if (et_cmp (op_eqD hr.units) od_eq (ev_var 3) ev_int) (ess_one (es_dput (hu_of hr) (ev_var 2) (ev_tup (ea_cons (ev_var 4) (ea_cons ev_int ea_nil))) (ev_tup (ea_cons (ev_var 4) (ea_cons ev_int ea_nil))))) (ess_cons (es_asg (ev_op op_addAll od_add (ev_var 4) (ev_op op_mulW od_mul ev_int (ev_var 3))) (eg_name 5 nd__law_means)) (ess_cons (es_asg (ev_callH (has__law_branches KX G c TB) (hr.mono (by decide)) (fa12 KX G c) tk_fn (ea_cons (ev_var 4) (ea_cons (ev_var 3) ea_nil))) (eg_tup rfl (egs_cons (eg_name 6 nd__law_means) (egs_cons (eg_name 7 nd__law_means) (egs_cons (eg_name 8 nd__law_means) egs_nil))))) (ess_cons (es_asg (ev_callH (has__law_plus KX G c TB) (hr.mono (by decide)) (fa13 KX G c) tk_fn (ea_cons (ev_callH (has__law_times KX G c TB) (hr.mono (by decide)) (fa14 KX G c) tk_fn (ea_cons (ev_var 6) (ea_cons (ev_dget (hu_of hr) (ev_var 2) (ev_tup (ea_cons (ev_var 4) (ea_cons (ev_op op_sub od_sub (ev_var 3) ev_int) ea_nil)))) ea_nil))) (ea_cons (ev_callH (has__law_times KX G c TB) (hr.mono (by decide)) (fa14 KX G c) tk_fn (ea_cons (ev_var 7) (ea_cons (ev_callH (has__law_plus KX G c TB) (hr.mono (by decide)) (fa13 KX G c) tk_fn (ea_cons (ev_tup (ea_cons ev_int (ea_cons ev_int ea_nil))) (ea_cons (ev_dget (hu_of hr) (ev_var 2) (ev_tup (ea_cons (ev_var 4) (ea_cons (ev_op op_sub od_sub (ev_var 3) ev_int) ea_nil)))) ea_nil))) ea_nil))) ea_nil))) (eg_name 9 nd__law_means)) (ess_cons (es_asg (ev_if (et_cmp op_gt od_gt (ev_var 3) ev_int) (ev_callH (has__law_plus KX G c TB) (hr.mono (by decide)) (fa13 KX G c) tk_fn (ea_cons (ev_var 9) (ea_cons (ev_callH (has__law_times KX G c TB) (hr.mono (by decide)) (fa14 KX G c) tk_fn (ea_cons (ev_var 8) (ea_cons (ev_dget (hu_of hr) (ev_var 2) (ev_tup (ea_cons (ev_op op_addAll od_add (ev_var 4) ev_int) (ea_cons (ev_op op_sub od_sub (ev_var 3) ev_int) ea_nil)))) ea_nil))) ea_nil))) (ev_var 9)) (eg_name 9 nd__law_means)) (ess_cons (es_asg (ev_dget (hu_of hr) (ev_var 2) (ev_tup (ea_cons (ev_op op_addAll od_add (ev_var 4) ev_int) (ea_cons (ev_op op_sub od_sub (ev_var 3) ev_int) ea_nil)))) (eg_name 10 nd__law_means)) (ess_cons (es_if (et_cmp op_isN od_isN (ev_var 1) ev_non) (ess_one (es_asg (ev_if (EvW.pt (ew_and (et_cmp op_gt od_gt (ev_var 4) ev_int) (ew_and1 (et_val (ev_callH (has__law_up_to KX G c TB) (hr.mono (by decide)) (fa15 KX G c) tk_fn (ea_cons (ev_var 10) (ea_cons (ev_var 9) ea_nil))))))) (ev_var 10) (ev_var 9)) (eg_name 11 nd__law_means))) (ess_one (es_asg (ev_if (et_cmp (op_eqD hr.units) od_eq (ev_callH (has__law_word KX G c TB) (hr.mono (by decide)) (fa16 KX G c) tk_fn (ea_cons (ev_var 1) (ea_cons (ev_var 4) (ea_cons (ev_var 3) ea_nil)))) ev_str) (ev_var 10) (ev_var 9)) (eg_name 11 nd__law_means)))) (ess_cons (es_asg (ev_callH (has__law_times KX G c TB) (hr.mono (by decide)) (fa14 KX G c) tk_fn (ea_cons (ev_callH (has__law_low KX G c TB) (hr.mono (by decide)) (fa10 KX G c) tk_fn (ea_cons (ev_op op_mulW od_mul ev_int (ev_var 3)) (ea_cons (ev_var 5) ea_nil))) (ea_cons (ev_var 11) ea_nil))) (eg_name 11 nd__law_means)) (ess_cons (es_if (et_cmp op_gt od_gt (ev_var 4) ev_int) (ess_one (es_asg (ev_callH (has__law_plus KX G c TB) (hr.mono (by decide)) (fa13 KX G c) tk_fn (ea_cons (ev_var 11) (ea_cons (ev_callH (has__law_times KX G c TB) (hr.mono (by decide)) (fa14 KX G c) tk_fn (ea_cons (ev_callH (has__law_low KX G c TB) (hr.mono (by decide)) (fa10 KX G c) tk_fn (ea_cons (ev_var 4) (ea_cons (ev_var 5) ea_nil))) (ea_cons (ev_dget (hu_of hr) (ev_var 2) (ev_tup (ea_cons (ev_op op_sub od_sub (ev_var 4) ev_int) (ea_cons (ev_var 3) ea_nil)))) ea_nil))) ea_nil))) (eg_name 11 nd__law_means))) ess_nil) (ess_one (es_dput (hu_of hr) (ev_var 2) (ev_tup (ea_cons (ev_var 4) (ea_cons (ev_var 3) ea_nil))) (ev_callH (has__law_plus KX G c TB) (hr.mono (by decide)) (fa13 KX G c) tk_fn (ea_cons (ev_tup (ea_cons ev_int (ea_cons ev_int ea_nil))) (ea_cons (ev_var 11) ea_nil))))))))))))))) po_fn)) po_fn) (ess_one (es_ret (ev_var 2)))))
theorem has__law_means : Has P w K mg base (tbs K) 3 ((.g "_law_means" : DAt).ad K) p__law_means m__law_means :=
  has_of (ps := p__law_means) (c.def_ 10) sc__law_means sealR_ok (fun _ _ _ _ _ _ us hl => match us, hl with | [_, _], _ => rfl) (body__law_means KX G c TB)
end
/-! ### _law_worst -/
abbrev s__law_worst : Stmt := top 104
abbrev n__law_worst : List Str := ["most", "found", "hidden", "single", "shut", "behind"]
abbrev p__law_worst : List Str := ["most"]
theorem nd__law_worst : n__law_worst.Nodup := by decide +kernel
theorem sc__law_worst : FnScope n__law_worst p__law_worst (defScope s__law_worst) := ⟨rfl, rfl, rfl, nd__law_worst, rfl, by decide +kernel, by decide +kernel⟩
def b__law_worst : MS := (mSeq (mAsg mDNewX (gN 1)) (mSeq (mFor (mRng1 (mCons (mOp dAdd (mVar 0) (mC (.int 1))) mNil)) (gN 2) (mFor (mRng1 (mCons (mOp dAdd (mOp dSub (mVar 0) (mVar 2)) (mC (.int 1))) mNil)) (gN 3) (mIfS (mTst (mOp dEq (mVar 2) (mC (.int 0)))) (mDPut (mVar 1) (mTup (mCons (mVar 3) (mCons (mC (.int 0)) mNil))) (mVar 3)) (mSeq (mAsg (mOp dAdd (mOp dAdd (mLst (mCons (mDGet (mVar 1) (mTup (mCons (mVar 3) (mCons (mOp dSub (mVar 2) (mC (.int 1))) mNil)))) mNil)) (mIf (mTst (mOp dGt (mVar 3) (mC (.int 0)))) (mLst (mCons (mOp dAdd (mDGet (mVar 1) (mTup (mCons (mVar 3) (mCons (mOp dSub (mVar 2) (mC (.int 1))) mNil)))) (mC (.int 1))) mNil)) (mLst mNil))) (mIf (mTst (mOp dGt (mVar 2) (mC (.int 1)))) (mLst (mCons (mDGet (mVar 1) (mTup (mCons (mOp dAdd (mVar 3) (mC (.int 2))) (mCons (mOp dSub (mVar 2) (mC (.int 2))) mNil)))) mNil)) (mLst mNil))) (gN 4)) (mSeq (mAsg (mIf (mTst (mOp dGt (mVar 3) (mC (.int 0)))) (mBi dMin2 (mCons (mBi dMaxL (mCons (mVar 4) mNil)) (mCons (mDGet (mVar 1) (mTup (mCons (mOp dAdd (mVar 3) (mC (.int 1))) (mCons (mOp dSub (mVar 2) (mC (.int 1))) mNil)))) mNil))) (mBi dMaxL (mCons (mVar 4) mNil))) (gN 5)) (mDPut (mVar 1) (mTup (mCons (mVar 3) (mCons (mVar 2) mNil))) (mOp dAdd (mC (.int 1)) (mBi dMaxL (mCons (mOp dAdd (mLst (mCons (mVar 5) mNil)) (mIf (mTst (mOp dGt (mVar 3) (mC (.int 0)))) (mLst (mCons (mDGet (mVar 1) (mTup (mCons (mOp dSub (mVar 3) (mC (.int 1))) (mCons (mVar 2) mNil)))) mNil)) (mLst mNil))) mNil))))))))) (mRet (mVar 1))))
def m__law_worst : List D → Sto → R D := fnM sealR 6 b__law_worst
section
variable {P : Program} {w : World} {K : PySem.W.Frag} {mg : Str → Option Value} {base h : Heap} (KX : K.In h) (G : h.Ns mainGlobals mg) (c : SaysZ facts defs_ tabs_ tfs w h K) (TB : ∀ p ∈ css K, LamX.TabB base mg p.1 p.2)
include KX G c TB
theorem body__law_worst : BodyOk P w K mg base (tbs K) 0 n__law_worst "_law_worst" s__law_worst ((.g "_law_worst" : DAt).ad K) b__law_worst := fun cdv A outer s H E hcdv hr =>
  (ess_cons (es_asg ev_dnewX (eg_name 1 nd__law_worst)) (ess_cons (es_for (ei_rng1 (fa3 KX G c) (ea_cons (ev_op op_addAll od_add (ev_var 0) ev_int) ea_nil)) (eg_name 2 nd__law_worst) (ess_one (es_for (ei_rng1 (fa3 KX G c) (ea_cons (ev_op op_addAll od_add (ev_op op_sub od_sub (ev_var 0) (ev_var 2)) ev_int) ea_nil)) (eg_name 3 nd__law_worst) (ess_one (es_if (et_cmp (op_eqD hr.units) od_eq (ev_var 2) ev_int) (ess_one (es_dput (hu_of hr) (ev_var 1) (ev_tup (ea_cons (ev_var 3) (ea_cons ev_int ea_nil))) (ev_var 3))) (ess_cons (es_asg (ev_op op_addAll od_add (ev_op op_addAll od_add (ev_lst (ea_cons (ev_dget (hu_of hr) (ev_var 1) (ev_tup (ea_cons (ev_var 3) (ea_cons (ev_op op_sub od_sub (ev_var 2) ev_int) ea_nil)))) ea_nil)) (ev_if (et_cmp op_gt od_gt (ev_var 3) ev_int) (ev_lst (ea_cons (ev_op op_addAll od_add (ev_dget (hu_of hr) (ev_var 1) (ev_tup (ea_cons (ev_var 3) (ea_cons (ev_op op_sub od_sub (ev_var 2) ev_int) ea_nil)))) ev_int) ea_nil)) (ev_lst ea_nil))) (ev_if (et_cmp op_gt od_gt (ev_var 2) ev_int) (ev_lst (ea_cons (ev_dget (hu_of hr) (ev_var 1) (ev_tup (ea_cons (ev_op op_addAll od_add (ev_var 3) ev_int) (ea_cons (ev_op op_sub od_sub (ev_var 2) ev_int) ea_nil)))) ea_nil)) (ev_lst ea_nil))) (eg_name 4 nd__law_worst)) (ess_cons (es_asg (ev_if (et_cmp op_gt od_gt (ev_var 3) ev_int) (ev_bi (call_min2 rfl) cd_min2 (fa1 KX G c) (by decide +kernel) (ea_cons (ev_bi (cr_max rfl) cd_maxL (fa2 KX G c) (by decide +kernel) (ea_cons (ev_var 4) ea_nil)) (ea_cons (ev_dget (hu_of hr) (ev_var 1) (ev_tup (ea_cons (ev_op op_addAll od_add (ev_var 3) ev_int) (ea_cons (ev_op op_sub od_sub (ev_var 2) ev_int) ea_nil)))) ea_nil))) (ev_bi (cr_max rfl) cd_maxL (fa2 KX G c) (by decide +kernel) (ea_cons (ev_var 4) ea_nil))) (eg_name 5 nd__law_worst)) (ess_one (es_dput (hu_of hr) (ev_var 1) (ev_tup (ea_cons (ev_var 3) (ea_cons (ev_var 2) ea_nil))) (ev_op op_addAll od_add ev_int (ev_bi (cr_max rfl) cd_maxL (fa2 KX G c) (by decide +kernel) (ea_cons (ev_op op_addAll od_add (ev_lst (ea_cons (ev_var 5) ea_nil)) (ev_if (et_cmp op_gt od_gt (ev_var 3) ev_int) (ev_lst (ea_cons (ev_dget (hu_of hr) (ev_var 1) (ev_tup (ea_cons (ev_op op_sub od_sub (ev_var 3) ev_int) (ea_cons (ev_var 2) ea_nil)))) ea_nil)) (ev_lst ea_nil))) ea_nil))))))))) po_fn)) po_fn) (ess_one (es_ret (ev_var 1)))))
theorem has__law_worst : Has P w K mg base (tbs K) 1 ((.g "_law_worst" : DAt).ad K) p__law_worst m__law_worst :=
  has_of (ps := p__law_worst) (c.def_ 11) sc__law_worst sealR_ok (fun _ _ _ _ _ _ us hl => match us, hl with | [_], _ => rfl) (body__law_worst KX G c TB)
end
/-! ### _law_less -/
abbrev s__law_less : Stmt := top 97
abbrev n__law_less : List Str := ["one", "two"]
abbrev p__law_less : List Str := ["one", "two"]
theorem nd__law_less : n__law_less.Nodup := by decide +kernel
theorem sc__law_less : FnScope n__law_less p__law_less (defScope s__law_less) := ⟨rfl, rfl, rfl, nd__law_less, rfl, by decide +kernel, by decide +kernel⟩
def b__law_less : MS := (mRet (mCall 2 m__law_low (mCons (mOp dSub (mOp dMul (mOp dIx (mVar 0) (mC (.int 0))) (mOp dIx (mVar 1) (mC (.int 1)))) (mOp dMul (mOp dIx (mVar 1) (mC (.int 0))) (mOp dIx (mVar 0) (mC (.int 1))))) (mCons (mOp dMul (mOp dIx (mVar 0) (mC (.int 1))) (mOp dIx (mVar 1) (mC (.int 1)))) mNil))))
def m__law_less : List D → Sto → R D := fnM sealR 2 b__law_less
section
variable {P : Program} {w : World} {K : PySem.W.Frag} {mg : Str → Option Value} {base h : Heap} (KX : K.In h) (G : h.Ns mainGlobals mg) (c : SaysZ facts defs_ tabs_ tfs w h K) (TB : ∀ p ∈ css K, LamX.TabB base mg p.1 p.2)
include KX G c TB
theorem body__law_less : BodyOk P w K mg base (tbs K) 1 n__law_less "_law_less" s__law_less ((.g "_law_less" : DAt).ad K) b__law_less := fun cdv A outer s H E hcdv hr =>
  (ess_one (es_ret (ev_callH (has__law_low KX G c TB) (hr.mono (by decide)) (fa10 KX G c) tk_fn (ea_cons (ev_op op_sub od_sub (ev_op op_mulW od_mul (ev_ix (ev_var 0) ev_int) (ev_ix (ev_var 1) ev_int)) (ev_op op_mulW od_mul (ev_ix (ev_var 1) ev_int) (ev_ix (ev_var 0) ev_int))) (ea_cons (ev_op op_mulW od_mul (ev_ix (ev_var 0) ev_int) (ev_ix (ev_var 1) ev_int)) ea_nil)))))
theorem has__law_less : Has P w K mg base (tbs K) 2 ((.g "_law_less" : DAt).ad K) p__law_less m__law_less :=
  has_of (ps := p__law_less) (c.def_ 12) sc__law_less sealR_ok (fun _ _ _ _ _ _ us hl => match us, hl with | [_, _], _ => rfl) (body__law_less KX G c TB)
end
/-! ### _law_gains -/
abbrev s__law_gains : Stmt := top 105
abbrev n__law_gains : List Str := ["most", "found", "hidden", "single", "cards", "more", "luck", "fellow", "other", "shut", "opened", "behind"]
abbrev p__law_gains : List Str := ["most"]
theorem nd__law_gains : n__law_gains.Nodup := by decide +kernel
theorem sc__law_gains : FnScope n__law_gains p__law_gains (defScope s__law_gains) := ⟨rfl, rfl, rfl, nd__law_gains, rfl, by decide +kernel, by decide +kernel⟩
def b__law_gains : MS := (mSeq (mAsg mDNewX (gN 1)) (mSeq (mFor (mRng1 (mCons (mOp dAdd (mVar 0) (mC (.int 1))) mNil)) (gN 2) (mFor (mRng1 (mCons (mOp dAdd (mOp dSub (mVar 0) (mVar 2)) (mC (.int 1))) mNil)) (gN 3) (mIfS (mTst (mOp dEq (mVar 2) (mC (.int 0)))) (mDPut (mVar 1) (mTup (mCons (mVar 3) (mCons (mC (.int 0)) mNil))) (mTup (mCons (mVar 3) (mCons (mC (.int 1)) mNil)))) (mSeq (mPar 4 5 (mCons (mOp dAdd (mVar 3) (mOp dMul (mC (.int 2)) (mVar 2))) (mCons (mCall 2 m__law_plus (mCons (mTup (mCons (mC (.int 1)) (mCons (mC (.int 1)) mNil))) (mCons (mDGet (mVar 1) (mTup (mCons (mVar 3) (mCons (mOp dSub (mVar 2) (mC (.int 1))) mNil)))) mNil))) mNil))) (mSeq (mAsg (mCall 2 m__law_branches (mCons (mVar 3) (mCons (mVar 2) mNil))) (gTupM 3 (gConsM (gN 6) (gConsM (gN 7) (gConsM (gN 8) gNilM))))) (mSeq (mAsg (mCall 2 m__law_less (mCons (mCall 2 m__law_times (mCons (mVar 6) (mCons (mVar 5) mNil))) (mCons (mCall 2 m__law_times (mCons (mVar 7) (mCons (mVar 5) mNil))) mNil))) (gN 9)) (mSeq (mAsg (mIf (mTst (mOp dGt (mVar 2) (mC (.int 1)))) (mCall 2 m__law_less (mCons (mVar 9) (mCons (mCall 2 m__law_times (mCons (mVar 8) (mCons (mDGet (mVar 1) (mTup (mCons (mOp dAdd (mVar 3) (mC (.int 2))) (mCons (mOp dSub (mVar 2) (mC (.int 2))) mNil)))) mNil))) mNil))) (mVar 9)) (gN 9)) (mSeq (mAsg (mCall 2 m__law_less (mCons (mTup (mCons (mC (.int 0)) (mCons (mC (.int 1)) mNil))) (mCons (mDGet (mVar 1) (mTup (mCons (mOp dAdd (mVar 3) (mC (.int 1))) (mCons (mOp dSub (mVar 2) (mC (.int 1))) mNil)))) mNil))) (gN 10)) (mSeq (mAsg (mCall 2 m__law_times (mCons (mCall 2 m__law_low (mCons (mOp dMul (mC (.int 2)) (mVar 2)) (mCons (mVar 4) mNil))) (mCons (mIf (mAnd (mTst (mOp dGt (mVar 3) (mC (.int 0)))) (mTst (mCall 2 m__law_up_to (mCons (mVar 9) (mCons (mVar 10) mNil))))) (mVar 10) (mVar 9)) mNil))) (gN 11)) (mSeq (mIfS (mTst (mOp dGt (mVar 3) (mC (.int 0)))) (mAsg (mCall 2 m__law_plus (mCons (mVar 11) (mCons (mCall 2 m__law_times (mCons (mCall 2 m__law_low (mCons (mVar 3) (mCons (mVar 4) mNil))) (mCons (mCall 2 m__law_plus (mCons (mTup (mCons (mC (.int 1)) (mCons (mC (.int 1)) mNil))) (mCons (mDGet (mVar 1) (mTup (mCons (mOp dSub (mVar 3) (mC (.int 1))) (mCons (mVar 2) mNil)))) mNil))) mNil))) mNil))) (gN 11)) mNext) (mDPut (mVar 1) (mTup (mCons (mVar 3) (mCons (mVar 2) mNil))) (mVar 11)))))))))))) (mRet (mVar 1))))
def m__law_gains : List D → Sto → R D := fnM sealR 12 b__law_gains
section
variable {P : Program} {w : World} {K : PySem.W.Frag} {mg : Str → Option Value} {base h : Heap} (KX : K.In h) (G : h.Ns mainGlobals mg) (c : SaysZ facts defs_ tabs_ tfs w h K) (TB : ∀ p ∈ css K, LamX.TabB base mg p.1 p.2)
include KX G c TB
theorem body__law_gains : BodyOk P w K mg base (tbs K) 2 n__law_gains "_law_gains" s__law_gains ((.g "_law_gains" : DAt).ad K) b__law_gains := fun cdv A outer s H E hcdv hr =>
  (ess_cons (es_asg ev_dnewX (eg_name 1 nd__law_gains)) (ess_cons (es_for (ei_rng1 (fa3 KX G c) (ea_cons (ev_op op_addAll od_add (ev_var 0) ev_int) ea_nil)) (eg_name 2 nd__law_gains) (ess_one (es_for (ei_rng1 (fa3 KX G c) (ea_cons (ev_op op_addAll od_add (ev_op op_sub od_sub (ev_var 0) (ev_var 2)) ev_int) ea_nil)) (eg_name 3 nd__law_gains) (ess_one (es_if (et_cmp (op_eqD hr.units) od_eq (ev_var 2) ev_int) (ess_one (es_dput (hu_of hr) (ev_var 1) (ev_tup (ea_cons (ev_var 3) (ea_cons ev_int ea_nil))) (ev_tup (ea_cons (ev_var 3) (ea_cons ev_int ea_nil))))) (ess_cons (es_par 4 5 (hc := rfl) (hN := nd__law_gains) (ha := (ea_cons (ev_op op_addAll od_add (ev_var 3) (ev_op op_mulW od_mul ev_int (ev_var 2))) (ea_cons (ev_callH (has__law_plus KX G c TB) (hr.mono (by decide)) (fa13 KX G c) tk_fn (ea_cons (ev_tup (ea_cons ev_int (ea_cons ev_int ea_nil))) (ea_cons (ev_dget (hu_of hr) (ev_var 1) (ev_tup (ea_cons (ev_var 3) (ea_cons (ev_op op_sub od_sub (ev_var 2) ev_int) ea_nil)))) ea_nil))) ea_nil)))) (ess_cons (es_asg (ev_callH (has__law_branches KX G c TB) (hr.mono (by decide)) (fa12 KX G c) tk_fn (ea_cons (ev_var 3) (ea_cons (ev_var 2) ea_nil))) (eg_tup rfl (egs_cons (eg_name 6 nd__law_gains) (egs_cons (eg_name 7 nd__law_gains) (egs_cons (eg_name 8 nd__law_gains) egs_nil))))) (ess_cons (es_asg (ev_callH (has__law_less KX G c TB) (hr.mono (by decide)) (fa19 KX G c) tk_fn (ea_cons (ev_callH (has__law_times KX G c TB) (hr.mono (by decide)) (fa14 KX G c) tk_fn (ea_cons (ev_var 6) (ea_cons (ev_var 5) ea_nil))) (ea_cons (ev_callH (has__law_times KX G c TB) (hr.mono (by decide)) (fa14 KX G c) tk_fn (ea_cons (ev_var 7) (ea_cons (ev_var 5) ea_nil))) ea_nil))) (eg_name 9 nd__law_gains)) (ess_cons (es_asg (ev_if (et_cmp op_gt od_gt (ev_var 2) ev_int) (ev_callH (has__law_less KX G c TB) (hr.mono (by decide)) (fa19 KX G c) tk_fn (ea_cons (ev_var 9) (ea_cons (ev_callH (has__law_times KX G c TB) (hr.mono (by decide)) (fa14 KX G c) tk_fn (ea_cons (ev_var 8) (ea_cons (ev_dget (hu_of hr) (ev_var 1) (ev_tup (ea_cons (ev_op op_addAll od_add (ev_var 3) ev_int) (ea_cons (ev_op op_sub od_sub (ev_var 2) ev_int) ea_nil)))) ea_nil))) ea_nil))) (ev_var 9)) (eg_name 9 nd__law_gains)) (ess_cons (es_asg (ev_callH (has__law_less KX G c TB) (hr.mono (by decide)) (fa19 KX G c) tk_fn (ea_cons (ev_tup (ea_cons ev_int (ea_cons ev_int ea_nil))) (ea_cons (ev_dget (hu_of hr) (ev_var 1) (ev_tup (ea_cons (ev_op op_addAll od_add (ev_var 3) ev_int) (ea_cons (ev_op op_sub od_sub (ev_var 2) ev_int) ea_nil)))) ea_nil))) (eg_name 10 nd__law_gains)) (ess_cons (es_asg (ev_callH (has__law_times KX G c TB) (hr.mono (by decide)) (fa14 KX G c) tk_fn (ea_cons (ev_callH (has__law_low KX G c TB) (hr.mono (by decide)) (fa10 KX G c) tk_fn (ea_cons (ev_op op_mulW od_mul ev_int (ev_var 2)) (ea_cons (ev_var 4) ea_nil))) (ea_cons (ev_if (EvW.pt (ew_and (et_cmp op_gt od_gt (ev_var 3) ev_int) (ew_and1 (et_val (ev_callH (has__law_up_to KX G c TB) (hr.mono (by decide)) (fa15 KX G c) tk_fn (ea_cons (ev_var 9) (ea_cons (ev_var 10) ea_nil))))))) (ev_var 10) (ev_var 9)) ea_nil))) (eg_name 11 nd__law_gains)) (ess_cons (es_if (et_cmp op_gt od_gt (ev_var 3) ev_int) (ess_one (es_asg (ev_callH (has__law_plus KX G c TB) (hr.mono (by decide)) (fa13 KX G c) tk_fn (ea_cons (ev_var 11) (ea_cons (ev_callH (has__law_times KX G c TB) (hr.mono (by decide)) (fa14 KX G c) tk_fn (ea_cons (ev_callH (has__law_low KX G c TB) (hr.mono (by decide)) (fa10 KX G c) tk_fn (ea_cons (ev_var 3) (ea_cons (ev_var 4) ea_nil))) (ea_cons (ev_callH (has__law_plus KX G c TB) (hr.mono (by decide)) (fa13 KX G c) tk_fn (ea_cons (ev_tup (ea_cons ev_int (ea_cons ev_int ea_nil))) (ea_cons (ev_dget (hu_of hr) (ev_var 1) (ev_tup (ea_cons (ev_op op_sub od_sub (ev_var 3) ev_int) (ea_cons (ev_var 2) ea_nil)))) ea_nil))) ea_nil))) ea_nil))) (eg_name 11 nd__law_gains))) ess_nil) (ess_one (es_dput (hu_of hr) (ev_var 1) (ev_tup (ea_cons (ev_var 3) (ea_cons (ev_var 2) ea_nil))) (ev_var 11)))))))))))) po_fn)) po_fn) (ess_one (es_ret (ev_var 1)))))
theorem has__law_gains : Has P w K mg base (tbs K) 3 ((.g "_law_gains" : DAt).ad K) p__law_gains m__law_gains :=
  has_of (ps := p__law_gains) (c.def_ 13) sc__law_gains sealR_ok (fun _ _ _ _ _ _ us hl => match us, hl with | [_], _ => rfl) (body__law_gains KX G c TB)
end
/-! ### _law_outs -/
abbrev s__law_outs : Stmt := top 108
abbrev n__law_outs : List Str := ["parts", "ready", "single", "hidden", "habit", "number", "most", "mean", "worst", "gain"]
abbrev p__law_outs : List Str := ["parts"]
theorem nd__law_outs : n__law_outs.Nodup := by decide +kernel
theorem sc__law_outs : FnScope n__law_outs p__law_outs (defScope s__law_outs) := ⟨rfl, rfl, rfl, nd__law_outs, rfl, by decide +kernel, by decide +kernel⟩
def b__law_outs : MS := (mSeq (mAsg (mVar 0) (gTupM 4 (gConsM (gTupM 3 (gConsM (gN 1) (gConsM (gN 2) (gConsM (gN 3) gNilM)))) (gConsM (gN 4) (gConsM (gN 5) (gConsM (gN 6) gNilM)))))) (mSeq (mAsg (mCall 2 m__law_plus (mCons (mTup (mCons (mVar 1) (mCons (mC (.int 1)) mNil))) (mCons (mDGet (mCall 2 m__law_means (mCons (mOp dAdd (mVar 2) (mVar 3)) (mCons (mVar 4) mNil))) (mTup (mCons (mVar 2) (mCons (mVar 3) mNil)))) mNil))) (gN 7)) (mSeq (mAsg (mOp dAdd (mVar 1) (mDGet (mCall 1 m__law_worst (mCons (mOp dAdd (mVar 2) (mVar 3)) mNil)) (mTup (mCons (mVar 2) (mCons (mVar 3) mNil))))) (gN 8)) (mSeq (mAsg (mCall 2 m__law_plus (mCons (mTup (mCons (mVar 1) (mCons (mC (.int 1)) mNil))) (mCons (mDGet (mCall 1 m__law_gains (mCons (mOp dAdd (mVar 2) (mVar 3)) mNil)) (mTup (mCons (mVar 2) (mCons (mVar 3) mNil)))) mNil))) (gN 9)) (mRet (mLst (mCons (mTup (mCons (mC (.str "mean")) (mCons (mVar 7) (mCons (mNotV (mCall 2 m__law_up_to (mCons (mVar 7) (mCons (mVar 6) mNil)))) mNil)))) (mCons (mTup (mCons (mC (.str "surely")) (mCons (mVar 8) (mCons (mOp dGt (mVar 8) (mVar 5)) mNil)))) (mCons (mTup (mCons (mC (.str "first")) (mCons (mVar 9) (mCons (mOp dLt (mOp dIx (mVar 9) (mC (.int 0))) (mC (.int 0))) mNil)))) mNil)))))))))
def m__law_outs : List D → Sto → R D := fnM sealR 10 b__law_outs
section
variable {P : Program} {w : World} {K : PySem.W.Frag} {mg : Str → Option Value} {base h : Heap} (KX : K.In h) (G : h.Ns mainGlobals mg) (c : SaysZ facts defs_ tabs_ tfs w h K) (TB : ∀ p ∈ css K, LamX.TabB base mg p.1 p.2)
include KX G c TB
theorem body__law_outs : BodyOk P w K mg base (tbs K) 3 n__law_outs "_law_outs" s__law_outs ((.g "_law_outs" : DAt).ad K) b__law_outs := fun cdv A outer s H E hcdv hr =>
  (ess_cons (es_asg (ev_var 0) (eg_tup rfl (egs_cons (eg_tup rfl (egs_cons (eg_name 1 nd__law_outs) (egs_cons (eg_name 2 nd__law_outs) (egs_cons (eg_name 3 nd__law_outs) egs_nil)))) (egs_cons (eg_name 4 nd__law_outs) (egs_cons (eg_name 5 nd__law_outs) (egs_cons (eg_name 6 nd__law_outs) egs_nil)))))) (ess_cons (es_asg (ev_callH (has__law_plus KX G c TB) (hr.mono (by decide)) (fa13 KX G c) tk_fn (ea_cons (ev_tup (ea_cons (ev_var 1) (ea_cons ev_int ea_nil))) (ea_cons (ev_dget (hu_of hr) (ev_callH (has__law_means KX G c TB) (hr.mono (by decide)) (fa17 KX G c) tk_fn (ea_cons (ev_op op_addAll od_add (ev_var 2) (ev_var 3)) (ea_cons (ev_var 4) ea_nil))) (ev_tup (ea_cons (ev_var 2) (ea_cons (ev_var 3) ea_nil)))) ea_nil))) (eg_name 7 nd__law_outs)) (ess_cons (es_asg (ev_op op_addAll od_add (ev_var 1) (ev_dget (hu_of hr) (ev_callH (has__law_worst KX G c TB) (hr.mono (by decide)) (fa18 KX G c) tk_fn (ea_cons (ev_op op_addAll od_add (ev_var 2) (ev_var 3)) ea_nil)) (ev_tup (ea_cons (ev_var 2) (ea_cons (ev_var 3) ea_nil))))) (eg_name 8 nd__law_outs)) (ess_cons (es_asg (ev_callH (has__law_plus KX G c TB) (hr.mono (by decide)) (fa13 KX G c) tk_fn (ea_cons (ev_tup (ea_cons (ev_var 1) (ea_cons ev_int ea_nil))) (ea_cons (ev_dget (hu_of hr) (ev_callH (has__law_gains KX G c TB) (hr.mono (by decide)) (fa20 KX G c) tk_fn (ea_cons (ev_op op_addAll od_add (ev_var 2) (ev_var 3)) ea_nil)) (ev_tup (ea_cons (ev_var 2) (ea_cons (ev_var 3) ea_nil)))) ea_nil))) (eg_name 9 nd__law_outs)) (ess_one (es_ret (ev_lst (ea_cons (ev_tup (ea_cons ev_str (ea_cons (ev_var 7) (ea_cons (ev_not (ev_callH (has__law_up_to KX G c TB) (hr.mono (by decide)) (fa15 KX G c) tk_fn (ea_cons (ev_var 7) (ea_cons (ev_var 6) ea_nil)))) ea_nil)))) (ea_cons (ev_tup (ea_cons ev_str (ea_cons (ev_var 8) (ea_cons (ev_cmp op_gt od_gt (ev_var 8) (ev_var 5)) ea_nil)))) (ea_cons (ev_tup (ea_cons ev_str (ea_cons (ev_var 9) (ea_cons (ev_cmp op_lt od_lt (ev_ix (ev_var 9) ev_int) ev_int) ea_nil)))) ea_nil))))))))))
theorem has__law_outs : Has P w K mg base (tbs K) 4 ((.g "_law_outs" : DAt).ad K) p__law_outs m__law_outs :=
  has_of (ps := p__law_outs) (c.def_ 14) sc__law_outs sealR_ok (fun _ _ _ _ _ _ us hl => match us, hl with | [_], _ => rfl) (body__law_outs KX G c TB)
end
/-! ### check_state -/
abbrev s_check_state : Stmt := top 78
abbrev n_check_state : List Str := ["state"]
abbrev p_check_state : List Str := ["state"]
theorem nd_check_state : n_check_state.Nodup := by decide +kernel
theorem sc_check_state : FnScope n_check_state p_check_state (defScope s_check_state) := ⟨rfl, rfl, rfl, nd_check_state, rfl, by decide +kernel, by decide +kernel⟩
def b_check_state : MS := (mIfS (mNot (mTst (mIsC clss "State" (mVar 0)))) mNever mNext)
def m_check_state : List D → Sto → R D := fnM sealR 1 b_check_state
section
variable {P : Program} {w : World} {K : PySem.W.Frag} {mg : Str → Option Value} {base h : Heap} (KX : K.In h) (G : h.Ns mainGlobals mg) (c : SaysZ facts defs_ tabs_ tfs w h K) (TB : ∀ p ∈ css K, LamX.TabB base mg p.1 p.2)
include KX G c TB
theorem body_check_state : BodyOk P w K mg base (tbs K) 0 n_check_state "check_state" s_check_state ((.g "check_state" : DAt).ad K) b_check_state := fun cdv A outer s H E hcdv hr =>
  (ess_one (es_if (et_not (et_val (ev_isC (cs := clss) (clst KX G c) (ev_var 0) (fa22 KX G c)))) (ess_one es_never) ess_nil))
theorem has_check_state : Has P w K mg base (tbs K) 1 ((.g "check_state" : DAt).ad K) p_check_state m_check_state :=
  has_of (ps := p_check_state) (c.def_ 15) sc_check_state sealR_ok (fun _ _ _ _ _ _ us hl => match us, hl with | [_], _ => rfl) (body_check_state KX G c TB)
end
/-! ### is_one_of -/
abbrev s_is_one_of : Stmt := top 4
abbrev n_is_one_of : List Str := ["value", "words"]
abbrev p_is_one_of : List Str := ["value", "words"]
theorem nd_is_one_of : n_is_one_of.Nodup := by decide +kernel
theorem sc_is_one_of : FnScope n_is_one_of p_is_one_of (defScope s_is_one_of) := ⟨rfl, rfl, rfl, nd_is_one_of, rfl, by decide +kernel, by decide +kernel⟩
def b_is_one_of : MS := (mRet (mAndV (mIsB clss "str" (mVar 0)) (mOp (dIn false) (mVar 0) (mVar 1))))
def m_is_one_of : List D → Sto → R D := fnM sealR 2 b_is_one_of
section
variable {P : Program} {w : World} {K : PySem.W.Frag} {mg : Str → Option Value} {base h : Heap} (KX : K.In h) (G : h.Ns mainGlobals mg) (c : SaysZ facts defs_ tabs_ tfs w h K) (TB : ∀ p ∈ css K, LamX.TabB base mg p.1 p.2)
include KX G c TB
theorem body_is_one_of : BodyOk P w K mg base (tbs K) 0 n_is_one_of "is_one_of" s_is_one_of ((.g "is_one_of" : DAt).ad K) b_is_one_of := fun cdv A outer s H E hcdv hr =>
  (ess_one (es_ret (ev_and (ev_isB (cs := clss) (t := "str") (clst KX G c) (ev_var 0) (fa22 KX G c) (fa24 KX G c) (by decide +kernel)) (ev_one (ev_cmp op_in_seq (od_in (neg := false)) (ev_var 0) (ev_var 1))))))
theorem has_is_one_of : Has P w K mg base (tbs K) 1 ((.g "is_one_of" : DAt).ad K) p_is_one_of m_is_one_of :=
  has_of (ps := p_is_one_of) (c.def_ 16) sc_is_one_of sealR_ok (fun _ _ _ _ _ _ us hl => match us, hl with | [_, _], _ => rfl) (body_is_one_of KX G c TB)
end
/-! ### check_habit -/
abbrev s_check_habit : Stmt := top 79
abbrev n_check_habit : List Str := ["habit"]
abbrev p_check_habit : List Str := ["habit"]
theorem nd_check_habit : n_check_habit.Nodup := by decide +kernel
theorem sc_check_habit : FnScope n_check_habit p_check_habit (defScope s_check_habit) := ⟨rfl, rfl, rfl, nd_check_habit, rfl, by decide +kernel, by decide +kernel⟩
def b_check_habit : MS := (mIfS (mNot (mTst (mCall 2 m_is_one_of (mCons (mVar 0) (mCons (mC (.tup [.str "shut", .str "open", .str "turns"])) mNil))))) mNever mNext)
def m_check_habit : List D → Sto → R D := fnM sealR 1 b_check_habit
section
variable {P : Program} {w : World} {K : PySem.W.Frag} {mg : Str → Option Value} {base h : Heap} (KX : K.In h) (G : h.Ns mainGlobals mg) (c : SaysZ facts defs_ tabs_ tfs w h K) (TB : ∀ p ∈ css K, LamX.TabB base mg p.1 p.2)
include KX G c TB
theorem body_check_habit : BodyOk P w K mg base (tbs K) 1 n_check_habit "check_habit" s_check_habit ((.g "check_habit" : DAt).ad K) b_check_habit := fun cdv A outer s H E hcdv hr =>
  (ess_one (es_if (et_not (et_val (ev_callH (has_is_one_of KX G c TB) (hr.mono (by decide)) (fa26 KX G c) tk_fn (ea_cons (ev_var 0) (ea_cons (ev_gl (fa25 KX G c)) ea_nil))))) (ess_one es_never) ess_nil))
theorem has_check_habit : Has P w K mg base (tbs K) 2 ((.g "check_habit" : DAt).ad K) p_check_habit m_check_habit :=
  has_of (ps := p_check_habit) (c.def_ 17) sc_check_habit sealR_ok (fun _ _ _ _ _ _ us hl => match us, hl with | [_], _ => rfl) (body_check_habit KX G c TB)
end
/-! ### check_state_habit -/
abbrev s_check_state_habit : Stmt := top 80
abbrev n_check_state_habit : List Str := ["state", "habit"]
abbrev p_check_state_habit : List Str := ["state", "habit"]
theorem nd_check_state_habit : n_check_state_habit.Nodup := by decide +kernel
theorem sc_check_state_habit : FnScope n_check_state_habit p_check_state_habit (defScope s_check_state_habit) := ⟨rfl, rfl, rfl, nd_check_state_habit, rfl, by decide +kernel, by decide +kernel⟩
def b_check_state_habit : MS := (mSeq (mDrop (mCall 1 m_check_state (mCons (mVar 0) mNil))) (mDrop (mCall 1 m_check_habit (mCons (mVar 1) mNil))))
def m_check_state_habit : List D → Sto → R D := fnM sealR 2 b_check_state_habit
section
variable {P : Program} {w : World} {K : PySem.W.Frag} {mg : Str → Option Value} {base h : Heap} (KX : K.In h) (G : h.Ns mainGlobals mg) (c : SaysZ facts defs_ tabs_ tfs w h K) (TB : ∀ p ∈ css K, LamX.TabB base mg p.1 p.2)
include KX G c TB
theorem body_check_state_habit : BodyOk P w K mg base (tbs K) 2 n_check_state_habit "check_state_habit" s_check_state_habit ((.g "check_state_habit" : DAt).ad K) b_check_state_habit := fun cdv A outer s H E hcdv hr =>
  (ess_cons (es_drop (ev_callH (has_check_state KX G c TB) (hr.mono (by decide)) (fa23 KX G c) tk_fn (ea_cons (ev_var 0) ea_nil))) (ess_one (es_drop (ev_callH (has_check_habit KX G c TB) (hr.mono (by decide)) (fa27 KX G c) tk_fn (ea_cons (ev_var 1) ea_nil)))))
theorem has_check_state_habit : Has P w K mg base (tbs K) 3 ((.g "check_state_habit" : DAt).ad K) p_check_state_habit m_check_state_habit :=
  has_of (ps := p_check_state_habit) (c.def_ 18) sc_check_state_habit sealR_ok (fun _ _ _ _ _ _ us hl => match us, hl with | [_, _], _ => rfl) (body_check_state_habit KX G c TB)
end
/-! ### is_whole -/
abbrev s_is_whole : Stmt := top 2
abbrev n_is_whole : List Str := ["value"]
abbrev p_is_whole : List Str := ["value"]
theorem nd_is_whole : n_is_whole.Nodup := by decide +kernel
theorem sc_is_whole : FnScope n_is_whole p_is_whole (defScope s_is_whole) := ⟨rfl, rfl, rfl, nd_is_whole, rfl, by decide +kernel, by decide +kernel⟩
def b_is_whole : MS := (mRet (mAndV (mIsB clss "int" (mVar 0)) (mNotV (mIsB clss "bool" (mVar 0)))))
def m_is_whole : List D → Sto → R D := fnM sealR 1 b_is_whole
section
variable {P : Program} {w : World} {K : PySem.W.Frag} {mg : Str → Option Value} {base h : Heap} (KX : K.In h) (G : h.Ns mainGlobals mg) (c : SaysZ facts defs_ tabs_ tfs w h K) (TB : ∀ p ∈ css K, LamX.TabB base mg p.1 p.2)
include KX G c TB
theorem body_is_whole : BodyOk P w K mg base (tbs K) 0 n_is_whole "is_whole" s_is_whole ((.g "is_whole" : DAt).ad K) b_is_whole := fun cdv A outer s H E hcdv hr =>
  (ess_one (es_ret (ev_and (ev_isB (cs := clss) (t := "int") (clst KX G c) (ev_var 0) (fa22 KX G c) (fa5 KX G c) (by decide +kernel)) (ev_one (ev_not (ev_isB (cs := clss) (t := "bool") (clst KX G c) (ev_var 0) (fa22 KX G c) (fa29 KX G c) (by decide +kernel)))))))
theorem has_is_whole : Has P w K mg base (tbs K) 1 ((.g "is_whole" : DAt).ad K) p_is_whole m_is_whole :=
  has_of (ps := p_is_whole) (c.def_ 19) sc_is_whole sealR_ok (fun _ _ _ _ _ _ us hl => match us, hl with | [_], _ => rfl) (body_is_whole KX G c TB)
end
/-! ### is_between -/
abbrev s_is_between : Stmt := top 3
abbrev n_is_between : List Str := ["value", "least", "most"]
abbrev p_is_between : List Str := ["value", "least", "most"]
theorem nd_is_between : n_is_between.Nodup := by decide +kernel
theorem sc_is_between : FnScope n_is_between p_is_between (defScope s_is_between) := ⟨rfl, rfl, rfl, nd_is_between, rfl, by decide +kernel, by decide +kernel⟩
def b_is_between : MS := (mRet (mAndV (mCall 1 m_is_whole (mCons (mVar 0) mNil)) (mChain dLe dLe (mVar 1) (mVar 0) (mVar 2))))
def m_is_between : List D → Sto → R D := fnM sealR 3 b_is_between
section
variable {P : Program} {w : World} {K : PySem.W.Frag} {mg : Str → Option Value} {base h : Heap} (KX : K.In h) (G : h.Ns mainGlobals mg) (c : SaysZ facts defs_ tabs_ tfs w h K) (TB : ∀ p ∈ css K, LamX.TabB base mg p.1 p.2)
include KX G c TB
theorem body_is_between : BodyOk P w K mg base (tbs K) 1 n_is_between "is_between" s_is_between ((.g "is_between" : DAt).ad K) b_is_between := fun cdv A outer s H E hcdv hr =>
  (ess_one (es_ret (ev_and (ev_callH (has_is_whole KX G c TB) (hr.mono (by decide)) (fa30 KX G c) tk_fn (ea_cons (ev_var 0) ea_nil)) (ev_one (ev_chain op_le od_le op_le od_le (ev_var 1) (ev_var 0) (ev_var 2))))))
theorem has_is_between : Has P w K mg base (tbs K) 2 ((.g "is_between" : DAt).ad K) p_is_between m_is_between :=
  has_of (ps := p_is_between) (c.def_ 20) sc_is_between sealR_ok (fun _ _ _ _ _ _ us hl => match us, hl with | [_, _, _], _ => rfl) (body_is_between KX G c TB)
end
/-! ### check_number -/
abbrev s_check_number : Stmt := top 81
abbrev n_check_number : List Str := ["number", "least", "most"]
abbrev p_check_number : List Str := ["number", "least", "most"]
theorem nd_check_number : n_check_number.Nodup := by decide +kernel
theorem sc_check_number : FnScope n_check_number p_check_number (defScope s_check_number) := ⟨rfl, rfl, rfl, nd_check_number, rfl, by decide +kernel, by decide +kernel⟩
def b_check_number : MS := (mIfS (mNot (mTst (mCall 3 m_is_between (mCons (mVar 0) (mCons (mVar 1) (mCons (mVar 2) mNil)))))) mNever mNext)
def m_check_number : List D → Sto → R D := fnM sealR 3 b_check_number
section
variable {P : Program} {w : World} {K : PySem.W.Frag} {mg : Str → Option Value} {base h : Heap} (KX : K.In h) (G : h.Ns mainGlobals mg) (c : SaysZ facts defs_ tabs_ tfs w h K) (TB : ∀ p ∈ css K, LamX.TabB base mg p.1 p.2)
include KX G c TB
theorem body_check_number : BodyOk P w K mg base (tbs K) 2 n_check_number "check_number" s_check_number ((.g "check_number" : DAt).ad K) b_check_number := fun cdv A outer s H E hcdv hr =>
  (ess_one (es_if (et_not (et_val (ev_callH (has_is_between KX G c TB) (hr.mono (by decide)) (fa31 KX G c) tk_fn (ea_cons (ev_var 0) (ea_cons (ev_var 1) (ea_cons (ev_var 2) ea_nil)))))) (ess_one es_never) ess_nil))
theorem has_check_number : Has P w K mg base (tbs K) 3 ((.g "check_number" : DAt).ad K) p_check_number m_check_number :=
  has_of (ps := p_check_number) (c.def_ 21) sc_check_number sealR_ok (fun _ _ _ _ _ _ us hl => match us, hl with | [_, _, _], _ => rfl) (body_check_number KX G c TB)
end
/-! ### is_tuple_of -/
abbrev s_is_tuple_of : Stmt := top 5
abbrev n_is_tuple_of : List Str := ["value", "many"]
abbrev p_is_tuple_of : List Str := ["value", "many"]
theorem nd_is_tuple_of : n_is_tuple_of.Nodup := by decide +kernel
theorem sc_is_tuple_of : FnScope n_is_tuple_of p_is_tuple_of (defScope s_is_tuple_of) := ⟨rfl, rfl, rfl, nd_is_tuple_of, rfl, by decide +kernel, by decide +kernel⟩
def b_is_tuple_of : MS := (mRet (mAndV (mIsB clss "tuple" (mVar 0)) (mOp dEq (mBi dLen (mCons (mVar 0) mNil)) (mVar 1))))
def m_is_tuple_of : List D → Sto → R D := fnM sealR 2 b_is_tuple_of
section
variable {P : Program} {w : World} {K : PySem.W.Frag} {mg : Str → Option Value} {base h : Heap} (KX : K.In h) (G : h.Ns mainGlobals mg) (c : SaysZ facts defs_ tabs_ tfs w h K) (TB : ∀ p ∈ css K, LamX.TabB base mg p.1 p.2)
include KX G c TB
theorem body_is_tuple_of : BodyOk P w K mg base (tbs K) 0 n_is_tuple_of "is_tuple_of" s_is_tuple_of ((.g "is_tuple_of" : DAt).ad K) b_is_tuple_of := fun cdv A outer s H E hcdv hr =>
  (ess_one (es_ret (ev_and (ev_isB (cs := clss) (t := "tuple") (clst KX G c) (ev_var 0) (fa22 KX G c) (fa34 KX G c) (by decide +kernel)) (ev_one (ev_cmp (op_eqD hr.units) od_eq (ev_bi call_len cd_len (fa0 KX G c) (by decide +kernel) (ea_cons (ev_var 0) ea_nil)) (ev_var 1))))))
theorem has_is_tuple_of : Has P w K mg base (tbs K) 1 ((.g "is_tuple_of" : DAt).ad K) p_is_tuple_of m_is_tuple_of :=
  has_of (ps := p_is_tuple_of) (c.def_ 22) sc_is_tuple_of sealR_ok (fun _ _ _ _ _ _ us hl => match us, hl with | [_, _], _ => rfl) (body_is_tuple_of KX G c TB)
end
/-! ### is_pair -/
abbrev s_is_pair : Stmt := top 6
abbrev n_is_pair : List Str := ["value"]
abbrev p_is_pair : List Str := ["value"]
theorem nd_is_pair : n_is_pair.Nodup := by decide +kernel
theorem sc_is_pair : FnScope n_is_pair p_is_pair (defScope s_is_pair) := ⟨rfl, rfl, rfl, nd_is_pair, rfl, by decide +kernel, by decide +kernel⟩
def b_is_pair : MS := (mRet (mCall 2 m_is_tuple_of (mCons (mVar 0) (mCons (mC (.int 2)) mNil))))
def m_is_pair : List D → Sto → R D := fnM sealR 1 b_is_pair
section
variable {P : Program} {w : World} {K : PySem.W.Frag} {mg : Str → Option Value} {base h : Heap} (KX : K.In h) (G : h.Ns mainGlobals mg) (c : SaysZ facts defs_ tabs_ tfs w h K) (TB : ∀ p ∈ css K, LamX.TabB base mg p.1 p.2)
include KX G c TB
theorem body_is_pair : BodyOk P w K mg base (tbs K) 1 n_is_pair "is_pair" s_is_pair ((.g "is_pair" : DAt).ad K) b_is_pair := fun cdv A outer s H E hcdv hr =>
  (ess_one (es_ret (ev_callH (has_is_tuple_of KX G c TB) (hr.mono (by decide)) (fa35 KX G c) tk_fn (ea_cons (ev_var 0) (ea_cons ev_int ea_nil)))))
theorem has_is_pair : Has P w K mg base (tbs K) 2 ((.g "is_pair" : DAt).ad K) p_is_pair m_is_pair :=
  has_of (ps := p_is_pair) (c.def_ 23) sc_is_pair sealR_ok (fun _ _ _ _ _ _ us hl => match us, hl with | [_], _ => rfl) (body_is_pair KX G c TB)
end
/-! ### is_fraction -/
abbrev s_is_fraction : Stmt := top 11
abbrev n_is_fraction : List Str := ["value", "each"]
abbrev p_is_fraction : List Str := ["value"]
theorem nd_is_fraction : n_is_fraction.Nodup := by decide +kernel
theorem sc_is_fraction : FnScope n_is_fraction p_is_fraction (defScope s_is_fraction) := ⟨rfl, rfl, rfl, nd_is_fraction, rfl, by decide +kernel, by decide +kernel⟩
def b_is_fraction : MS := (mSeq (mIfS (mOr (mNot (mTst (mCall 1 m_is_pair (mCons (mVar 0) mNil)))) (mNot (mTst (mBi dAll (mCons (mLc (mIter (mVar 0)) (.nm 1) mYes (mCall 1 m_is_whole (mCons (mVar 1) mNil)) [1]) mNil))))) (mRet (mC (.bl false))) mNext) (mRet (mAndV (mOp dGt (mOp dIx (mVar 0) (mC (.int 1))) (mC (.int 0))) (mOp dEq (mBi dGcd (mCons (mOp dIx (mVar 0) (mC (.int 0))) (mCons (mOp dIx (mVar 0) (mC (.int 1))) mNil))) (mC (.int 1))))))
def m_is_fraction : List D → Sto → R D := fnM sealR 2 b_is_fraction
section
variable {P : Program} {w : World} {K : PySem.W.Frag} {mg : Str → Option Value} {base h : Heap} (KX : K.In h) (G : h.Ns mainGlobals mg) (c : SaysZ facts defs_ tabs_ tfs w h K) (TB : ∀ p ∈ css K, LamX.TabB base mg p.1 p.2)
include KX G c TB
theorem body_is_fraction : BodyOk P w K mg base (tbs K) 2 n_is_fraction "is_fraction" s_is_fraction ((.g "is_fraction" : DAt).ad K) b_is_fraction := fun cdv A outer s H E hcdv hr =>
  (ess_cons (es_if (EvW.pt (ew_or (et_not (et_val (ev_callH (has_is_pair KX G c TB) (hr.mono (by decide)) (fa36 KX G c) tk_fn (ea_cons (ev_var 0) ea_nil)))) (ew_or1 (et_not (et_val (ev_bi (cr_all rfl) cd_all (fa37 KX G c) (by decide +kernel) (ea_cons (ev_lc (own := [("each", 1)]) nd_is_fraction (ei_any (ev_var 0)) (blkOk_by rfl) (by decide) (fun _ _ _ _ _ => (pt_name 1 nd_is_fraction)) (fun _ _ _ _ _ => ets_nil) (fun _ _ _ _ _ => (ev_callH (has_is_whole KX G c TB) (hr.mono (by decide)) (fa30 KX G c) tk0 (ea_cons (ev_var 1) ea_nil)))) ea_nil))))))) (ess_one (es_ret ev_bl)) ess_nil) (ess_one (es_ret (ev_and (ev_cmp op_gt od_gt (ev_ix (ev_var 0) ev_int) ev_int) (ev_one (ev_cmp (op_eqD hr.units) od_eq (ev_bf cr_gcd cd_gcd (fa38 KX G c) (ea_cons (ev_ix (ev_var 0) ev_int) (ea_cons (ev_ix (ev_var 0) ev_int) ea_nil))) ev_int))))))
theorem has_is_fraction : Has P w K mg base (tbs K) 3 ((.g "is_fraction" : DAt).ad K) p_is_fraction m_is_fraction :=
  has_of (ps := p_is_fraction) (c.def_ 24) sc_is_fraction sealR_ok (fun _ _ _ _ _ _ us hl => match us, hl with | [_], _ => rfl) (body_is_fraction KX G c TB)
end
/-! ### is_less -/
abbrev s_is_less : Stmt := top 15
abbrev n_is_less : List Str := ["one", "two"]
abbrev p_is_less : List Str := ["one", "two"]
theorem nd_is_less : n_is_less.Nodup := by decide +kernel
theorem sc_is_less : FnScope n_is_less p_is_less (defScope s_is_less) := ⟨rfl, rfl, rfl, nd_is_less, rfl, by decide +kernel, by decide +kernel⟩
def b_is_less : MS := (mRet (mOp dLt (mOp dMul (mOp dIx (mVar 0) (mC (.int 0))) (mOp dIx (mVar 1) (mC (.int 1)))) (mOp dMul (mOp dIx (mVar 1) (mC (.int 0))) (mOp dIx (mVar 0) (mC (.int 1))))))
def m_is_less : List D → Sto → R D := fnM sealR 2 b_is_less
section
variable {P : Program} {w : World} {K : PySem.W.Frag} {mg : Str → Option Value} {base h : Heap} (KX : K.In h) (G : h.Ns mainGlobals mg) (c : SaysZ facts defs_ tabs_ tfs w h K) (TB : ∀ p ∈ css K, LamX.TabB base mg p.1 p.2)
include KX G c TB
theorem body_is_less : BodyOk P w K mg base (tbs K) 0 n_is_less "is_less" s_is_less ((.g "is_less" : DAt).ad K) b_is_less := fun cdv A outer s H E hcdv hr =>
  (ess_one (es_ret (ev_cmp op_lt od_lt (ev_op op_mulW od_mul (ev_ix (ev_var 0) ev_int) (ev_ix (ev_var 1) ev_int)) (ev_op op_mulW od_mul (ev_ix (ev_var 1) ev_int) (ev_ix (ev_var 0) ev_int)))))
theorem has_is_less : Has P w K mg base (tbs K) 1 ((.g "is_less" : DAt).ad K) p_is_less m_is_less :=
  has_of (ps := p_is_less) (c.def_ 25) sc_is_less sealR_ok (fun _ _ _ _ _ _ us hl => match us, hl with | [_, _], _ => rfl) (body_is_less KX G c TB)
end
/-! ### Case.__init__ -/
abbrev s_Case___init__ : Stmt := inClass (top 84) 0
abbrev n_Case___init__ : List Str := ["self", "state", "habit", "number", "most"]
abbrev p_Case___init__ : List Str := ["self", "state", "habit", "number", "most"]
theorem nd_Case___init__ : n_Case___init__.Nodup := by decide +kernel
theorem sc_Case___init__ : FnScope n_Case___init__ p_Case___init__ (defScope s_Case___init__) := ⟨rfl, rfl, rfl, nd_Case___init__, rfl, by decide +kernel, by decide +kernel⟩
def b_Case___init__ : MS := (mSeq (mDrop (mCall 2 m_check_state_habit (mCons (mVar 1) (mCons (mVar 2) mNil)))) (mSeq (mDrop (mCall 3 m_check_number (mCons (mVar 3) (mCons (mC (.int 0)) (mCons (mC (.int 99)) mNil))))) (mSeq (mIfS (mOr (mNot (mTst (mCall 1 m_is_fraction (mCons (mVar 4) mNil)))) (mTst (mCall 2 m_is_less (mCons (mVar 4) (mCons (mC (.tup [.int 0, .int 1])) mNil))))) mNever mNext) (mSetF "Case" "all_of_it" (mVar 0) (mTup (mCons (mVar 1) (mCons (mVar 2) (mCons (mVar 3) (mCons (mVar 4) mNil)))))))))
def m_Case___init__ : List D → Sto → R D := fnM sealR 5 b_Case___init__
section
variable {P : Program} {w : World} {K : PySem.W.Frag} {mg : Str → Option Value} {base h : Heap} (KX : K.In h) (G : h.Ns mainGlobals mg) (c : SaysZ facts defs_ tabs_ tfs w h K) (TB : ∀ p ∈ css K, LamX.TabB base mg p.1 p.2)
include KX G c TB
theorem body_Case___init__ : BodyOk P w K mg base (tbs K) 3 n_Case___init__ "Case.__init__" s_Case___init__ ((.m "Case" "__init__" : DAt).ad K) b_Case___init__ := fun cdv A outer s H E hcdv hr =>
  (ess_cons (es_drop (ev_callH (has_check_state_habit KX G c TB) (hr.mono (by decide)) (fa28 KX G c) tk_fn (ea_cons (ev_var 1) (ea_cons (ev_var 2) ea_nil)))) (ess_cons (es_drop (ev_callH (has_check_number KX G c TB) (hr.mono (by decide)) (fa33 KX G c) tk_fn (ea_cons (ev_var 3) (ea_cons ev_int (ea_cons (ev_gl (fa32 KX G c)) ea_nil))))) (ess_cons (es_if (EvW.pt (ew_or (et_not (et_val (ev_callH (has_is_fraction KX G c TB) (hr.mono (by decide)) (fa39 KX G c) tk_fn (ea_cons (ev_var 4) ea_nil)))) (ew_or1 (et_val (ev_callH (has_is_less KX G c TB) (hr.mono (by decide)) (fa41 KX G c) tk_fn (ea_cons (ev_var 4) (ea_cons (ev_gl (fa40 KX G c)) ea_nil))))))) (ess_one es_never) ess_nil) (ess_one (es_setF (ev_var 0) (ev_tup (ea_cons (ev_var 1) (ea_cons (ev_var 2) (ea_cons (ev_var 3) (ea_cons (ev_var 4) ea_nil))))) (fa42 KX G c) (fa43 KX G c).cl (fa44 KX G c))))))
theorem has_Case___init__ : Has P w K mg base (tbs K) 4 ((.m "Case" "__init__" : DAt).ad K) p_Case___init__ m_Case___init__ :=
  has_of (ps := p_Case___init__) (c.def_ 26) sc_Case___init__ sealR_ok (fun _ _ _ _ _ _ us hl => match us, hl with | [_, _, _, _, _], _ => rfl) (body_Case___init__ KX G c TB)
end
/-! ### is_number -/
abbrev s_is_number : Stmt := top 25
abbrev n_is_number : List Str := ["value"]
abbrev p_is_number : List Str := ["value"]
theorem nd_is_number : n_is_number.Nodup := by decide +kernel
theorem sc_is_number : FnScope n_is_number p_is_number (defScope s_is_number) := ⟨rfl, rfl, rfl, nd_is_number, rfl, by decide +kernel, by decide +kernel⟩
def b_is_number : MS := (mRet (mAndV (mCall 1 m_is_whole (mCons (mVar 0) mNil)) (mOp dGe (mVar 0) (mC (.int 0)))))
def m_is_number : List D → Sto → R D := fnM sealR 1 b_is_number
section
variable {P : Program} {w : World} {K : PySem.W.Frag} {mg : Str → Option Value} {base h : Heap} (KX : K.In h) (G : h.Ns mainGlobals mg) (c : SaysZ facts defs_ tabs_ tfs w h K) (TB : ∀ p ∈ css K, LamX.TabB base mg p.1 p.2)
include KX G c TB
theorem body_is_number : BodyOk P w K mg base (tbs K) 1 n_is_number "is_number" s_is_number ((.g "is_number" : DAt).ad K) b_is_number := fun cdv A outer s H E hcdv hr =>
  (ess_one (es_ret (ev_and (ev_callH (has_is_whole KX G c TB) (hr.mono (by decide)) (fa30 KX G c) tk_fn (ea_cons (ev_var 0) ea_nil)) (ev_one (ev_cmp op_ge od_ge (ev_var 0) ev_int)))))
theorem has_is_number : Has P w K mg base (tbs K) 2 ((.g "is_number" : DAt).ad K) p_is_number m_is_number :=
  has_of (ps := p_is_number) (c.def_ 27) sc_is_number sealR_ok (fun _ _ _ _ _ _ us hl => match us, hl with | [_], _ => rfl) (body_is_number KX G c TB)
end
/-! ### State.__init__ -/
abbrev s_State___init__ : Stmt := inClass (top 77) 0
abbrev n_State___init__ : List Str := ["self", "ready", "single", "hidden", "number"]
abbrev p_State___init__ : List Str := ["self", "ready", "single", "hidden"]
theorem nd_State___init__ : n_State___init__.Nodup := by decide +kernel
theorem sc_State___init__ : FnScope n_State___init__ p_State___init__ (defScope s_State___init__) := ⟨rfl, rfl, rfl, nd_State___init__, rfl, by decide +kernel, by decide +kernel⟩
def b_State___init__ : MS := (mSeq (mFor (mIter (mTup (mCons (mVar 1) (mCons (mVar 2) (mCons (mVar 3) mNil))))) (gN 4) (mIfS (mNot (mTst (mCall 1 m_is_number (mCons (mVar 4) mNil)))) mNever mNext)) (mSeq (mIfS (mTst (mOp dGt (mOp dAdd (mOp dAdd (mVar 1) (mVar 2)) (mVar 3)) (mC (.int 8)))) mNever mNext) (mSetF "State" "all_told" (mVar 0) (mTup (mCons (mVar 1) (mCons (mVar 2) (mCons (mVar 3) mNil)))))))
def m_State___init__ : List D → Sto → R D := fnM sealR 5 b_State___init__
section
variable {P : Program} {w : World} {K : PySem.W.Frag} {mg : Str → Option Value} {base h : Heap} (KX : K.In h) (G : h.Ns mainGlobals mg) (c : SaysZ facts defs_ tabs_ tfs w h K) (TB : ∀ p ∈ css K, LamX.TabB base mg p.1 p.2)
include KX G c TB
theorem body_State___init__ : BodyOk P w K mg base (tbs K) 2 n_State___init__ "State.__init__" s_State___init__ ((.m "State" "__init__" : DAt).ad K) b_State___init__ := fun cdv A outer s H E hcdv hr =>
  (ess_cons (es_for (ei_any (ev_tup (ea_cons (ev_var 1) (ea_cons (ev_var 2) (ea_cons (ev_var 3) ea_nil))))) (eg_name 4 nd_State___init__) (ess_one (es_if (et_not (et_val (ev_callH (has_is_number KX G c TB) (hr.mono (by decide)) (fa45 KX G c) tk_fn (ea_cons (ev_var 4) ea_nil)))) (ess_one es_never) ess_nil)) po_fn) (ess_cons (es_if (et_cmp op_gt od_gt (ev_op op_addAll od_add (ev_op op_addAll od_add (ev_var 1) (ev_var 2)) (ev_var 3)) (ev_gl (fa46 KX G c))) (ess_one es_never) ess_nil) (ess_one (es_setF (ev_var 0) (ev_tup (ea_cons (ev_var 1) (ea_cons (ev_var 2) (ea_cons (ev_var 3) ea_nil)))) (fa47 KX G c) (fa48 KX G c).cl (fa49 KX G c)))))
theorem has_State___init__ : Has P w K mg base (tbs K) 3 ((.m "State" "__init__" : DAt).ad K) p_State___init__ m_State___init__ :=
  has_of (ps := p_State___init__) (c.def_ 28) sc_State___init__ sealR_ok (fun _ _ _ _ _ _ us hl => match us, hl with | [_, _, _, _], _ => rfl) (body_State___init__ KX G c TB)
end
/-! ### _law_case -/
abbrev s__law_case : Stmt := top 107
abbrev n__law_case : List Str := ["parts"]
abbrev p__law_case : List Str := ["parts"]
theorem nd__law_case : n__law_case.Nodup := by decide +kernel
theorem sc__law_case : FnScope n__law_case p__law_case (defScope s__law_case) := ⟨rfl, rfl, rfl, nd__law_case, rfl, by decide +kernel, by decide +kernel⟩
def b__law_case : MS := (mRet (mMake true "Case" 5 m_Case___init__ (mCons (mMake true "State" 4 m_State___init__ (mCons (mOp dIx (mOp dIx (mVar 0) (mC (.int 0))) (mC (.int 0))) (mCons (mOp dIx (mOp dIx (mVar 0) (mC (.int 0))) (mC (.int 1))) (mCons (mOp dIx (mOp dIx (mVar 0) (mC (.int 0))) (mC (.int 2))) mNil)))) (mCons (mOp dIx (mVar 0) (mC (.int 1))) (mCons (mOp dIx (mVar 0) (mC (.int 2))) (mCons (mOp dIx (mVar 0) (mC (.int 3))) mNil))))))
def m__law_case : List D → Sto → R D := fnM sealR 1 b__law_case
section
variable {P : Program} {w : World} {K : PySem.W.Frag} {mg : Str → Option Value} {base h : Heap} (KX : K.In h) (G : h.Ns mainGlobals mg) (c : SaysZ facts defs_ tabs_ tfs w h K) (TB : ∀ p ∈ css K, LamX.TabB base mg p.1 p.2)
include KX G c TB
theorem body__law_case : BodyOk P w K mg base (tbs K) 5 n__law_case "_law_case" s__law_case ((.g "_law_case" : DAt).ad K) b__law_case := fun cdv A outer s H E hcdv hr =>
  (ess_one (es_ret (ev_makeH (frz := true) (has_Case___init__ KX G c TB) (fa51 KX G c) (hr.mono (by decide)) (fa42 KX G c) tk_fn (ea_cons (ev_makeH (frz := true) (has_State___init__ KX G c TB) (fa50 KX G c) (hr.mono (by decide)) (fa47 KX G c) tk_fn (ea_cons (ev_ix (ev_ix (ev_var 0) ev_int) ev_int) (ea_cons (ev_ix (ev_ix (ev_var 0) ev_int) ev_int) (ea_cons (ev_ix (ev_ix (ev_var 0) ev_int) ev_int) ea_nil)))) (ea_cons (ev_ix (ev_var 0) ev_int) (ea_cons (ev_ix (ev_var 0) ev_int) (ea_cons (ev_ix (ev_var 0) ev_int) ea_nil)))))))
theorem has__law_case : Has P w K mg base (tbs K) 6 ((.g "_law_case" : DAt).ad K) p__law_case m__law_case :=
  has_of (ps := p__law_case) (c.def_ 29) sc__law_case sealR_ok (fun _ _ _ _ _ _ us hl => match us, hl with | [_], _ => rfl) (body__law_case KX G c TB)
end
/-! ### _law_same -/
abbrev s__law_same : Stmt := top 94
abbrev n__law_same : List Str := ["told", "due", "one", "two"]
abbrev p__law_same : List Str := ["told", "due"]
theorem nd__law_same : n__law_same.Nodup := by decide +kernel
theorem sc__law_same : FnScope n__law_same p__law_same (defScope s__law_same) := ⟨rfl, rfl, rfl, nd__law_same, rfl, by decide +kernel, by decide +kernel⟩
def br__law_same (n : Nat) (mr__law_same : Nat → List D → Sto → R D) : MS := (mSeq (mIfS (mOr (mTst (mIsB clss "tuple" (mVar 1))) (mTst (mIsB clss "list" (mVar 1)))) (mSeq (mIfS (mOr (mTst (mOp dNe (mIsB clss "tuple" (mVar 0)) (mIsB clss "tuple" (mVar 1)))) (mTst (mOp dNe (mIsB clss "list" (mVar 0)) (mIsB clss "list" (mVar 1))))) (mRet (mC (.bl false))) mNext) (mRet (mAndV (mOp dEq (mBi dLen (mCons (mVar 0) mNil)) (mBi dLen (mCons (mVar 1) mNil))) (mBi dAll (mCons (mLc (mZip (mCons (mVar 0) (mCons (mVar 1) mNil))) (.tp [(.nm 2), (.nm 3)]) mYes (mCall 2 (mr__law_same n) (mCons (mVar 2) (mCons (mVar 3) mNil))) [2, 3]) mNil))))) mNext) (mSeq (mIfS (mTst (mOp dIsN (mVar 1) (mC .non))) (mRet (mOp dIsN (mVar 0) (mC .non))) mNext) (mSeq (mIfS (mTst (mIsB clss "int" (mVar 1))) (mRet (mAndV (mIsB clss "int" (mVar 0)) (mAndV (mOp dEq (mIsB clss "bool" (mVar 0)) (mIsB clss "bool" (mVar 1))) (mOp dEq (mVar 0) (mVar 1))))) mNext) (mRet (mAndV (mIsB clss "str" (mVar 1)) (mAndV (mIsB clss "str" (mVar 0)) (mOp dEq (mVar 0) (mVar 1))))))))
def mr__law_same : Nat → List D → Sto → R D
  | 0 => fun _ _ => .bad
  | n + 1 => fnM sealR 4 (br__law_same n fun _ => mr__law_same n)
def m__law_same : List D → Sto → R D := mr__law_same 6
section
variable {P : Program} {w : World} {K : PySem.W.Frag} {mg : Str → Option Value} {base h : Heap} (KX : K.In h) (G : h.Ns mainGlobals mg) (c : SaysZ facts defs_ tabs_ tfs w h K) (TB : ∀ p ∈ css K, LamX.TabB base mg p.1 p.2)
include KX G c TB
theorem body__law_same {n : Nat} (ih : Has P w K mg base (tbs K) (0 + n) ((.g "_law_same" : DAt).ad K) p__law_same (mr__law_same n)) : BodyOk P w K mg base (tbs K) (0 + n) n__law_same "_law_same" s__law_same ((.g "_law_same" : DAt).ad K) (br__law_same n fun _ => mr__law_same n) := fun cdv A outer s H E hcdv hr =>
  (ess_cons (es_if (EvW.pt (ew_or (et_val (ev_isB (cs := clss) (t := "tuple") (clst KX G c) (ev_var 1) (fa22 KX G c) (fa34 KX G c) (by decide +kernel))) (ew_or1 (et_val (ev_isB (cs := clss) (t := "list") (clst KX G c) (ev_var 1) (fa22 KX G c) (fa53 KX G c) (by decide +kernel)))))) (ess_cons (es_if (EvW.pt (ew_or (et_cmp (op_neD hr.units) od_ne (ev_isB (cs := clss) (t := "tuple") (clst KX G c) (ev_var 0) (fa22 KX G c) (fa34 KX G c) (by decide +kernel)) (ev_isB (cs := clss) (t := "tuple") (clst KX G c) (ev_var 1) (fa22 KX G c) (fa34 KX G c) (by decide +kernel))) (ew_or1 (et_cmp (op_neD hr.units) od_ne (ev_isB (cs := clss) (t := "list") (clst KX G c) (ev_var 0) (fa22 KX G c) (fa53 KX G c) (by decide +kernel)) (ev_isB (cs := clss) (t := "list") (clst KX G c) (ev_var 1) (fa22 KX G c) (fa53 KX G c) (by decide +kernel)))))) (ess_one (es_ret ev_bl)) ess_nil) (ess_one (es_ret (ev_and (ev_cmp (op_eqD hr.units) od_eq (ev_bi call_len cd_len (fa0 KX G c) (by decide +kernel) (ea_cons (ev_var 0) ea_nil)) (ev_bi call_len cd_len (fa0 KX G c) (by decide +kernel) (ea_cons (ev_var 1) ea_nil))) (ev_one (ev_bi (cr_all rfl) cd_all (fa37 KX G c) (by decide +kernel) (ea_cons (ev_lc (own := [("one", 2), ("two", 3)]) nd__law_same (ei_zip (fa54 KX G c) (ea_cons (ev_var 0) (ea_cons (ev_var 1) ea_nil))) (blkOk_by rfl) (by decide) (fun _ _ _ _ _ => (pt_tup rfl (pt_cons (pt_name 2 nd__law_same) (pt_cons (pt_name 3 nd__law_same) pt_nil)))) (fun _ _ _ _ _ => ets_nil) (fun _ _ _ _ _ => (ev_callH (k := 0 + n) (ps := p__law_same) (m := mr__law_same n) (by exact ih) (hr.mono (by omega)) (fa55 KX G c) tk0 (ea_cons (ev_var 2) (ea_cons (ev_var 3) ea_nil))))) ea_nil))))))) ess_nil) (ess_cons (es_if (et_cmp op_isN od_isN (ev_var 1) ev_non) (ess_one (es_ret (ev_cmp op_isN od_isN (ev_var 0) ev_non))) ess_nil) (ess_cons (es_if (et_val (ev_isB (cs := clss) (t := "int") (clst KX G c) (ev_var 1) (fa22 KX G c) (fa5 KX G c) (by decide +kernel))) (ess_one (es_ret (ev_and (ev_isB (cs := clss) (t := "int") (clst KX G c) (ev_var 0) (fa22 KX G c) (fa5 KX G c) (by decide +kernel)) (ev_and (ev_cmp (op_eqD hr.units) od_eq (ev_isB (cs := clss) (t := "bool") (clst KX G c) (ev_var 0) (fa22 KX G c) (fa29 KX G c) (by decide +kernel)) (ev_isB (cs := clss) (t := "bool") (clst KX G c) (ev_var 1) (fa22 KX G c) (fa29 KX G c) (by decide +kernel))) (ev_one (ev_cmp (op_eqD hr.units) od_eq (ev_var 0) (ev_var 1))))))) ess_nil) (ess_one (es_ret (ev_and (ev_isB (cs := clss) (t := "str") (clst KX G c) (ev_var 1) (fa22 KX G c) (fa24 KX G c) (by decide +kernel)) (ev_and (ev_isB (cs := clss) (t := "str") (clst KX G c) (ev_var 0) (fa22 KX G c) (fa24 KX G c) (by decide +kernel)) (ev_one (ev_cmp (op_eqD hr.units) od_eq (ev_var 0) (ev_var 1))))))))))
theorem hasr__law_same : ∀ n, Has P w K mg base (tbs K) (0 + n) ((.g "_law_same" : DAt).ad K) p__law_same (mr__law_same n)
  | 0 => has_bad (ps := p__law_same) (c.def_ 30) (fun _ _ _ _ _ _ us hl => match us, hl with | [_, _], _ => rfl)
  | n + 1 => has_of (ps := p__law_same) (c.def_ 30) sc__law_same sealR_ok (fun _ _ _ _ _ _ us hl => match us, hl with | [_, _], _ => rfl) (body__law_same KX G c TB (hasr__law_same n))
theorem has__law_same : Has P w K mg base (tbs K) 6 ((.g "_law_same" : DAt).ad K) p__law_same m__law_same := hasr__law_same KX G c TB 6
end
/-! ### check_case -/
abbrev s_check_case : Stmt := top 85
abbrev n_check_case : List Str := ["case"]
abbrev p_check_case : List Str := ["case"]
theorem nd_check_case : n_check_case.Nodup := by decide +kernel
theorem sc_check_case : FnScope n_check_case p_check_case (defScope s_check_case) := ⟨rfl, rfl, rfl, nd_check_case, rfl, by decide +kernel, by decide +kernel⟩
def b_check_case : MS := (mIfS (mNot (mTst (mIsC clss "Case" (mVar 0)))) mNever mNext)
def m_check_case : List D → Sto → R D := fnM sealR 1 b_check_case
section
variable {P : Program} {w : World} {K : PySem.W.Frag} {mg : Str → Option Value} {base h : Heap} (KX : K.In h) (G : h.Ns mainGlobals mg) (c : SaysZ facts defs_ tabs_ tfs w h K) (TB : ∀ p ∈ css K, LamX.TabB base mg p.1 p.2)
include KX G c TB
theorem body_check_case : BodyOk P w K mg base (tbs K) 0 n_check_case "check_case" s_check_case ((.g "check_case" : DAt).ad K) b_check_case := fun cdv A outer s H E hcdv hr =>
  (ess_one (es_if (et_not (et_val (ev_isC (cs := clss) (clst KX G c) (ev_var 0) (fa22 KX G c)))) (ess_one es_never) ess_nil))
theorem has_check_case : Has P w K mg base (tbs K) 1 ((.g "check_case" : DAt).ad K) p_check_case m_check_case :=
  has_of (ps := p_check_case) (c.def_ 31) sc_check_case sealR_ok (fun _ _ _ _ _ _ us hl => match us, hl with | [_], _ => rfl) (body_check_case KX G c TB)
end
/-! ### has_choice_statework -/
abbrev s_has_choice_statework : Stmt := top 27
abbrev n_has_choice_statework : List Str := ["parts", "ready", "single", "hidden"]
abbrev p_has_choice_statework : List Str := ["parts"]
theorem nd_has_choice_statework : n_has_choice_statework.Nodup := by decide +kernel
theorem sc_has_choice_statework : FnScope n_has_choice_statework p_has_choice_statework (defScope s_has_choice_statework) := ⟨rfl, rfl, rfl, nd_has_choice_statework, rfl, by decide +kernel, by decide +kernel⟩
def b_has_choice_statework : MS := (mSeq (mAsg (mVar 0) (gTupM 3 (gConsM (gN 1) (gConsM (gN 2) (gConsM (gN 3) gNilM))))) (mRet (mAndV (mOp dEq (mVar 1) (mC (.int 0))) (mAndV (mOp dGt (mVar 2) (mC (.int 0))) (mOp dGt (mVar 3) (mC (.int 0)))))))
def m_has_choice_statework : List D → Sto → R D := fnM sealR 4 b_has_choice_statework
section
variable {P : Program} {w : World} {K : PySem.W.Frag} {mg : Str → Option Value} {base h : Heap} (KX : K.In h) (G : h.Ns mainGlobals mg) (c : SaysZ facts defs_ tabs_ tfs w h K) (TB : ∀ p ∈ css K, LamX.TabB base mg p.1 p.2)
include KX G c TB
theorem body_has_choice_statework : BodyOk P w K mg base (tbs K) 0 n_has_choice_statework "has_choice" s_has_choice_statework ((.g "has_choice_statework" : DAt).ad K) b_has_choice_statework := fun cdv A outer s H E hcdv hr =>
  (ess_cons (es_asg (ev_var 0) (eg_tup rfl (egs_cons (eg_name 1 nd_has_choice_statework) (egs_cons (eg_name 2 nd_has_choice_statework) (egs_cons (eg_name 3 nd_has_choice_statework) egs_nil))))) (ess_one (es_ret (ev_and (ev_cmp (op_eqD hr.units) od_eq (ev_var 1) ev_int) (ev_and (ev_cmp op_gt od_gt (ev_var 2) ev_int) (ev_one (ev_cmp op_gt od_gt (ev_var 3) ev_int)))))))
theorem has_has_choice_statework : Has P w K mg base (tbs K) 1 ((.g "has_choice_statework" : DAt).ad K) p_has_choice_statework m_has_choice_statework :=
  has_of (ps := p_has_choice_statework) (c.def_ 32) sc_has_choice_statework sealR_ok (fun _ _ _ _ _ _ us hl => match us, hl with | [_], _ => rfl) (body_has_choice_statework KX G c TB)
end
/-! ### choices_in -/
abbrev s_choices_in : Stmt := top 29
abbrev n_choices_in : List Str := ["parts"]
abbrev p_choices_in : List Str := ["parts"]
theorem nd_choices_in : n_choices_in.Nodup := by decide +kernel
theorem sc_choices_in : FnScope n_choices_in p_choices_in (defScope s_choices_in) := ⟨rfl, rfl, rfl, nd_choices_in, rfl, by decide +kernel, by decide +kernel⟩
def b_choices_in : MS := (mRet (mIf (mTst (mCall 1 m_has_choice_statework (mCons (mVar 0) mNil))) (mC (.tup [.str "shut", .str "open"])) (mSl (mC (.tup [.str "shut", .str "open"])) mNoP (mP (mC (.int 1))))))
def m_choices_in : List D → Sto → R D := fnM sealR 1 b_choices_in
section
variable {P : Program} {w : World} {K : PySem.W.Frag} {mg : Str → Option Value} {base h : Heap} (KX : K.In h) (G : h.Ns mainGlobals mg) (c : SaysZ facts defs_ tabs_ tfs w h K) (TB : ∀ p ∈ css K, LamX.TabB base mg p.1 p.2)
include KX G c TB
theorem body_choices_in : BodyOk P w K mg base (tbs K) 1 n_choices_in "choices_in" s_choices_in ((.g "choices_in" : DAt).ad K) b_choices_in := fun cdv A outer s H E hcdv hr =>
  (ess_one (es_ret (ev_if (et_val (ev_callH (has_has_choice_statework KX G c TB) (hr.mono (by decide)) (fa59 KX G c) tk_fn (ea_cons (ev_var 0) ea_nil))) (ev_gl (fa60 KX G c)) (ev_sl (ev_gl (fa60 KX G c)) eo_none (eo_some ev_int)))))
theorem has_choices_in : Has P w K mg base (tbs K) 2 ((.g "choices_in" : DAt).ad K) p_choices_in m_choices_in :=
  has_of (ps := p_choices_in) (c.def_ 33) sc_choices_in sealR_ok (fun _ _ _ _ _ _ us hl => match us, hl with | [_], _ => rfl) (body_choices_in KX G c TB)
end
/-! ### shut_in -/
abbrev s_shut_in : Stmt := top 26
abbrev n_shut_in : List Str := ["parts", "_", "single", "hidden"]
abbrev p_shut_in : List Str := ["parts"]
theorem nd_shut_in : n_shut_in.Nodup := by decide +kernel
theorem sc_shut_in : FnScope n_shut_in p_shut_in (defScope s_shut_in) := ⟨rfl, rfl, rfl, nd_shut_in, rfl, by decide +kernel, by decide +kernel⟩
def b_shut_in : MS := (mSeq (mAsg (mVar 0) (gTupM 3 (gConsM (gN 1) (gConsM (gN 2) (gConsM (gN 3) gNilM))))) (mRet (mOp dAdd (mVar 2) (mOp dMul (mC (.int 2)) (mVar 3)))))
def m_shut_in : List D → Sto → R D := fnM sealR 4 b_shut_in
section
variable {P : Program} {w : World} {K : PySem.W.Frag} {mg : Str → Option Value} {base h : Heap} (KX : K.In h) (G : h.Ns mainGlobals mg) (c : SaysZ facts defs_ tabs_ tfs w h K) (TB : ∀ p ∈ css K, LamX.TabB base mg p.1 p.2)
include KX G c TB
theorem body_shut_in : BodyOk P w K mg base (tbs K) 0 n_shut_in "shut_in" s_shut_in ((.g "shut_in" : DAt).ad K) b_shut_in := fun cdv A outer s H E hcdv hr =>
  (ess_cons (es_asg (ev_var 0) (eg_tup rfl (egs_cons (eg_name 1 nd_shut_in) (egs_cons (eg_name 2 nd_shut_in) (egs_cons (eg_name 3 nd_shut_in) egs_nil))))) (ess_one (es_ret (ev_op op_addAll od_add (ev_var 2) (ev_op op_mulW od_mul ev_int (ev_var 3))))))
theorem has_shut_in : Has P w K mg base (tbs K) 1 ((.g "shut_in" : DAt).ad K) p_shut_in m_shut_in :=
  has_of (ps := p_shut_in) (c.def_ 34) sc_shut_in sealR_ok (fun _ _ _ _ _ _ us hl => match us, hl with | [_], _ => rfl) (body_shut_in KX G c TB)
end
/-! ### lowest -/
abbrev s_lowest : Stmt := top 10
abbrev n_lowest : List Str := ["one", "two", "common"]
abbrev p_lowest : List Str := ["one", "two"]
theorem nd_lowest : n_lowest.Nodup := by decide +kernel
theorem sc_lowest : FnScope n_lowest p_lowest (defScope s_lowest) := ⟨rfl, rfl, rfl, nd_lowest, rfl, by decide +kernel, by decide +kernel⟩
def b_lowest : MS := (mSeq (mAsg (mIf (mTst (mOp dGt (mVar 1) (mC (.int 0)))) (mBi dGcd (mCons (mVar 0) (mCons (mVar 1) mNil))) (mNeg (mBi dGcd (mCons (mVar 0) (mCons (mVar 1) mNil))))) (gN 2)) (mRet (mTup (mCons (mOp dDiv (mVar 0) (mVar 2)) (mCons (mOp dDiv (mVar 1) (mVar 2)) mNil)))))
def m_lowest : List D → Sto → R D := fnM sealR 3 b_lowest
section
variable {P : Program} {w : World} {K : PySem.W.Frag} {mg : Str → Option Value} {base h : Heap} (KX : K.In h) (G : h.Ns mainGlobals mg) (c : SaysZ facts defs_ tabs_ tfs w h K) (TB : ∀ p ∈ css K, LamX.TabB base mg p.1 p.2)
include KX G c TB
theorem body_lowest : BodyOk P w K mg base (tbs K) 0 n_lowest "lowest" s_lowest ((.g "lowest" : DAt).ad K) b_lowest := fun cdv A outer s H E hcdv hr =>
  (ess_cons (es_asg (ev_if (et_cmp op_gt od_gt (ev_var 1) ev_int) (ev_bf cr_gcd cd_gcd (fa38 KX G c) (ea_cons (ev_var 0) (ea_cons (ev_var 1) ea_nil))) (ev_neg (ev_bf cr_gcd cd_gcd (fa38 KX G c) (ea_cons (ev_var 0) (ea_cons (ev_var 1) ea_nil))))) (eg_name 2 nd_lowest)) (ess_one (es_ret (ev_tup (ea_cons (ev_op op_fdivW od_div (ev_var 0) (ev_var 2)) (ea_cons (ev_op op_fdivW od_div (ev_var 1) (ev_var 2)) ea_nil))))))
theorem has_lowest : Has P w K mg base (tbs K) 1 ((.g "lowest" : DAt).ad K) p_lowest m_lowest :=
  has_of (ps := p_lowest) (c.def_ 35) sc_lowest sealR_ok (fun _ _ _ _ _ _ us hl => match us, hl with | [_, _], _ => rfl) (body_lowest KX G c TB)
end
/-! ### second_by -/
abbrev s_second_by : Stmt := top 31
abbrev n_second_by : List Str := ["single", "hidden", "choice", "left", "found"]
abbrev p_second_by : List Str := ["single", "hidden", "choice"]
theorem nd_second_by : n_second_by.Nodup := by decide +kernel
theorem sc_second_by : FnScope n_second_by p_second_by (defScope s_second_by) := ⟨rfl, rfl, rfl, nd_second_by, rfl, by decide +kernel, by decide +kernel⟩
def b_second_by : MS := (mSeq (mIfS (mAnd (mTst (mOp dEq (mVar 2) (mC (.str "open")))) (mTst (mOp dGt (mVar 0) (mC (.int 0))))) (mRet (mLst (mCons (mTup (mCons (mTup (mCons (mC (.int 0)) (mCons (mOp dAdd (mVar 0) (mC (.int 1))) (mCons (mOp dSub (mVar 1) (mC (.int 1))) mNil)))) (mCons (mC (.int 0)) (mCons (mC (.tup [.int 1, .int 1])) mNil)))) mNil))) mNext) (mSeq (mAsg (mOp dSub (mOp dAdd (mVar 0) (mOp dMul (mC (.int 2)) (mVar 1))) (mC (.int 1))) (gN 3)) (mSeq (mAsg (mLstM (mCons (mTup (mCons (mTup (mCons (mC (.int 0)) (mCons (mVar 0) (mCons (mOp dSub (mVar 1) (mC (.int 1))) mNil)))) (mCons (mC (.int 1)) (mCons (mCall 2 m_lowest (mCons (mC (.int 1)) (mCons (mVar 3) mNil))) mNil)))) mNil)) (gN 4)) (mSeq (mIfS (mTst (mOp dGt (mVar 0) (mC (.int 0)))) (mDrop (mBm "list" dAppend (mVar 4) (mCons (mTup (mCons (mTup (mCons (mC (.int 1)) (mCons (mVar 0) (mCons (mOp dSub (mVar 1) (mC (.int 1))) mNil)))) (mCons (mC (.int 0)) (mCons (mCall 2 m_lowest (mCons (mVar 0) (mCons (mVar 3) mNil))) mNil)))) mNil))) mNext) (mSeq (mIfS (mTst (mOp dGt (mVar 1) (mC (.int 1)))) (mDrop (mBm "list" dAppend (mVar 4) (mCons (mTup (mCons (mTup (mCons (mC (.int 0)) (mCons (mOp dAdd (mVar 0) (mC (.int 2))) (mCons (mOp dSub (mVar 1) (mC (.int 2))) mNil)))) (mCons (mC (.int 0)) (mCons (mCall 2 m_lowest (mCons (mOp dSub (mOp dMul (mC (.int 2)) (mVar 1)) (mC (.int 2))) (mCons (mVar 3) mNil))) mNil)))) mNil))) mNext) (mRet (mVar 4)))))))
def m_second_by : List D → Sto → R D := fnM sealR 5 b_second_by
section
variable {P : Program} {w : World} {K : PySem.W.Frag} {mg : Str → Option Value} {base h : Heap} (KX : K.In h) (G : h.Ns mainGlobals mg) (c : SaysZ facts defs_ tabs_ tfs w h K) (TB : ∀ p ∈ css K, LamX.TabB base mg p.1 p.2)
include KX G c TB
theorem body_second_by : BodyOk P w K mg base (tbs K) 1 n_second_by "second_by" s_second_by ((.g "second_by" : DAt).ad K) b_second_by := fun cdv A outer s H E hcdv hr =>
  (ess_cons (es_if (EvW.pt (ew_and (et_cmp (op_eqD hr.units) od_eq (ev_var 2) (ev_gl (fa65 KX G c))) (ew_and1 (et_cmp op_gt od_gt (ev_var 0) ev_int)))) (ess_one (es_ret (ev_lst (ea_cons (ev_tup (ea_cons (ev_tup (ea_cons ev_int (ea_cons (ev_op op_addAll od_add (ev_var 0) ev_int) (ea_cons (ev_op op_sub od_sub (ev_var 1) ev_int) ea_nil)))) (ea_cons ev_int (ea_cons (ev_gl (fa62 KX G c)) ea_nil)))) ea_nil)))) ess_nil) (ess_cons (es_asg (ev_op op_sub od_sub (ev_op op_addAll od_add (ev_var 0) (ev_op op_mulW od_mul ev_int (ev_var 1))) ev_int) (eg_name 3 nd_second_by)) (ess_cons (es_asg (ev_lstM (ea_cons (ev_tup (ea_cons (ev_tup (ea_cons ev_int (ea_cons (ev_var 0) (ea_cons (ev_op op_sub od_sub (ev_var 1) ev_int) ea_nil)))) (ea_cons ev_int (ea_cons (ev_callH (has_lowest KX G c TB) (hr.mono (by decide)) (fa64 KX G c) tk_fn (ea_cons ev_int (ea_cons (ev_var 3) ea_nil))) ea_nil)))) ea_nil)) (eg_name 4 nd_second_by)) (ess_cons (es_if (et_cmp op_gt od_gt (ev_var 0) ev_int) (ess_one (es_drop (ev_bm PySem.F.plainAttrs_list PySem.F.slot_list_append PySem.F.type_list_append (mt_append) md_append (ev_var 4) (ea_cons (ev_tup (ea_cons (ev_tup (ea_cons ev_int (ea_cons (ev_var 0) (ea_cons (ev_op op_sub od_sub (ev_var 1) ev_int) ea_nil)))) (ea_cons ev_int (ea_cons (ev_callH (has_lowest KX G c TB) (hr.mono (by decide)) (fa64 KX G c) tk_fn (ea_cons (ev_var 0) (ea_cons (ev_var 3) ea_nil))) ea_nil)))) ea_nil)))) ess_nil) (ess_cons (es_if (et_cmp op_gt od_gt (ev_var 1) ev_int) (ess_one (es_drop (ev_bm PySem.F.plainAttrs_list PySem.F.slot_list_append PySem.F.type_list_append (mt_append) md_append (ev_var 4) (ea_cons (ev_tup (ea_cons (ev_tup (ea_cons ev_int (ea_cons (ev_op op_addAll od_add (ev_var 0) ev_int) (ea_cons (ev_op op_sub od_sub (ev_var 1) ev_int) ea_nil)))) (ea_cons ev_int (ea_cons (ev_callH (has_lowest KX G c TB) (hr.mono (by decide)) (fa64 KX G c) tk_fn (ea_cons (ev_op op_sub od_sub (ev_op op_mulW od_mul ev_int (ev_var 1)) ev_int) (ea_cons (ev_var 3) ea_nil))) ea_nil)))) ea_nil)))) ess_nil) (ess_one (es_ret (ev_var 4))))))))
theorem has_second_by : Has P w K mg base (tbs K) 2 ((.g "second_by" : DAt).ad K) p_second_by m_second_by :=
  has_of (ps := p_second_by) (c.def_ 36) sc_second_by sealR_ok (fun _ _ _ _ _ _ us hl => match us, hl with | [_, _, _], _ => rfl) (body_second_by KX G c TB)
end
/-! ### times -/
abbrev s_times : Stmt := top 14
abbrev n_times : List Str := ["one", "two"]
abbrev p_times : List Str := ["one", "two"]
theorem nd_times : n_times.Nodup := by decide +kernel
theorem sc_times : FnScope n_times p_times (defScope s_times) := ⟨rfl, rfl, rfl, nd_times, rfl, by decide +kernel, by decide +kernel⟩
def b_times : MS := (mRet (mCall 2 m_lowest (mCons (mOp dMul (mOp dIx (mVar 0) (mC (.int 0))) (mOp dIx (mVar 1) (mC (.int 0)))) (mCons (mOp dMul (mOp dIx (mVar 0) (mC (.int 1))) (mOp dIx (mVar 1) (mC (.int 1)))) mNil))))
def m_times : List D → Sto → R D := fnM sealR 2 b_times
section
variable {P : Program} {w : World} {K : PySem.W.Frag} {mg : Str → Option Value} {base h : Heap} (KX : K.In h) (G : h.Ns mainGlobals mg) (c : SaysZ facts defs_ tabs_ tfs w h K) (TB : ∀ p ∈ css K, LamX.TabB base mg p.1 p.2)
include KX G c TB
theorem body_times : BodyOk P w K mg base (tbs K) 1 n_times "times" s_times ((.g "times" : DAt).ad K) b_times := fun cdv A outer s H E hcdv hr =>
  (ess_one (es_ret (ev_callH (has_lowest KX G c TB) (hr.mono (by decide)) (fa64 KX G c) tk_fn (ea_cons (ev_op op_mulW od_mul (ev_ix (ev_var 0) ev_int) (ev_ix (ev_var 1) ev_int)) (ea_cons (ev_op op_mulW od_mul (ev_ix (ev_var 0) ev_int) (ev_ix (ev_var 1) ev_int)) ea_nil)))))
theorem has_times : Has P w K mg base (tbs K) 2 ((.g "times" : DAt).ad K) p_times m_times :=
  has_of (ps := p_times) (c.def_ 37) sc_times sealR_ok (fun _ _ _ _ _ _ us hl => match us, hl with | [_, _], _ => rfl) (body_times KX G c TB)
end
/-! ### turned -/
abbrev s_turned : Stmt := top 32
abbrev n_turned : List Str := ["parts", "choice", "ready", "single", "hidden", "found", "shut", "new", "there", "taken", "chance"]
abbrev p_turned : List Str := ["parts", "choice"]
theorem nd_turned : n_turned.Nodup := by decide +kernel
theorem sc_turned : FnScope n_turned p_turned (defScope s_turned) := ⟨rfl, rfl, rfl, nd_turned, rfl, by decide +kernel, by decide +kernel⟩
def b_turned : MS := (mSeq (mAsg (mVar 0) (gTupM 3 (gConsM (gN 2) (gConsM (gN 3) (gConsM (gN 4) gNilM))))) (mSeq (mIfS (mTst (mOp dGt (mVar 2) (mC (.int 0)))) (mRet (mLst (mCons (mTup (mCons (mTup (mCons (mOp dSub (mVar 2) (mC (.int 1))) (mCons (mVar 3) (mCons (mVar 4) mNil)))) (mCons (mC (.int 1)) (mCons (mC (.tup [.int 1, .int 1])) mNil)))) mNil))) mNext) (mSeq (mPar 5 6 (mCons (mLstM mNil) (mCons (mCall 1 m_shut_in (mCons (mVar 0) mNil)) mNil))) (mSeq (mIfS (mTst (mOp dGt (mVar 3) (mC (.int 0)))) (mDrop (mBm "list" dAppend (mVar 5) (mCons (mTup (mCons (mTup (mCons (mC (.int 0)) (mCons (mOp dSub (mVar 3) (mC (.int 1))) (mCons (mVar 4) mNil)))) (mCons (mC (.int 1)) (mCons (mCall 2 m_lowest (mCons (mVar 3) (mCons (mVar 6) mNil))) mNil)))) mNil))) mNext) (mSeq (mIfS (mTst (mOp dGt (mVar 4) (mC (.int 0)))) (mSeq (mAsg (mCall 2 m_lowest (mCons (mOp dMul (mC (.int 2)) (mVar 4)) (mCons (mVar 6) mNil))) (gN 7)) (mDrop (mBm "list" dExtend (mVar 5) (mCons (mLc (mIter (mCall 3 m_second_by (mCons (mVar 3) (mCons (mVar 4) (mCons (mVar 1) mNil))))) (.tp [(.nm 8), (.nm 9), (.nm 10)]) mYes (mTup (mCons (mVar 8) (mCons (mVar 9) (mCons (mCall 2 m_times (mCons (mVar 7) (mCons (mVar 10) mNil))) mNil)))) [8, 9, 10]) mNil)))) mNext) (mRet (mVar 5)))))))
def m_turned : List D → Sto → R D := fnM sealR 11 b_turned
section
variable {P : Program} {w : World} {K : PySem.W.Frag} {mg : Str → Option Value} {base h : Heap} (KX : K.In h) (G : h.Ns mainGlobals mg) (c : SaysZ facts defs_ tabs_ tfs w h K) (TB : ∀ p ∈ css K, LamX.TabB base mg p.1 p.2)
include KX G c TB
theorem body_turned : BodyOk P w K mg base (tbs K) 2 n_turned "turned" s_turned ((.g "turned" : DAt).ad K) b_turned := fun cdv A outer s H E hcdv hr =>
  (ess_cons (es_asg (ev_var 0) (eg_tup rfl (egs_cons (eg_name 2 nd_turned) (egs_cons (eg_name 3 nd_turned) (egs_cons (eg_name 4 nd_turned) egs_nil))))) (ess_cons (es_if (et_cmp op_gt od_gt (ev_var 2) ev_int) (ess_one (es_ret (ev_lst (ea_cons (ev_tup (ea_cons (ev_tup (ea_cons (ev_op op_sub od_sub (ev_var 2) ev_int) (ea_cons (ev_var 3) (ea_cons (ev_var 4) ea_nil)))) (ea_cons ev_int (ea_cons (ev_gl (fa62 KX G c)) ea_nil)))) ea_nil)))) ess_nil) (ess_cons (es_par 5 6 (hc := rfl) (hN := nd_turned) (ha := (ea_cons (ev_lstM ea_nil) (ea_cons (ev_callH (has_shut_in KX G c TB) (hr.mono (by decide)) (fa63 KX G c) tk_fn (ea_cons (ev_var 0) ea_nil)) ea_nil)))) (ess_cons (es_if (et_cmp op_gt od_gt (ev_var 3) ev_int) (ess_one (es_drop (ev_bm PySem.F.plainAttrs_list PySem.F.slot_list_append PySem.F.type_list_append (mt_append) md_append (ev_var 5) (ea_cons (ev_tup (ea_cons (ev_tup (ea_cons ev_int (ea_cons (ev_op op_sub od_sub (ev_var 3) ev_int) (ea_cons (ev_var 4) ea_nil)))) (ea_cons ev_int (ea_cons (ev_callH (has_lowest KX G c TB) (hr.mono (by decide)) (fa64 KX G c) tk_fn (ea_cons (ev_var 3) (ea_cons (ev_var 6) ea_nil))) ea_nil)))) ea_nil)))) ess_nil) (ess_cons (es_if (et_cmp op_gt od_gt (ev_var 4) ev_int) (ess_cons (es_asg (ev_callH (has_lowest KX G c TB) (hr.mono (by decide)) (fa64 KX G c) tk_fn (ea_cons (ev_op op_mulW od_mul ev_int (ev_var 4)) (ea_cons (ev_var 6) ea_nil))) (eg_name 7 nd_turned)) (ess_one (es_drop (ev_bm PySem.F.plainAttrs_list PySem.F.slot_list_extend PySem.F.type_list_extend (mt_extendA) md_extend (ev_var 5) (ea_cons (ev_lc (own := [("there", 8), ("taken", 9), ("chance", 10)]) nd_turned (ei_any (ev_callH (has_second_by KX G c TB) (hr.mono (by decide)) (fa66 KX G c) tk_fn (ea_cons (ev_var 3) (ea_cons (ev_var 4) (ea_cons (ev_var 1) ea_nil))))) (blkOk_by rfl) (by decide) (fun _ _ _ _ _ => (pt_tup rfl (pt_cons (pt_name 8 nd_turned) (pt_cons (pt_name 9 nd_turned) (pt_cons (pt_name 10 nd_turned) pt_nil))))) (fun _ _ _ _ _ => ets_nil) (fun _ _ _ _ _ => (ev_tup (ea_cons (ev_var 8) (ea_cons (ev_var 9) (ea_cons (ev_callH (has_times KX G c TB) (hr.mono (by decide)) (fa67 KX G c) tk0 (ea_cons (ev_var 7) (ea_cons (ev_var 10) ea_nil))) ea_nil)))))) ea_nil))))) ess_nil) (ess_one (es_ret (ev_var 5))))))))
theorem has_turned : Has P w K mg base (tbs K) 3 ((.g "turned" : DAt).ad K) p_turned m_turned :=
  has_of (ps := p_turned) (c.def_ 38) sc_turned sealR_ok (fun _ _ _ _ _ _ us hl => match us, hl with | [_, _], _ => rfl) (body_turned KX G c TB)
end
/-! ### order_of -/
abbrev s_order_of : Stmt := top 33
abbrev n_order_of : List Str := ["parts", "ready", "single", "hidden"]
abbrev p_order_of : List Str := ["parts"]
theorem nd_order_of : n_order_of.Nodup := by decide +kernel
theorem sc_order_of : FnScope n_order_of p_order_of (defScope s_order_of) := ⟨rfl, rfl, rfl, nd_order_of, rfl, by decide +kernel, by decide +kernel⟩
def b_order_of : MS := (mSeq (mAsg (mVar 0) (gTupM 3 (gConsM (gN 1) (gConsM (gN 2) (gConsM (gN 3) gNilM))))) (mRet (mOp dAdd (mOp dAdd (mVar 1) (mOp dMul (mC (.int 2)) (mVar 2))) (mOp dMul (mC (.int 3)) (mVar 3)))))
def m_order_of : List D → Sto → R D := fnM sealR 4 b_order_of
section
variable {P : Program} {w : World} {K : PySem.W.Frag} {mg : Str → Option Value} {base h : Heap} (KX : K.In h) (G : h.Ns mainGlobals mg) (c : SaysZ facts defs_ tabs_ tfs w h K) (TB : ∀ p ∈ css K, LamX.TabB base mg p.1 p.2)
include KX G c TB
theorem body_order_of : BodyOk P w K mg base (tbs K) 0 n_order_of "order_of" s_order_of ((.g "order_of" : DAt).ad K) b_order_of := fun cdv A outer s H E hcdv hr =>
  (ess_cons (es_asg (ev_var 0) (eg_tup rfl (egs_cons (eg_name 1 nd_order_of) (egs_cons (eg_name 2 nd_order_of) (egs_cons (eg_name 3 nd_order_of) egs_nil))))) (ess_one (es_ret (ev_op op_addAll od_add (ev_op op_addAll od_add (ev_var 1) (ev_op op_mulW od_mul ev_int (ev_var 2))) (ev_op op_mulW od_mul ev_int (ev_var 3))))))
theorem has_order_of : Has P w K mg base (tbs K) 1 ((.g "order_of" : DAt).ad K) p_order_of m_order_of :=
  has_of (ps := p_order_of) (c.def_ 39) sc_order_of sealR_ok (fun _ _ _ _ _ _ us hl => match us, hl with | [_], _ => rfl) (body_order_of KX G c TB)
end
/-! ### reached -/
abbrev s_reached : Stmt := top 34
abbrev n_reached : List Str := ["parts", "found", "line", "here", "choice", "there", "_"]
abbrev p_reached : List Str := ["parts"]
theorem nd_reached : n_reached.Nodup := by decide +kernel
theorem sc_reached : FnScope n_reached p_reached (defScope s_reached) := ⟨rfl, rfl, rfl, nd_reached, rfl, by decide +kernel, by decide +kernel⟩
def b_reached : MS := (mSeq (mPar 1 2 (mCons (mDisp1 (mVar 0) (mC (.bl true))) (mCons (mLstM (mCons (mVar 0) mNil)) mNil))) (mSeq (whileM (mTst (mOp dNe (mVar 2) (mLst mNil))) (mSeq (mAsg (mBm "list" dPop (mVar 2) mNil) (gN 3)) (mFor (mIter (mCall 1 m_choices_in (mCons (mVar 3) mNil))) (gN 4) (mFor (mIter (mCall 2 m_turned (mCons (mVar 3) (mCons (mVar 4) mNil)))) (gTupM 3 (gConsM (gN 5) (gConsM (gN 6) (gConsM (gN 6) gNilM)))) (mIfS (mTst (mDIn true (mVar 5) (mVar 1))) (mSeq (mDPut (mVar 1) (mVar 5) (mC (.bl true))) (mDrop (mBm "list" dAppend (mVar 2) (mCons (mVar 5) mNil)))) mNext)))) 400) (mRet (mSortKey 1 [] (mTup (mCons (mCall 1 m_order_of (mCons (mVar 0) mNil)) (mCons (mVar 0) mNil))) (mVar 1)))))
def m_reached : List D → Sto → R D := fnM sealR 7 b_reached
section
variable {P : Program} {w : World} {K : PySem.W.Frag} {mg : Str → Option Value} {base h : Heap} (KX : K.In h) (G : h.Ns mainGlobals mg) (c : SaysZ facts defs_ tabs_ tfs w h K) (TB : ∀ p ∈ css K, LamX.TabB base mg p.1 p.2)
include KX G c TB
theorem body_reached : BodyOk P w K mg base (tbs K) 5 n_reached "reached" s_reached ((.g "reached" : DAt).ad K) b_reached := fun cdv A outer s H E hcdv hr =>
  (ess_cons (es_par 1 2 (hc := rfl) (hN := nd_reached) (ha := (ea_cons (ev_disp1 (hu_of hr) (ev_var 0) ev_bl) (ea_cons (ev_lstM (ea_cons (ev_var 0) ea_nil)) ea_nil)))) (ess_cons (es_while 400 (et_cmp (op_neD hr.units) od_ne (ev_var 2) (ev_lst ea_nil)) (ess_cons (es_asg (ev_bm0 PySem.F.plainAttrs_list PySem.F.slot_list_pop PySem.F.type_list_pop (mt_pop) md_pop (ev_var 2)) (eg_name 3 nd_reached)) (ess_one (es_for (ei_any (ev_callH (has_choices_in KX G c TB) (hr.mono (by decide)) (fa61 KX G c) tk_fn (ea_cons (ev_var 3) ea_nil))) (eg_name 4 nd_reached) (ess_one (es_for (ei_any (ev_callH (has_turned KX G c TB) (hr.mono (by decide)) (fa68 KX G c) tk_fn (ea_cons (ev_var 3) (ea_cons (ev_var 4) ea_nil)))) (eg_tup rfl (egs_cons (eg_name 5 nd_reached) (egs_cons (eg_name 6 nd_reached) (egs_cons (eg_name 6 nd_reached) egs_nil)))) (ess_one (es_if (et_dnotin (hu_of hr) (ev_var 5) (ev_var 1)) (ess_cons (es_dput (hu_of hr) (ev_var 1) (ev_var 5) ev_bl) (ess_one (es_drop (ev_bm PySem.F.plainAttrs_list PySem.F.slot_list_append PySem.F.type_list_append (mt_append) md_append (ev_var 2) (ea_cons (ev_var 5) ea_nil))))) ess_nil)) po_fn)) po_fn))) po_fn) (ess_one (es_ret (ev_sortKeyD (N := ["each"]) (fr := []) (x := "each") (k := 1) (nm := nmAll) (fa70 KX G c) (ev_var 1) rfl (hr.mono (by decide)) (TB _ (tf_mem_reached K)) (by exact hcdv) (tb_mem_reached K) (by rfl) (tb_uni K) (by rfl) (NdefX.nscope_by (by decide +kernel)) (hfree_none (by decide +kernel)) (by decide +kernel) (by rfl) (fun _ _ _ _ _ us hl => match us, hl with | [_], _ => rfl) (fun _ _ _ _ _ _ _ _ hr => (ev_tup (ea_cons (ev_callH (has_order_of KX G c TB) (hr.mono (by decide)) (fa69 KX G c) tk0 (ea_cons (ev_var 0) ea_nil)) (ea_cons (ev_var 0) ea_nil)))))))))
theorem has_reached : Has P w K mg base (tbs K) 6 ((.g "reached" : DAt).ad K) p_reached m_reached :=
  has_of (ps := p_reached) (c.def_ 40) sc_reached sealR_ok (fun _ _ _ _ _ _ us hl => match us, hl with | [_], _ => rfl) (body_reached KX G c TB)
end
/-! ### plus -/
abbrev s_plus : Stmt := top 12
abbrev n_plus : List Str := ["one", "two"]
abbrev p_plus : List Str := ["one", "two"]
theorem nd_plus : n_plus.Nodup := by decide +kernel
theorem sc_plus : FnScope n_plus p_plus (defScope s_plus) := ⟨rfl, rfl, rfl, nd_plus, rfl, by decide +kernel, by decide +kernel⟩
def b_plus : MS := (mRet (mCall 2 m_lowest (mCons (mOp dAdd (mOp dMul (mOp dIx (mVar 0) (mC (.int 0))) (mOp dIx (mVar 1) (mC (.int 1)))) (mOp dMul (mOp dIx (mVar 1) (mC (.int 0))) (mOp dIx (mVar 0) (mC (.int 1))))) (mCons (mOp dMul (mOp dIx (mVar 0) (mC (.int 1))) (mOp dIx (mVar 1) (mC (.int 1)))) mNil))))
def m_plus : List D → Sto → R D := fnM sealR 2 b_plus
section
variable {P : Program} {w : World} {K : PySem.W.Frag} {mg : Str → Option Value} {base h : Heap} (KX : K.In h) (G : h.Ns mainGlobals mg) (c : SaysZ facts defs_ tabs_ tfs w h K) (TB : ∀ p ∈ css K, LamX.TabB base mg p.1 p.2)
include KX G c TB
theorem body_plus : BodyOk P w K mg base (tbs K) 1 n_plus "plus" s_plus ((.g "plus" : DAt).ad K) b_plus := fun cdv A outer s H E hcdv hr =>
  (ess_one (es_ret (ev_callH (has_lowest KX G c TB) (hr.mono (by decide)) (fa64 KX G c) tk_fn (ea_cons (ev_op op_addAll od_add (ev_op op_mulW od_mul (ev_ix (ev_var 0) ev_int) (ev_ix (ev_var 1) ev_int)) (ev_op op_mulW od_mul (ev_ix (ev_var 1) ev_int) (ev_ix (ev_var 0) ev_int))) (ea_cons (ev_op op_mulW od_mul (ev_ix (ev_var 0) ev_int) (ev_ix (ev_var 1) ev_int)) ea_nil)))))
theorem has_plus : Has P w K mg base (tbs K) 2 ((.g "plus" : DAt).ad K) p_plus m_plus :=
  has_of (ps := p_plus) (c.def_ 41) sc_plus sealR_ok (fun _ _ _ _ _ _ us hl => match us, hl with | [_, _], _ => rfl) (body_plus KX G c TB)
end
/-! ### total -/
abbrev s_total : Stmt := top 16
abbrev n_total : List Str := ["some", "found", "each"]
abbrev p_total : List Str := ["some"]
theorem nd_total : n_total.Nodup := by decide +kernel
theorem sc_total : FnScope n_total p_total (defScope s_total) := ⟨rfl, rfl, rfl, nd_total, rfl, by decide +kernel, by decide +kernel⟩
def b_total : MS := (mSeq (mAsg (mC (.tup [.int 0, .int 1])) (gN 1)) (mSeq (mFor (mIter (mVar 0)) (gN 2) (mAsg (mCall 2 m_plus (mCons (mVar 1) (mCons (mVar 2) mNil))) (gN 1))) (mRet (mVar 1))))
def m_total : List D → Sto → R D := fnM sealR 3 b_total
section
variable {P : Program} {w : World} {K : PySem.W.Frag} {mg : Str → Option Value} {base h : Heap} (KX : K.In h) (G : h.Ns mainGlobals mg) (c : SaysZ facts defs_ tabs_ tfs w h K) (TB : ∀ p ∈ css K, LamX.TabB base mg p.1 p.2)
include KX G c TB
theorem body_total : BodyOk P w K mg base (tbs K) 2 n_total "total" s_total ((.g "total" : DAt).ad K) b_total := fun cdv A outer s H E hcdv hr =>
  (ess_cons (es_asg (ev_gl (fa40 KX G c)) (eg_name 1 nd_total)) (ess_cons (es_for (ei_any (ev_var 0)) (eg_name 2 nd_total) (ess_one (es_asg (ev_callH (has_plus KX G c TB) (hr.mono (by decide)) (fa72 KX G c) tk_fn (ea_cons (ev_var 1) (ea_cons (ev_var 2) ea_nil))) (eg_name 1 nd_total))) po_fn) (ess_one (es_ret (ev_var 1)))))
theorem has_total : Has P w K mg base (tbs K) 3 ((.g "total" : DAt).ad K) p_total m_total :=
  has_of (ps := p_total) (c.def_ 42) sc_total sealR_ok (fun _ _ _ _ _ _ us hl => match us, hl with | [_], _ => rfl) (body_total KX G c TB)
end
/-! ### mean_with -/
abbrev s_mean_with : Stmt := top 36
abbrev n_mean_with : List Str := ["told", "parts", "choice", "there", "_", "chance"]
abbrev p_mean_with : List Str := ["told", "parts", "choice"]
theorem nd_mean_with : n_mean_with.Nodup := by decide +kernel
theorem sc_mean_with : FnScope n_mean_with p_mean_with (defScope s_mean_with) := ⟨rfl, rfl, rfl, nd_mean_with, rfl, by decide +kernel, by decide +kernel⟩
def b_mean_with : MS := (mRet (mCall 2 m_plus (mCons (mC (.tup [.int 1, .int 1])) (mCons (mCall 1 m_total (mCons (mLc (mIter (mCall 2 m_turned (mCons (mVar 1) (mCons (mVar 2) mNil)))) (.tp [(.nm 3), (.nm 4), (.nm 5)]) mYes (mCall 2 m_times (mCons (mVar 5) (mCons (mDGet (mVar 0) (mVar 3)) mNil))) [3, 4, 5]) mNil)) mNil))))
def m_mean_with : List D → Sto → R D := fnM sealR 6 b_mean_with
section
variable {P : Program} {w : World} {K : PySem.W.Frag} {mg : Str → Option Value} {base h : Heap} (KX : K.In h) (G : h.Ns mainGlobals mg) (c : SaysZ facts defs_ tabs_ tfs w h K) (TB : ∀ p ∈ css K, LamX.TabB base mg p.1 p.2)
include KX G c TB
theorem body_mean_with : BodyOk P w K mg base (tbs K) 3 n_mean_with "mean_with" s_mean_with ((.g "mean_with" : DAt).ad K) b_mean_with := fun cdv A outer s H E hcdv hr =>
  (ess_one (es_ret (ev_callH (has_plus KX G c TB) (hr.mono (by decide)) (fa72 KX G c) tk_fn (ea_cons (ev_gl (fa62 KX G c)) (ea_cons (ev_callH (has_total KX G c TB) (hr.mono (by decide)) (fa73 KX G c) tk_fn (ea_cons (ev_lc (own := [("there", 3), ("_", 4), ("chance", 5)]) nd_mean_with (ei_any (ev_callH (has_turned KX G c TB) (hr.mono (by decide)) (fa68 KX G c) tk_fn (ea_cons (ev_var 1) (ea_cons (ev_var 2) ea_nil)))) (blkOk_by rfl) (by decide) (fun _ _ _ _ _ => (pt_tup rfl (pt_cons (pt_name 3 nd_mean_with) (pt_cons (pt_name 4 nd_mean_with) (pt_cons (pt_name 5 nd_mean_with) pt_nil))))) (fun _ _ _ _ _ => ets_nil) (fun _ _ _ _ _ => (ev_callH (has_times KX G c TB) (hr.mono (by decide)) (fa67 KX G c) tk0 (ea_cons (ev_var 5) (ea_cons (ev_dget (hu_of hr) (ev_var 0) (ev_var 3)) ea_nil))))) ea_nil)) ea_nil)))))
theorem has_mean_with : Has P w K mg base (tbs K) 4 ((.g "mean_with" : DAt).ad K) p_mean_with m_mean_with :=
  has_of (ps := p_mean_with) (c.def_ 43) sc_mean_with sealR_ok (fun _ _ _ _ _ _ us hl => match us, hl with | [_, _, _], _ => rfl) (body_mean_with KX G c TB)
end
/-! ### choice_for -/
abbrev s_choice_for : Stmt := top 30
abbrev n_choice_for : List Str := ["parts", "habit"]
abbrev p_choice_for : List Str := ["parts", "habit"]
theorem nd_choice_for : n_choice_for.Nodup := by decide +kernel
theorem sc_choice_for : FnScope n_choice_for p_choice_for (defScope s_choice_for) := ⟨rfl, rfl, rfl, nd_choice_for, rfl, by decide +kernel, by decide +kernel⟩
def b_choice_for : MS := (mSeq (mIfS (mNot (mTst (mCall 1 m_has_choice_statework (mCons (mVar 0) mNil)))) (mRet (mC (.str "shut"))) mNext) (mSeq (mIfS (mTst (mOp dEq (mVar 1) (mC (.str "turns")))) (mRet (mIf (mTst (mOp dEq (mOp dMod (mOp dSub (mCall 1 m_shut_in (mCons (mVar 0) mNil)) (mC (.int 1))) (mC (.int 2))) (mC (.int 0)))) (mC (.str "shut")) (mC (.str "open")))) mNext) (mRet (mVar 1))))
def m_choice_for : List D → Sto → R D := fnM sealR 2 b_choice_for
section
variable {P : Program} {w : World} {K : PySem.W.Frag} {mg : Str → Option Value} {base h : Heap} (KX : K.In h) (G : h.Ns mainGlobals mg) (c : SaysZ facts defs_ tabs_ tfs w h K) (TB : ∀ p ∈ css K, LamX.TabB base mg p.1 p.2)
include KX G c TB
theorem body_choice_for : BodyOk P w K mg base (tbs K) 1 n_choice_for "choice_for" s_choice_for ((.g "choice_for" : DAt).ad K) b_choice_for := fun cdv A outer s H E hcdv hr =>
  (ess_cons (es_if (et_not (et_val (ev_callH (has_has_choice_statework KX G c TB) (hr.mono (by decide)) (fa59 KX G c) tk_fn (ea_cons (ev_var 0) ea_nil)))) (ess_one (es_ret (ev_gl (fa74 KX G c)))) ess_nil) (ess_cons (es_if (et_cmp (op_eqD hr.units) od_eq (ev_var 1) (ev_gl (fa75 KX G c))) (ess_one (es_ret (ev_if (et_cmp (op_eqD hr.units) od_eq (ev_op op_mod od_mod (ev_op op_sub od_sub (ev_callH (has_shut_in KX G c TB) (hr.mono (by decide)) (fa63 KX G c) tk_fn (ea_cons (ev_var 0) ea_nil)) ev_int) ev_int) ev_int) (ev_gl (fa74 KX G c)) (ev_gl (fa65 KX G c))))) ess_nil) (ess_one (es_ret (ev_var 1)))))
theorem has_choice_for : Has P w K mg base (tbs K) 2 ((.g "choice_for" : DAt).ad K) p_choice_for m_choice_for :=
  has_of (ps := p_choice_for) (c.def_ 44) sc_choice_for sealR_ok (fun _ _ _ _ _ _ us hl => match us, hl with | [_, _], _ => rfl) (body_choice_for KX G c TB)
end
/-! ### habit_means -/
abbrev s_habit_means : Stmt := top 37
abbrev n_habit_means : List Str := ["parts", "habit", "told", "here"]
abbrev p_habit_means : List Str := ["parts", "habit"]
theorem nd_habit_means : n_habit_means.Nodup := by decide +kernel
theorem sc_habit_means : FnScope n_habit_means p_habit_means (defScope s_habit_means) := ⟨rfl, rfl, rfl, nd_habit_means, rfl, by decide +kernel, by decide +kernel⟩
def b_habit_means : MS := (mSeq (mAsg (mDisp1 (mC (.tup [.int 0, .int 0, .int 0])) (mC (.tup [.int 0, .int 1]))) (gN 2)) (mSeq (mFor (mIter (mCall 1 m_reached (mCons (mVar 0) mNil))) (gN 3) (mDPut (mVar 2) (mVar 3) (mIf (mTst (mOp dNe (mVar 3) (mC (.tup [.int 0, .int 0, .int 0])))) (mCall 3 m_mean_with (mCons (mVar 2) (mCons (mVar 3) (mCons (mCall 2 m_choice_for (mCons (mVar 3) (mCons (mVar 1) mNil))) mNil)))) (mC (.tup [.int 0, .int 1]))))) (mRet (mVar 2))))
def m_habit_means : List D → Sto → R D := fnM sealR 4 b_habit_means
section
variable {P : Program} {w : World} {K : PySem.W.Frag} {mg : Str → Option Value} {base h : Heap} (KX : K.In h) (G : h.Ns mainGlobals mg) (c : SaysZ facts defs_ tabs_ tfs w h K) (TB : ∀ p ∈ css K, LamX.TabB base mg p.1 p.2)
include KX G c TB
theorem body_habit_means : BodyOk P w K mg base (tbs K) 6 n_habit_means "habit_means" s_habit_means ((.g "habit_means" : DAt).ad K) b_habit_means := fun cdv A outer s H E hcdv hr =>
  (ess_cons (es_asg (ev_disp1 (hu_of hr) (ev_gl (fa58 KX G c)) (ev_gl (fa40 KX G c))) (eg_name 2 nd_habit_means)) (ess_cons (es_for (ei_any (ev_callH (has_reached KX G c TB) (hr.mono (by decide)) (fa71 KX G c) tk_fn (ea_cons (ev_var 0) ea_nil))) (eg_name 3 nd_habit_means) (ess_one (es_dput (hu_of hr) (ev_var 2) (ev_var 3) (ev_if (et_cmp (op_neD hr.units) od_ne (ev_var 3) (ev_gl (fa58 KX G c))) (ev_callH (has_mean_with KX G c TB) (hr.mono (by decide)) (fa77 KX G c) tk_fn (ea_cons (ev_var 2) (ea_cons (ev_var 3) (ea_cons (ev_callH (has_choice_for KX G c TB) (hr.mono (by decide)) (fa76 KX G c) tk_fn (ea_cons (ev_var 3) (ea_cons (ev_var 1) ea_nil))) ea_nil)))) (ev_gl (fa40 KX G c))))) po_fn) (ess_one (es_ret (ev_var 2)))))
theorem has_habit_means : Has P w K mg base (tbs K) 7 ((.g "habit_means" : DAt).ad K) p_habit_means m_habit_means :=
  has_of (ps := p_habit_means) (c.def_ 45) sc_habit_means sealR_ok (fun _ _ _ _ _ _ us hl => match us, hl with | [_, _], _ => rfl) (body_habit_means KX G c TB)
end
/-! ### habit_mean -/
abbrev s_habit_mean : Stmt := top 38
abbrev n_habit_mean : List Str := ["parts", "habit"]
abbrev p_habit_mean : List Str := ["parts", "habit"]
theorem nd_habit_mean : n_habit_mean.Nodup := by decide +kernel
theorem sc_habit_mean : FnScope n_habit_mean p_habit_mean (defScope s_habit_mean) := ⟨rfl, rfl, rfl, nd_habit_mean, rfl, by decide +kernel, by decide +kernel⟩
def b_habit_mean : MS := (mRet (mDGet (mCall 2 m_habit_means (mCons (mVar 0) (mCons (mVar 1) mNil))) (mVar 0)))
def m_habit_mean : List D → Sto → R D := fnM sealR 2 b_habit_mean
section
variable {P : Program} {w : World} {K : PySem.W.Frag} {mg : Str → Option Value} {base h : Heap} (KX : K.In h) (G : h.Ns mainGlobals mg) (c : SaysZ facts defs_ tabs_ tfs w h K) (TB : ∀ p ∈ css K, LamX.TabB base mg p.1 p.2)
include KX G c TB
theorem body_habit_mean : BodyOk P w K mg base (tbs K) 7 n_habit_mean "habit_mean" s_habit_mean ((.g "habit_mean" : DAt).ad K) b_habit_mean := fun cdv A outer s H E hcdv hr =>
  (ess_one (es_ret (ev_dget (hu_of hr) (ev_callH (has_habit_means KX G c TB) (hr.mono (by decide)) (fa78 KX G c) tk_fn (ea_cons (ev_var 0) (ea_cons (ev_var 1) ea_nil))) (ev_var 0))))
theorem has_habit_mean : Has P w K mg base (tbs K) 8 ((.g "habit_mean" : DAt).ad K) p_habit_mean m_habit_mean :=
  has_of (ps := p_habit_mean) (c.def_ 46) sc_habit_mean sealR_ok (fun _ _ _ _ _ _ us hl => match us, hl with | [_, _], _ => rfl) (body_habit_mean KX G c TB)
end
/-! ### Case.habit -/
abbrev s_Case_habit : Stmt := inClass (top 84) 2
abbrev n_Case_habit : List Str := ["self"]
abbrev p_Case_habit : List Str := ["self"]
theorem nd_Case_habit : n_Case_habit.Nodup := by decide +kernel
theorem sc_Case_habit : FnScope n_Case_habit p_Case_habit (defScope s_Case_habit) := ⟨rfl, rfl, rfl, nd_Case_habit, rfl, by decide +kernel, by decide +kernel⟩
def b_Case_habit : MS := (mRet (mOp dIx (mFld "Case" "all_of_it" (mVar 0)) (mC (.int 1))))
def m_Case_habit : List D → Sto → R D := fnM sealR 1 b_Case_habit
section
variable {P : Program} {w : World} {K : PySem.W.Frag} {mg : Str → Option Value} {base h : Heap} (KX : K.In h) (G : h.Ns mainGlobals mg) (c : SaysZ facts defs_ tabs_ tfs w h K) (TB : ∀ p ∈ css K, LamX.TabB base mg p.1 p.2)
include KX G c TB
theorem body_Case_habit : BodyOk P w K mg base (tbs K) 0 n_Case_habit "Case.habit" s_Case_habit ((.p "Case" "habit" : DAt).ad K) b_Case_habit := fun cdv A outer s H E hcdv hr =>
  (ess_one (es_ret (ev_ix (ev_fld (ev_var 0) (fa42 KX G c) (fa43 KX G c).cl (fa44 KX G c)) ev_int)))
theorem has_Case_habit : Has P w K mg base (tbs K) 1 ((.p "Case" "habit" : DAt).ad K) p_Case_habit m_Case_habit :=
  has_of (ps := p_Case_habit) (c.def_ 47) sc_Case_habit sealR_ok (fun _ _ _ _ _ _ us hl => match us, hl with | [_], _ => rfl) (body_Case_habit KX G c TB)
end
/-! ### Case.state -/
abbrev s_Case_state : Stmt := inClass (top 84) 1
abbrev n_Case_state : List Str := ["self"]
abbrev p_Case_state : List Str := ["self"]
theorem nd_Case_state : n_Case_state.Nodup := by decide +kernel
theorem sc_Case_state : FnScope n_Case_state p_Case_state (defScope s_Case_state) := ⟨rfl, rfl, rfl, nd_Case_state, rfl, by decide +kernel, by decide +kernel⟩
def b_Case_state : MS := (mRet (mOp dIx (mFld "Case" "all_of_it" (mVar 0)) (mC (.int 0))))
def m_Case_state : List D → Sto → R D := fnM sealR 1 b_Case_state
section
variable {P : Program} {w : World} {K : PySem.W.Frag} {mg : Str → Option Value} {base h : Heap} (KX : K.In h) (G : h.Ns mainGlobals mg) (c : SaysZ facts defs_ tabs_ tfs w h K) (TB : ∀ p ∈ css K, LamX.TabB base mg p.1 p.2)
include KX G c TB
theorem body_Case_state : BodyOk P w K mg base (tbs K) 0 n_Case_state "Case.state" s_Case_state ((.p "Case" "state" : DAt).ad K) b_Case_state := fun cdv A outer s H E hcdv hr =>
  (ess_one (es_ret (ev_ix (ev_fld (ev_var 0) (fa42 KX G c) (fa43 KX G c).cl (fa44 KX G c)) ev_int)))
theorem has_Case_state : Has P w K mg base (tbs K) 1 ((.p "Case" "state" : DAt).ad K) p_Case_state m_Case_state :=
  has_of (ps := p_Case_state) (c.def_ 48) sc_Case_state sealR_ok (fun _ _ _ _ _ _ us hl => match us, hl with | [_], _ => rfl) (body_Case_state KX G c TB)
end
/-! ### State.parts -/
abbrev s_State_parts : Stmt := inClass (top 77) 4
abbrev n_State_parts : List Str := ["self"]
abbrev p_State_parts : List Str := ["self"]
theorem nd_State_parts : n_State_parts.Nodup := by decide +kernel
theorem sc_State_parts : FnScope n_State_parts p_State_parts (defScope s_State_parts) := ⟨rfl, rfl, rfl, nd_State_parts, rfl, by decide +kernel, by decide +kernel⟩
def b_State_parts : MS := (mRet (mFld "State" "all_told" (mVar 0)))
def m_State_parts : List D → Sto → R D := fnM sealR 1 b_State_parts
section
variable {P : Program} {w : World} {K : PySem.W.Frag} {mg : Str → Option Value} {base h : Heap} (KX : K.In h) (G : h.Ns mainGlobals mg) (c : SaysZ facts defs_ tabs_ tfs w h K) (TB : ∀ p ∈ css K, LamX.TabB base mg p.1 p.2)
include KX G c TB
theorem body_State_parts : BodyOk P w K mg base (tbs K) 0 n_State_parts "State.parts" s_State_parts ((.p "State" "parts" : DAt).ad K) b_State_parts := fun cdv A outer s H E hcdv hr =>
  (ess_one (es_ret (ev_fld (ev_var 0) (fa47 KX G c) (fa48 KX G c).cl (fa49 KX G c))))
theorem has_State_parts : Has P w K mg base (tbs K) 1 ((.p "State" "parts" : DAt).ad K) p_State_parts m_State_parts :=
  has_of (ps := p_State_parts) (c.def_ 49) sc_State_parts sealR_ok (fun _ _ _ _ _ _ us hl => match us, hl with | [_], _ => rfl) (body_State_parts KX G c TB)
end
/-! ### Case.most -/
abbrev s_Case_most : Stmt := inClass (top 84) 4
abbrev n_Case_most : List Str := ["self"]
abbrev p_Case_most : List Str := ["self"]
theorem nd_Case_most : n_Case_most.Nodup := by decide +kernel
theorem sc_Case_most : FnScope n_Case_most p_Case_most (defScope s_Case_most) := ⟨rfl, rfl, rfl, nd_Case_most, rfl, by decide +kernel, by decide +kernel⟩
def b_Case_most : MS := (mRet (mOp dIx (mFld "Case" "all_of_it" (mVar 0)) (mC (.int 3))))
def m_Case_most : List D → Sto → R D := fnM sealR 1 b_Case_most
section
variable {P : Program} {w : World} {K : PySem.W.Frag} {mg : Str → Option Value} {base h : Heap} (KX : K.In h) (G : h.Ns mainGlobals mg) (c : SaysZ facts defs_ tabs_ tfs w h K) (TB : ∀ p ∈ css K, LamX.TabB base mg p.1 p.2)
include KX G c TB
theorem body_Case_most : BodyOk P w K mg base (tbs K) 0 n_Case_most "Case.most" s_Case_most ((.p "Case" "most" : DAt).ad K) b_Case_most := fun cdv A outer s H E hcdv hr =>
  (ess_one (es_ret (ev_ix (ev_fld (ev_var 0) (fa42 KX G c) (fa43 KX G c).cl (fa44 KX G c)) ev_int)))
theorem has_Case_most : Has P w K mg base (tbs K) 1 ((.p "Case" "most" : DAt).ad K) p_Case_most m_Case_most :=
  has_of (ps := p_Case_most) (c.def_ 50) sc_Case_most sealR_ok (fun _ _ _ _ _ _ us hl => match us, hl with | [_], _ => rfl) (body_Case_most KX G c TB)
end
/-! ### mean_stories -/
abbrev s_mean_stories : Stmt := top 61
abbrev n_mean_stories : List Str := ["case", "found"]
abbrev p_mean_stories : List Str := ["case"]
theorem nd_mean_stories : n_mean_stories.Nodup := by decide +kernel
theorem sc_mean_stories : FnScope n_mean_stories p_mean_stories (defScope s_mean_stories) := ⟨rfl, rfl, rfl, nd_mean_stories, rfl, by decide +kernel, by decide +kernel⟩
def b_mean_stories : MS := (mSeq (mAsg (mCall 2 m_habit_mean (mCons (mProp "State" 1 (fun ds st => noX (m_State_parts ds st)) (mProp "Case" 1 (fun ds st => noX (m_Case_state ds st)) (mVar 0))) (mCons (mProp "Case" 1 (fun ds st => noX (m_Case_habit ds st)) (mVar 0)) mNil))) (gN 1)) (mRet (mIf (mTst (mCall 2 m_is_less (mCons (mProp "Case" 1 (fun ds st => noX (m_Case_most ds st)) (mVar 0)) (mCons (mVar 1) mNil)))) (mLst (mCons (mTup (mCons (mC (.str "mean")) (mCons (mVar 1) mNil))) mNil)) (mLst mNil))))
def m_mean_stories : List D → Sto → R D := fnM sealR 2 b_mean_stories
section
variable {P : Program} {w : World} {K : PySem.W.Frag} {mg : Str → Option Value} {base h : Heap} (KX : K.In h) (G : h.Ns mainGlobals mg) (c : SaysZ facts defs_ tabs_ tfs w h K) (TB : ∀ p ∈ css K, LamX.TabB base mg p.1 p.2)
include KX G c TB
theorem body_mean_stories : BodyOk P w K mg base (tbs K) 8 n_mean_stories "mean_stories" s_mean_stories ((.g "mean_stories" : DAt).ad K) b_mean_stories := fun cdv A outer s H E hcdv hr =>
  (ess_cons (es_asg (ev_callH (has_habit_mean KX G c TB) (hr.mono (by decide)) (fa82 KX G c) tk_fn (ea_cons (ev_propH (has_State_parts KX G c TB) (hr.mono (by decide)) (fa47 KX G c) (fa48 KX G c) (fa81 KX G c) (ev_propH (has_Case_state KX G c TB) (hr.mono (by decide)) (fa42 KX G c) (fa43 KX G c) (fa80 KX G c) (ev_var 0))) (ea_cons (ev_propH (has_Case_habit KX G c TB) (hr.mono (by decide)) (fa42 KX G c) (fa43 KX G c) (fa79 KX G c) (ev_var 0)) ea_nil))) (eg_name 1 nd_mean_stories)) (ess_one (es_ret (ev_if (et_val (ev_callH (has_is_less KX G c TB) (hr.mono (by decide)) (fa41 KX G c) tk_fn (ea_cons (ev_propH (has_Case_most KX G c TB) (hr.mono (by decide)) (fa42 KX G c) (fa43 KX G c) (fa83 KX G c) (ev_var 0)) (ea_cons (ev_var 1) ea_nil)))) (ev_lst (ea_cons (ev_tup (ea_cons (ev_gl (fa84 KX G c)) (ea_cons (ev_var 1) ea_nil))) ea_nil)) (ev_lst ea_nil)))))
theorem has_mean_stories : Has P w K mg base (tbs K) 9 ((.g "mean_stories" : DAt).ad K) p_mean_stories m_mean_stories :=
  has_of (ps := p_mean_stories) (c.def_ 51) sc_mean_stories sealR_ok (fun _ _ _ _ _ _ us hl => match us, hl with | [_], _ => rfl) (body_mean_stories KX G c TB)
end
/-! ### worst_with -/
abbrev s_worst_with : Stmt := top 54
abbrev n_worst_with : List Str := ["told", "parts", "choice", "there", "_"]
abbrev p_worst_with : List Str := ["told", "parts", "choice"]
theorem nd_worst_with : n_worst_with.Nodup := by decide +kernel
theorem sc_worst_with : FnScope n_worst_with p_worst_with (defScope s_worst_with) := ⟨rfl, rfl, rfl, nd_worst_with, rfl, by decide +kernel, by decide +kernel⟩
def b_worst_with : MS := (mRet (mOp dAdd (mC (.int 1)) (mBi dMaxL (mCons (mLc (mIter (mCall 2 m_turned (mCons (mVar 1) (mCons (mVar 2) mNil)))) (.tp [(.nm 3), (.nm 4), (.nm 4)]) mYes (mDGet (mVar 0) (mVar 3)) [3, 4]) mNil))))
def m_worst_with : List D → Sto → R D := fnM sealR 5 b_worst_with
section
variable {P : Program} {w : World} {K : PySem.W.Frag} {mg : Str → Option Value} {base h : Heap} (KX : K.In h) (G : h.Ns mainGlobals mg) (c : SaysZ facts defs_ tabs_ tfs w h K) (TB : ∀ p ∈ css K, LamX.TabB base mg p.1 p.2)
include KX G c TB
theorem body_worst_with : BodyOk P w K mg base (tbs K) 3 n_worst_with "worst_with" s_worst_with ((.g "worst_with" : DAt).ad K) b_worst_with := fun cdv A outer s H E hcdv hr =>
  (ess_one (es_ret (ev_op op_addAll od_add ev_int (ev_bi (cr_max rfl) cd_maxL (fa2 KX G c) (by decide +kernel) (ea_cons (ev_lc (own := [("there", 3), ("_", 4)]) nd_worst_with (ei_any (ev_callH (has_turned KX G c TB) (hr.mono (by decide)) (fa68 KX G c) tk_fn (ea_cons (ev_var 1) (ea_cons (ev_var 2) ea_nil)))) (blkOk_by rfl) (by decide) (fun _ _ _ _ _ => (pt_tup rfl (pt_cons (pt_name 3 nd_worst_with) (pt_cons (pt_name 4 nd_worst_with) (pt_cons (pt_name 4 nd_worst_with) pt_nil))))) (fun _ _ _ _ _ => ets_nil) (fun _ _ _ _ _ => (ev_dget (hu_of hr) (ev_var 0) (ev_var 3)))) ea_nil)))))
theorem has_worst_with : Has P w K mg base (tbs K) 4 ((.g "worst_with" : DAt).ad K) p_worst_with m_worst_with :=
  has_of (ps := p_worst_with) (c.def_ 52) sc_worst_with sealR_ok (fun _ _ _ _ _ _ us hl => match us, hl with | [_, _, _], _ => rfl) (body_worst_with KX G c TB)
end
/-! ### worst_by -/
abbrev s_worst_by : Stmt := top 55
abbrev n_worst_by : List Str := ["parts", "told", "here", "choice"]
abbrev p_worst_by : List Str := ["parts"]
theorem nd_worst_by : n_worst_by.Nodup := by decide +kernel
theorem sc_worst_by : FnScope n_worst_by p_worst_by (defScope s_worst_by) := ⟨rfl, rfl, rfl, nd_worst_by, rfl, by decide +kernel, by decide +kernel⟩
def b_worst_by : MS := (mSeq (mAsg (mDisp1 (mC (.tup [.int 0, .int 0, .int 0])) (mC (.int 0))) (gN 1)) (mSeq (mFor (mIter (mCall 1 m_reached (mCons (mVar 0) mNil))) (gN 2) (mIfS (mTst (mOp dNe (mVar 2) (mC (.tup [.int 0, .int 0, .int 0])))) (mDPut (mVar 1) (mVar 2) (mBi dMinL (mCons (mLc (mIter (mCall 1 m_choices_in (mCons (mVar 2) mNil))) (.nm 3) mYes (mCall 3 m_worst_with (mCons (mVar 1) (mCons (mVar 2) (mCons (mVar 3) mNil)))) [3]) mNil))) mNext)) (mRet (mDGet (mVar 1) (mVar 0)))))
def m_worst_by : List D → Sto → R D := fnM sealR 4 b_worst_by
section
variable {P : Program} {w : World} {K : PySem.W.Frag} {mg : Str → Option Value} {base h : Heap} (KX : K.In h) (G : h.Ns mainGlobals mg) (c : SaysZ facts defs_ tabs_ tfs w h K) (TB : ∀ p ∈ css K, LamX.TabB base mg p.1 p.2)
include KX G c TB
theorem body_worst_by : BodyOk P w K mg base (tbs K) 6 n_worst_by "worst_by" s_worst_by ((.g "worst_by" : DAt).ad K) b_worst_by := fun cdv A outer s H E hcdv hr =>
  (ess_cons (es_asg (ev_disp1 (hu_of hr) (ev_gl (fa58 KX G c)) ev_int) (eg_name 1 nd_worst_by)) (ess_cons (es_for (ei_any (ev_callH (has_reached KX G c TB) (hr.mono (by decide)) (fa71 KX G c) tk_fn (ea_cons (ev_var 0) ea_nil))) (eg_name 2 nd_worst_by) (ess_one (es_if (et_cmp (op_neD hr.units) od_ne (ev_var 2) (ev_gl (fa58 KX G c))) (ess_one (es_dput (hu_of hr) (ev_var 1) (ev_var 2) (ev_bi (cr_min rfl) cd_minL (fa1 KX G c) (by decide +kernel) (ea_cons (ev_lc (own := [("choice", 3)]) nd_worst_by (ei_any (ev_callH (has_choices_in KX G c TB) (hr.mono (by decide)) (fa61 KX G c) tk_fn (ea_cons (ev_var 2) ea_nil))) (blkOk_by rfl) (by decide) (fun _ _ _ _ _ => (pt_name 3 nd_worst_by)) (fun _ _ _ _ _ => ets_nil) (fun _ _ _ _ _ => (ev_callH (has_worst_with KX G c TB) (hr.mono (by decide)) (fa85 KX G c) tk0 (ea_cons (ev_var 1) (ea_cons (ev_var 2) (ea_cons (ev_var 3) ea_nil)))))) ea_nil)))) ess_nil)) po_fn) (ess_one (es_ret (ev_dget (hu_of hr) (ev_var 1) (ev_var 0))))))
theorem has_worst_by : Has P w K mg base (tbs K) 7 ((.g "worst_by" : DAt).ad K) p_worst_by m_worst_by :=
  has_of (ps := p_worst_by) (c.def_ 53) sc_worst_by sealR_ok (fun _ _ _ _ _ _ us hl => match us, hl with | [_], _ => rfl) (body_worst_by KX G c TB)
end
/-! ### Case.number -/
abbrev s_Case_number : Stmt := inClass (top 84) 3
abbrev n_Case_number : List Str := ["self"]
abbrev p_Case_number : List Str := ["self"]
theorem nd_Case_number : n_Case_number.Nodup := by decide +kernel
theorem sc_Case_number : FnScope n_Case_number p_Case_number (defScope s_Case_number) := ⟨rfl, rfl, rfl, nd_Case_number, rfl, by decide +kernel, by decide +kernel⟩
def b_Case_number : MS := (mRet (mOp dIx (mFld "Case" "all_of_it" (mVar 0)) (mC (.int 2))))
def m_Case_number : List D → Sto → R D := fnM sealR 1 b_Case_number
section
variable {P : Program} {w : World} {K : PySem.W.Frag} {mg : Str → Option Value} {base h : Heap} (KX : K.In h) (G : h.Ns mainGlobals mg) (c : SaysZ facts defs_ tabs_ tfs w h K) (TB : ∀ p ∈ css K, LamX.TabB base mg p.1 p.2)
include KX G c TB
theorem body_Case_number : BodyOk P w K mg base (tbs K) 0 n_Case_number "Case.number" s_Case_number ((.p "Case" "number" : DAt).ad K) b_Case_number := fun cdv A outer s H E hcdv hr =>
  (ess_one (es_ret (ev_ix (ev_fld (ev_var 0) (fa42 KX G c) (fa43 KX G c).cl (fa44 KX G c)) ev_int)))
theorem has_Case_number : Has P w K mg base (tbs K) 1 ((.p "Case" "number" : DAt).ad K) p_Case_number m_Case_number :=
  has_of (ps := p_Case_number) (c.def_ 54) sc_Case_number sealR_ok (fun _ _ _ _ _ _ us hl => match us, hl with | [_], _ => rfl) (body_Case_number KX G c TB)
end
/-! ### surely_stories -/
abbrev s_surely_stories : Stmt := top 62
abbrev n_surely_stories : List Str := ["case", "found"]
abbrev p_surely_stories : List Str := ["case"]
theorem nd_surely_stories : n_surely_stories.Nodup := by decide +kernel
theorem sc_surely_stories : FnScope n_surely_stories p_surely_stories (defScope s_surely_stories) := ⟨rfl, rfl, rfl, nd_surely_stories, rfl, by decide +kernel, by decide +kernel⟩
def b_surely_stories : MS := (mSeq (mAsg (mCall 1 m_worst_by (mCons (mProp "State" 1 (fun ds st => noX (m_State_parts ds st)) (mProp "Case" 1 (fun ds st => noX (m_Case_state ds st)) (mVar 0))) mNil)) (gN 1)) (mRet (mIf (mTst (mOp dGt (mVar 1) (mProp "Case" 1 (fun ds st => noX (m_Case_number ds st)) (mVar 0)))) (mLst (mCons (mTup (mCons (mC (.str "surely")) (mCons (mVar 1) mNil))) mNil)) (mLst mNil))))
def m_surely_stories : List D → Sto → R D := fnM sealR 2 b_surely_stories
section
variable {P : Program} {w : World} {K : PySem.W.Frag} {mg : Str → Option Value} {base h : Heap} (KX : K.In h) (G : h.Ns mainGlobals mg) (c : SaysZ facts defs_ tabs_ tfs w h K) (TB : ∀ p ∈ css K, LamX.TabB base mg p.1 p.2)
include KX G c TB
theorem body_surely_stories : BodyOk P w K mg base (tbs K) 7 n_surely_stories "surely_stories" s_surely_stories ((.g "surely_stories" : DAt).ad K) b_surely_stories := fun cdv A outer s H E hcdv hr =>
  (ess_cons (es_asg (ev_callH (has_worst_by KX G c TB) (hr.mono (by decide)) (fa86 KX G c) tk_fn (ea_cons (ev_propH (has_State_parts KX G c TB) (hr.mono (by decide)) (fa47 KX G c) (fa48 KX G c) (fa81 KX G c) (ev_propH (has_Case_state KX G c TB) (hr.mono (by decide)) (fa42 KX G c) (fa43 KX G c) (fa80 KX G c) (ev_var 0))) ea_nil)) (eg_name 1 nd_surely_stories)) (ess_one (es_ret (ev_if (et_cmp op_gt od_gt (ev_var 1) (ev_propH (has_Case_number KX G c TB) (hr.mono (by decide)) (fa42 KX G c) (fa43 KX G c) (fa87 KX G c) (ev_var 0))) (ev_lst (ea_cons (ev_tup (ea_cons (ev_gl (fa88 KX G c)) (ea_cons (ev_var 1) ea_nil))) ea_nil)) (ev_lst ea_nil)))))
theorem has_surely_stories : Has P w K mg base (tbs K) 8 ((.g "surely_stories" : DAt).ad K) p_surely_stories m_surely_stories :=
  has_of (ps := p_surely_stories) (c.def_ 55) sc_surely_stories sealR_ok (fun _ _ _ _ _ _ us hl => match us, hl with | [_], _ => rfl) (body_surely_stories KX G c TB)
end
/-! ### second_shut -/
abbrev s_second_shut : Stmt := top 44
abbrev n_second_shut : List Str := ["parts", "_", "single", "hidden", "many", "rows"]
abbrev p_second_shut : List Str := ["parts"]
theorem nd_second_shut : n_second_shut.Nodup := by decide +kernel
theorem sc_second_shut : FnScope n_second_shut p_second_shut (defScope s_second_shut) := ⟨rfl, rfl, rfl, nd_second_shut, rfl, by decide +kernel, by decide +kernel⟩
def b_second_shut : MS := (mSeq (mAsg (mVar 0) (gTupM 3 (gConsM (gN 1) (gConsM (gN 2) (gConsM (gN 3) gNilM))))) (mSeq (mAsg (mOp dSub (mOp dAdd (mVar 2) (mOp dMul (mC (.int 2)) (mVar 3))) (mC (.int 1))) (gN 4)) (mSeq (mAsg (mLstM (mCons (mTup (mCons (mTup (mCons (mC (.int 0)) (mCons (mVar 2) (mCons (mOp dSub (mVar 3) (mC (.int 1))) mNil)))) (mCons (mC (.int 1)) (mCons (mCall 2 m_lowest (mCons (mC (.int 1)) (mCons (mVar 4) mNil))) mNil)))) mNil)) (gN 5)) (mSeq (mDrop (mBm "list" dExtend (mVar 5) (mCons (mIf (mTst (mOp dGt (mVar 2) (mC (.int 0)))) (mLst (mCons (mTup (mCons (mTup (mCons (mC (.int 1)) (mCons (mVar 2) (mCons (mOp dSub (mVar 3) (mC (.int 1))) mNil)))) (mCons (mC (.int 0)) (mCons (mCall 2 m_lowest (mCons (mVar 2) (mCons (mVar 4) mNil))) mNil)))) mNil)) (mLst mNil)) mNil))) (mSeq (mDrop (mBm "list" dExtend (mVar 5) (mCons (mIf (mTst (mOp dGt (mVar 3) (mC (.int 1)))) (mLst (mCons (mTup (mCons (mTup (mCons (mC (.int 0)) (mCons (mOp dAdd (mVar 2) (mC (.int 2))) (mCons (mOp dSub (mVar 3) (mC (.int 2))) mNil)))) (mCons (mC (.int 0)) (mCons (mCall 2 m_lowest (mCons (mOp dSub (mOp dMul (mC (.int 2)) (mVar 3)) (mC (.int 2))) (mCons (mVar 4) mNil))) mNil)))) mNil)) (mLst mNil)) mNil))) (mRet (mVar 5)))))))
def m_second_shut : List D → Sto → R D := fnM sealR 6 b_second_shut
section
variable {P : Program} {w : World} {K : PySem.W.Frag} {mg : Str → Option Value} {base h : Heap} (KX : K.In h) (G : h.Ns mainGlobals mg) (c : SaysZ facts defs_ tabs_ tfs w h K) (TB : ∀ p ∈ css K, LamX.TabB base mg p.1 p.2)
include KX G c TB
theorem body_second_shut : BodyOk P w K mg base (tbs K) 1 n_second_shut "second_shut" s_second_shut ((.g "second_shut" : DAt).ad K) b_second_shut := fun cdv A outer s H E hcdv hr =>
  (ess_cons (es_asg (ev_var 0) (eg_tup rfl (egs_cons (eg_name 1 nd_second_shut) (egs_cons (eg_name 2 nd_second_shut) (egs_cons (eg_name 3 nd_second_shut) egs_nil))))) (ess_cons (es_asg (ev_op op_sub od_sub (ev_op op_addAll od_add (ev_var 2) (ev_op op_mulW od_mul ev_int (ev_var 3))) ev_int) (eg_name 4 nd_second_shut)) (ess_cons (es_asg (ev_lstM (ea_cons (ev_tup (ea_cons (ev_tup (ea_cons ev_int (ea_cons (ev_var 2) (ea_cons (ev_op op_sub od_sub (ev_var 3) ev_int) ea_nil)))) (ea_cons ev_int (ea_cons (ev_callH (has_lowest KX G c TB) (hr.mono (by decide)) (fa64 KX G c) tk_fn (ea_cons ev_int (ea_cons (ev_var 4) ea_nil))) ea_nil)))) ea_nil)) (eg_name 5 nd_second_shut)) (ess_cons (es_drop (ev_bm PySem.F.plainAttrs_list PySem.F.slot_list_extend PySem.F.type_list_extend (mt_extendA) md_extend (ev_var 5) (ea_cons (ev_if (et_cmp op_gt od_gt (ev_var 2) ev_int) (ev_lst (ea_cons (ev_tup (ea_cons (ev_tup (ea_cons ev_int (ea_cons (ev_var 2) (ea_cons (ev_op op_sub od_sub (ev_var 3) ev_int) ea_nil)))) (ea_cons ev_int (ea_cons (ev_callH (has_lowest KX G c TB) (hr.mono (by decide)) (fa64 KX G c) tk_fn (ea_cons (ev_var 2) (ea_cons (ev_var 4) ea_nil))) ea_nil)))) ea_nil)) (ev_lst ea_nil)) ea_nil))) (ess_cons (es_drop (ev_bm PySem.F.plainAttrs_list PySem.F.slot_list_extend PySem.F.type_list_extend (mt_extendA) md_extend (ev_var 5) (ea_cons (ev_if (et_cmp op_gt od_gt (ev_var 3) ev_int) (ev_lst (ea_cons (ev_tup (ea_cons (ev_tup (ea_cons ev_int (ea_cons (ev_op op_addAll od_add (ev_var 2) ev_int) (ea_cons (ev_op op_sub od_sub (ev_var 3) ev_int) ea_nil)))) (ea_cons ev_int (ea_cons (ev_callH (has_lowest KX G c TB) (hr.mono (by decide)) (fa64 KX G c) tk_fn (ea_cons (ev_op op_sub od_sub (ev_op op_mulW od_mul ev_int (ev_var 3)) ev_int) (ea_cons (ev_var 4) ea_nil))) ea_nil)))) ea_nil)) (ev_lst ea_nil)) ea_nil))) (ess_one (es_ret (ev_var 5))))))))
theorem has_second_shut : Has P w K mg base (tbs K) 2 ((.g "second_shut" : DAt).ad K) p_second_shut m_second_shut :=
  has_of (ps := p_second_shut) (c.def_ 56) sc_second_shut sealR_ok (fun _ _ _ _ _ _ us hl => match us, hl with | [_], _ => rfl) (body_second_shut KX G c TB)
end
/-! ### outcomes -/
abbrev s_outcomes : Stmt := top 45
abbrev n_outcomes : List Str := ["parts", "choice", "ready", "single", "hidden", "many", "found", "part", "there", "taken", "much"]
abbrev p_outcomes : List Str := ["parts", "choice"]
theorem nd_outcomes : n_outcomes.Nodup := by decide +kernel
theorem sc_outcomes : FnScope n_outcomes p_outcomes (defScope s_outcomes) := ⟨rfl, rfl, rfl, nd_outcomes, rfl, by decide +kernel, by decide +kernel⟩
def b_outcomes : MS := (mSeq (mAsg (mVar 0) (gTupM 3 (gConsM (gN 2) (gConsM (gN 3) (gConsM (gN 4) gNilM))))) (mSeq (mIfS (mTst (mOp dGt (mVar 2) (mC (.int 0)))) (mRet (mLst (mCons (mTup (mCons (mTup (mCons (mOp dSub (mVar 2) (mC (.int 1))) (mCons (mVar 3) (mCons (mVar 4) mNil)))) (mCons (mC (.int 1)) (mCons (mC (.bl false)) (mCons (mTup (mCons (mC (.int 1)) (mCons (mC (.int 1)) mNil))) mNil))))) mNil))) mNext) (mSeq (mPar 5 6 (mCons (mOp dAdd (mVar 3) (mOp dMul (mC (.int 2)) (mVar 4))) (mCons (mLstM mNil) mNil))) (mSeq (mIfS (mTst (mOp dGt (mVar 3) (mC (.int 0)))) (mDrop (mBm "list" dAppend (mVar 6) (mCons (mTup (mCons (mTup (mCons (mC (.int 0)) (mCons (mOp dSub (mVar 3) (mC (.int 1))) (mCons (mVar 4) mNil)))) (mCons (mC (.int 1)) (mCons (mC (.bl false)) (mCons (mCall 2 m_lowest (mCons (mVar 3) (mCons (mVar 5) mNil))) mNil))))) mNil))) mNext) (mSeq (mIfS (mTst (mOp dGt (mVar 4) (mC (.int 0)))) (mSeq (mAsg (mCall 2 m_lowest (mCons (mOp dMul (mC (.int 2)) (mVar 4)) (mCons (mVar 5) mNil))) (gN 7)) (mIfS (mAnd (mTst (mOp dEq (mVar 1) (mC (.str "open")))) (mTst (mOp dGt (mVar 3) (mC (.int 0))))) (mDrop (mBm "list" dAppend (mVar 6) (mCons (mTup (mCons (mTup (mCons (mC (.int 0)) (mCons (mOp dAdd (mVar 3) (mC (.int 1))) (mCons (mOp dSub (mVar 4) (mC (.int 1))) mNil)))) (mCons (mC (.int 0)) (mCons (mC (.bl false)) (mCons (mVar 7) mNil))))) mNil))) (mDrop (mBm "list" dExtend (mVar 6) (mCons (mLc (mIter (mCall 1 m_second_shut (mCons (mVar 0) mNil))) (.tp [(.nm 8), (.nm 9), (.nm 10)]) mYes (mTup (mCons (mVar 8) (mCons (mVar 9) (mCons (mOp dGt (mVar 9) (mC (.int 0))) (mCons (mCall 2 m_times (mCons (mVar 7) (mCons (mVar 10) mNil))) mNil))))) [8, 9, 10]) mNil))))) mNext) (mRet (mVar 6)))))))
def m_outcomes : List D → Sto → R D := fnM sealR 11 b_outcomes
section
variable {P : Program} {w : World} {K : PySem.W.Frag} {mg : Str → Option Value} {base h : Heap} (KX : K.In h) (G : h.Ns mainGlobals mg) (c : SaysZ facts defs_ tabs_ tfs w h K) (TB : ∀ p ∈ css K, LamX.TabB base mg p.1 p.2)
include KX G c TB
theorem body_outcomes : BodyOk P w K mg base (tbs K) 2 n_outcomes "outcomes" s_outcomes ((.g "outcomes" : DAt).ad K) b_outcomes := fun cdv A outer s H E hcdv hr =>
  (ess_cons (es_asg (ev_var 0) (eg_tup rfl (egs_cons (eg_name 2 nd_outcomes) (egs_cons (eg_name 3 nd_outcomes) (egs_cons (eg_name 4 nd_outcomes) egs_nil))))) (ess_cons (es_if (et_cmp op_gt od_gt (ev_var 2) ev_int) (ess_one (es_ret (ev_lst (ea_cons (ev_tup (ea_cons (ev_tup (ea_cons (ev_op op_sub od_sub (ev_var 2) ev_int) (ea_cons (ev_var 3) (ea_cons (ev_var 4) ea_nil)))) (ea_cons ev_int (ea_cons ev_bl (ea_cons (ev_tup (ea_cons ev_int (ea_cons ev_int ea_nil))) ea_nil))))) ea_nil)))) ess_nil) (ess_cons (es_par 5 6 (hc := rfl) (hN := nd_outcomes) (ha := (ea_cons (ev_op op_addAll od_add (ev_var 3) (ev_op op_mulW od_mul ev_int (ev_var 4))) (ea_cons (ev_lstM ea_nil) ea_nil)))) (ess_cons (es_if (et_cmp op_gt od_gt (ev_var 3) ev_int) (ess_one (es_drop (ev_bm PySem.F.plainAttrs_list PySem.F.slot_list_append PySem.F.type_list_append (mt_append) md_append (ev_var 6) (ea_cons (ev_tup (ea_cons (ev_tup (ea_cons ev_int (ea_cons (ev_op op_sub od_sub (ev_var 3) ev_int) (ea_cons (ev_var 4) ea_nil)))) (ea_cons ev_int (ea_cons ev_bl (ea_cons (ev_callH (has_lowest KX G c TB) (hr.mono (by decide)) (fa64 KX G c) tk_fn (ea_cons (ev_var 3) (ea_cons (ev_var 5) ea_nil))) ea_nil))))) ea_nil)))) ess_nil) (ess_cons (es_if (et_cmp op_gt od_gt (ev_var 4) ev_int) (ess_cons (es_asg (ev_callH (has_lowest KX G c TB) (hr.mono (by decide)) (fa64 KX G c) tk_fn (ea_cons (ev_op op_mulW od_mul ev_int (ev_var 4)) (ea_cons (ev_var 5) ea_nil))) (eg_name 7 nd_outcomes)) (ess_one (es_if (EvW.pt (ew_and (et_cmp (op_eqD hr.units) od_eq (ev_var 1) (ev_gl (fa89 KX G c))) (ew_and1 (et_cmp op_gt od_gt (ev_var 3) ev_int)))) (ess_one (es_drop (ev_bm PySem.F.plainAttrs_list PySem.F.slot_list_append PySem.F.type_list_append (mt_append) md_append (ev_var 6) (ea_cons (ev_tup (ea_cons (ev_tup (ea_cons ev_int (ea_cons (ev_op op_addAll od_add (ev_var 3) ev_int) (ea_cons (ev_op op_sub od_sub (ev_var 4) ev_int) ea_nil)))) (ea_cons ev_int (ea_cons ev_bl (ea_cons (ev_var 7) ea_nil))))) ea_nil)))) (ess_one (es_drop (ev_bm PySem.F.plainAttrs_list PySem.F.slot_list_extend PySem.F.type_list_extend (mt_extendA) md_extend (ev_var 6) (ea_cons (ev_lc (own := [("there", 8), ("taken", 9), ("much", 10)]) nd_outcomes (ei_any (ev_callH (has_second_shut KX G c TB) (hr.mono (by decide)) (fa90 KX G c) tk_fn (ea_cons (ev_var 0) ea_nil))) (blkOk_by rfl) (by decide) (fun _ _ _ _ _ => (pt_tup rfl (pt_cons (pt_name 8 nd_outcomes) (pt_cons (pt_name 9 nd_outcomes) (pt_cons (pt_name 10 nd_outcomes) pt_nil))))) (fun _ _ _ _ _ => ets_nil) (fun _ _ _ _ _ => (ev_tup (ea_cons (ev_var 8) (ea_cons (ev_var 9) (ea_cons (ev_cmp op_gt od_gt (ev_var 9) ev_int) (ea_cons (ev_callH (has_times KX G c TB) (hr.mono (by decide)) (fa67 KX G c) tk0 (ea_cons (ev_var 7) (ea_cons (ev_var 10) ea_nil))) ea_nil))))))) ea_nil))))))) ess_nil) (ess_one (es_ret (ev_var 6))))))))
theorem has_outcomes : Has P w K mg base (tbs K) 3 ((.g "outcomes" : DAt).ad K) p_outcomes m_outcomes :=
  has_of (ps := p_outcomes) (c.def_ 57) sc_outcomes sealR_ok (fun _ _ _ _ _ _ us hl => match us, hl with | [_, _], _ => rfl) (body_outcomes KX G c TB)
end
/-! ### height_of -/
abbrev s_height_of : Stmt := top 46
abbrev n_height_of : List Str := ["parts", "ready", "single", "hidden"]
abbrev p_height_of : List Str := ["parts"]
theorem nd_height_of : n_height_of.Nodup := by decide +kernel
theorem sc_height_of : FnScope n_height_of p_height_of (defScope s_height_of) := ⟨rfl, rfl, rfl, nd_height_of, rfl, by decide +kernel, by decide +kernel⟩
def b_height_of : MS := (mSeq (mAsg (mVar 0) (gTupM 3 (gConsM (gN 1) (gConsM (gN 2) (gConsM (gN 3) gNilM))))) (mRet (mOp dAdd (mOp dAdd (mVar 1) (mOp dMul (mC (.int 2)) (mVar 2))) (mOp dMul (mC (.int 3)) (mVar 3)))))
def m_height_of : List D → Sto → R D := fnM sealR 4 b_height_of
section
variable {P : Program} {w : World} {K : PySem.W.Frag} {mg : Str → Option Value} {base h : Heap} (KX : K.In h) (G : h.Ns mainGlobals mg) (c : SaysZ facts defs_ tabs_ tfs w h K) (TB : ∀ p ∈ css K, LamX.TabB base mg p.1 p.2)
include KX G c TB
theorem body_height_of : BodyOk P w K mg base (tbs K) 0 n_height_of "height_of" s_height_of ((.g "height_of" : DAt).ad K) b_height_of := fun cdv A outer s H E hcdv hr =>
  (ess_cons (es_asg (ev_var 0) (eg_tup rfl (egs_cons (eg_name 1 nd_height_of) (egs_cons (eg_name 2 nd_height_of) (egs_cons (eg_name 3 nd_height_of) egs_nil))))) (ess_one (es_ret (ev_op op_addAll od_add (ev_op op_addAll od_add (ev_var 1) (ev_op op_mulW od_mul ev_int (ev_var 2))) (ev_op op_mulW od_mul ev_int (ev_var 3))))))
theorem has_height_of : Has P w K mg base (tbs K) 1 ((.g "height_of" : DAt).ad K) p_height_of m_height_of :=
  has_of (ps := p_height_of) (c.def_ 58) sc_height_of sealR_ok (fun _ _ _ _ _ _ us hl => match us, hl with | [_], _ => rfl) (body_height_of KX G c TB)
end
/-! ### all_behind -/
abbrev s_all_behind : Stmt := top 47
abbrev n_all_behind : List Str := ["parts", "found", "line", "here", "there", "_"]
abbrev p_all_behind : List Str := ["parts"]
theorem nd_all_behind : n_all_behind.Nodup := by decide +kernel
theorem sc_all_behind : FnScope n_all_behind p_all_behind (defScope s_all_behind) := ⟨rfl, rfl, rfl, nd_all_behind, rfl, by decide +kernel, by decide +kernel⟩
def b_all_behind : MS := (mSeq (mPar 1 2 (mCons (mDisp1 (mVar 0) (mC (.bl true))) (mCons (mLstM (mCons (mVar 0) mNil)) mNil))) (mSeq (whileM (mTst (mOp dNe (mVar 2) (mLst mNil))) (mSeq (mAsg (mBm "list" dPop (mVar 2) mNil) (gN 3)) (mFor (mIter (mLst (mStar (mCall 2 m_outcomes (mCons (mVar 3) (mCons (mC (.str "shut")) mNil))) (mStar (mCall 2 m_outcomes (mCons (mVar 3) (mCons (mC (.str "open")) mNil))) mNil)))) (gTupM 4 (gConsM (gN 4) (gConsM (gN 5) (gConsM (gN 5) (gConsM (gN 5) gNilM))))) (mIfS (mTst (mDIn true (mVar 4) (mVar 1))) (mSeq (mDPut (mVar 1) (mVar 4) (mC (.bl true))) (mDrop (mBm "list" dAppend (mVar 2) (mCons (mVar 4) mNil)))) mNext))) 400) (mRet (mSortKey 1 [] (mCall 1 m_height_of (mCons (mVar 0) mNil)) (mVar 1)))))
def m_all_behind : List D → Sto → R D := fnM sealR 6 b_all_behind
section
variable {P : Program} {w : World} {K : PySem.W.Frag} {mg : Str → Option Value} {base h : Heap} (KX : K.In h) (G : h.Ns mainGlobals mg) (c : SaysZ facts defs_ tabs_ tfs w h K) (TB : ∀ p ∈ css K, LamX.TabB base mg p.1 p.2)
include KX G c TB
theorem body_all_behind : BodyOk P w K mg base (tbs K) 5 n_all_behind "all_behind" s_all_behind ((.g "all_behind" : DAt).ad K) b_all_behind := fun cdv A outer s H E hcdv hr =>
  (ess_cons (es_par 1 2 (hc := rfl) (hN := nd_all_behind) (ha := (ea_cons (ev_disp1 (hu_of hr) (ev_var 0) ev_bl) (ea_cons (ev_lstM (ea_cons (ev_var 0) ea_nil)) ea_nil)))) (ess_cons (es_while 400 (et_cmp (op_neD hr.units) od_ne (ev_var 2) (ev_lst ea_nil)) (ess_cons (es_asg (ev_bm0 PySem.F.plainAttrs_list PySem.F.slot_list_pop PySem.F.type_list_pop (mt_pop) md_pop (ev_var 2)) (eg_name 3 nd_all_behind)) (ess_one (es_for (ei_any (ev_lst (ea_star (ev_callH (has_outcomes KX G c TB) (hr.mono (by decide)) (fa91 KX G c) tk_fn (ea_cons (ev_var 3) (ea_cons (ev_gl (fa92 KX G c)) ea_nil))) (ea_star (ev_callH (has_outcomes KX G c TB) (hr.mono (by decide)) (fa91 KX G c) tk_fn (ea_cons (ev_var 3) (ea_cons (ev_gl (fa89 KX G c)) ea_nil))) ea_nil)))) (eg_tup rfl (egs_cons (eg_name 4 nd_all_behind) (egs_cons (eg_name 5 nd_all_behind) (egs_cons (eg_name 5 nd_all_behind) (egs_cons (eg_name 5 nd_all_behind) egs_nil))))) (ess_one (es_if (et_dnotin (hu_of hr) (ev_var 4) (ev_var 1)) (ess_cons (es_dput (hu_of hr) (ev_var 1) (ev_var 4) ev_bl) (ess_one (es_drop (ev_bm PySem.F.plainAttrs_list PySem.F.slot_list_append PySem.F.type_list_append (mt_append) md_append (ev_var 2) (ea_cons (ev_var 4) ea_nil))))) ess_nil)) po_fn))) po_fn) (ess_one (es_ret (ev_sortKeyD (N := ["each"]) (fr := []) (x := "each") (k := 1) (nm := nmAll) (fa70 KX G c) (ev_var 1) rfl (hr.mono (by decide)) (TB _ (tf_mem_all_behind K)) (by exact hcdv) (tb_mem_all_behind K) (by rfl) (tb_uni K) (by rfl) (NdefX.nscope_by (by decide +kernel)) (hfree_none (by decide +kernel)) (by decide +kernel) (by rfl) (fun _ _ _ _ _ us hl => match us, hl with | [_], _ => rfl) (fun _ _ _ _ _ _ _ _ hr => (ev_callH (has_height_of KX G c TB) (hr.mono (by decide)) (fa93 KX G c) tk0 (ea_cons (ev_var 0) ea_nil))))))))
theorem has_all_behind : Has P w K mg base (tbs K) 6 ((.g "all_behind" : DAt).ad K) p_all_behind m_all_behind :=
  has_of (ps := p_all_behind) (c.def_ 59) sc_all_behind sealR_ok (fun _ _ _ _ _ _ us hl => match us, hl with | [_], _ => rfl) (body_all_behind KX G c TB)
end
/-! ### has_choice_outcomework -/
abbrev s_has_choice_outcomework : Stmt := top 42
abbrev n_has_choice_outcomework : List Str := ["parts", "ready", "single", "hidden"]
abbrev p_has_choice_outcomework : List Str := ["parts"]
theorem nd_has_choice_outcomework : n_has_choice_outcomework.Nodup := by decide +kernel
theorem sc_has_choice_outcomework : FnScope n_has_choice_outcomework p_has_choice_outcomework (defScope s_has_choice_outcomework) := ⟨rfl, rfl, rfl, nd_has_choice_outcomework, rfl, by decide +kernel, by decide +kernel⟩
def b_has_choice_outcomework : MS := (mSeq (mAsg (mVar 0) (gTupM 3 (gConsM (gN 1) (gConsM (gN 2) (gConsM (gN 3) gNilM))))) (mRet (mAndV (mOp dEq (mVar 1) (mC (.int 0))) (mAndV (mOp dGt (mVar 2) (mC (.int 0))) (mOp dGt (mVar 3) (mC (.int 0)))))))
def m_has_choice_outcomework : List D → Sto → R D := fnM sealR 4 b_has_choice_outcomework
section
variable {P : Program} {w : World} {K : PySem.W.Frag} {mg : Str → Option Value} {base h : Heap} (KX : K.In h) (G : h.Ns mainGlobals mg) (c : SaysZ facts defs_ tabs_ tfs w h K) (TB : ∀ p ∈ css K, LamX.TabB base mg p.1 p.2)
include KX G c TB
theorem body_has_choice_outcomework : BodyOk P w K mg base (tbs K) 0 n_has_choice_outcomework "has_choice" s_has_choice_outcomework ((.g "has_choice_outcomework" : DAt).ad K) b_has_choice_outcomework := fun cdv A outer s H E hcdv hr =>
  (ess_cons (es_asg (ev_var 0) (eg_tup rfl (egs_cons (eg_name 1 nd_has_choice_outcomework) (egs_cons (eg_name 2 nd_has_choice_outcomework) (egs_cons (eg_name 3 nd_has_choice_outcomework) egs_nil))))) (ess_one (es_ret (ev_and (ev_cmp (op_eqD hr.units) od_eq (ev_var 1) ev_int) (ev_and (ev_cmp op_gt od_gt (ev_var 2) ev_int) (ev_one (ev_cmp op_gt od_gt (ev_var 3) ev_int)))))))
theorem has_has_choice_outcomework : Has P w K mg base (tbs K) 1 ((.g "has_choice_outcomework" : DAt).ad K) p_has_choice_outcomework m_has_choice_outcomework :=
  has_of (ps := p_has_choice_outcomework) (c.def_ 60) sc_has_choice_outcomework sealR_ok (fun _ _ _ _ _ _ us hl => match us, hl with | [_], _ => rfl) (body_has_choice_outcomework KX G c TB)
end
/-! ### choices_of -/
abbrev s_choices_of : Stmt := top 50
abbrev n_choices_of : List Str := ["parts"]
abbrev p_choices_of : List Str := ["parts"]
theorem nd_choices_of : n_choices_of.Nodup := by decide +kernel
theorem sc_choices_of : FnScope n_choices_of p_choices_of (defScope s_choices_of) := ⟨rfl, rfl, rfl, nd_choices_of, rfl, by decide +kernel, by decide +kernel⟩
def b_choices_of : MS := (mRet (mIf (mTst (mCall 1 m_has_choice_outcomework (mCons (mVar 0) mNil))) (mLst (mCons (mC (.str "shut")) (mCons (mC (.str "open")) mNil))) (mLst (mCons (mC (.str "shut")) mNil))))
def m_choices_of : List D → Sto → R D := fnM sealR 1 b_choices_of
section
variable {P : Program} {w : World} {K : PySem.W.Frag} {mg : Str → Option Value} {base h : Heap} (KX : K.In h) (G : h.Ns mainGlobals mg) (c : SaysZ facts defs_ tabs_ tfs w h K) (TB : ∀ p ∈ css K, LamX.TabB base mg p.1 p.2)
include KX G c TB
theorem body_choices_of : BodyOk P w K mg base (tbs K) 1 n_choices_of "choices_of" s_choices_of ((.g "choices_of" : DAt).ad K) b_choices_of := fun cdv A outer s H E hcdv hr =>
  (ess_one (es_ret (ev_if (et_val (ev_callH (has_has_choice_outcomework KX G c TB) (hr.mono (by decide)) (fa95 KX G c) tk_fn (ea_cons (ev_var 0) ea_nil))) (ev_lst (ea_cons (ev_gl (fa92 KX G c)) (ea_cons (ev_gl (fa89 KX G c)) ea_nil))) (ev_lst (ea_cons (ev_gl (fa92 KX G c)) ea_nil)))))
theorem has_choices_of : Has P w K mg base (tbs K) 2 ((.g "choices_of" : DAt).ad K) p_choices_of m_choices_of :=
  has_of (ps := p_choices_of) (c.def_ 61) sc_choices_of sealR_ok (fun _ _ _ _ _ _ us hl => match us, hl with | [_], _ => rfl) (body_choices_of KX G c TB)
end
/-! ### minus -/
abbrev s_minus : Stmt := top 13
abbrev n_minus : List Str := ["one", "two"]
abbrev p_minus : List Str := ["one", "two"]
theorem nd_minus : n_minus.Nodup := by decide +kernel
theorem sc_minus : FnScope n_minus p_minus (defScope s_minus) := ⟨rfl, rfl, rfl, nd_minus, rfl, by decide +kernel, by decide +kernel⟩
def b_minus : MS := (mRet (mCall 2 m_lowest (mCons (mOp dSub (mOp dMul (mOp dIx (mVar 0) (mC (.int 0))) (mOp dIx (mVar 1) (mC (.int 1)))) (mOp dMul (mOp dIx (mVar 1) (mC (.int 0))) (mOp dIx (mVar 0) (mC (.int 1))))) (mCons (mOp dMul (mOp dIx (mVar 0) (mC (.int 1))) (mOp dIx (mVar 1) (mC (.int 1)))) mNil))))
def m_minus : List D → Sto → R D := fnM sealR 2 b_minus
section
variable {P : Program} {w : World} {K : PySem.W.Frag} {mg : Str → Option Value} {base h : Heap} (KX : K.In h) (G : h.Ns mainGlobals mg) (c : SaysZ facts defs_ tabs_ tfs w h K) (TB : ∀ p ∈ css K, LamX.TabB base mg p.1 p.2)
include KX G c TB
theorem body_minus : BodyOk P w K mg base (tbs K) 1 n_minus "minus" s_minus ((.g "minus" : DAt).ad K) b_minus := fun cdv A outer s H E hcdv hr =>
  (ess_one (es_ret (ev_callH (has_lowest KX G c TB) (hr.mono (by decide)) (fa64 KX G c) tk_fn (ea_cons (ev_op op_sub od_sub (ev_op op_mulW od_mul (ev_ix (ev_var 0) ev_int) (ev_ix (ev_var 1) ev_int)) (ev_op op_mulW od_mul (ev_ix (ev_var 1) ev_int) (ev_ix (ev_var 0) ev_int))) (ea_cons (ev_op op_mulW od_mul (ev_ix (ev_var 0) ev_int) (ev_ix (ev_var 1) ev_int)) ea_nil)))))
theorem has_minus : Has P w K mg base (tbs K) 2 ((.g "minus" : DAt).ad K) p_minus m_minus :=
  has_of (ps := p_minus) (c.def_ 62) sc_minus sealR_ok (fun _ _ _ _ _ _ us hl => match us, hl with | [_, _], _ => rfl) (body_minus KX G c TB)
end
/-! ### gain_behind -/
abbrev s_gain_behind : Stmt := top 49
abbrev n_gain_behind : List Str := ["rows", "own", "others", "there", "taken", "_", "part"]
abbrev p_gain_behind : List Str := ["rows", "own", "others"]
theorem nd_gain_behind : n_gain_behind.Nodup := by decide +kernel
theorem sc_gain_behind : FnScope n_gain_behind p_gain_behind (defScope s_gain_behind) := ⟨rfl, rfl, rfl, nd_gain_behind, rfl, by decide +kernel, by decide +kernel⟩
def b_gain_behind : MS := (mRet (mCall 1 m_total (mCons (mLc (mIter (mVar 0)) (.tp [(.nm 3), (.nm 4), (.nm 5), (.nm 6)]) mYes (mCall 2 m_times (mCons (mVar 6) (mCons (mIf (mTst (mOp dGt (mVar 4) (mC (.int 0)))) (mCall 2 m_plus (mCons (mTup (mCons (mVar 4) (mCons (mC (.int 1)) mNil))) (mCons (mDGet (mVar 1) (mVar 3)) mNil))) (mCall 2 m_minus (mCons (mC (.tup [.int 0, .int 1])) (mCons (mDGet (mVar 2) (mVar 3)) mNil)))) mNil))) [3, 4, 5, 6]) mNil)))
def m_gain_behind : List D → Sto → R D := fnM sealR 7 b_gain_behind
section
variable {P : Program} {w : World} {K : PySem.W.Frag} {mg : Str → Option Value} {base h : Heap} (KX : K.In h) (G : h.Ns mainGlobals mg) (c : SaysZ facts defs_ tabs_ tfs w h K) (TB : ∀ p ∈ css K, LamX.TabB base mg p.1 p.2)
include KX G c TB
theorem body_gain_behind : BodyOk P w K mg base (tbs K) 3 n_gain_behind "gain_behind" s_gain_behind ((.g "gain_behind" : DAt).ad K) b_gain_behind := fun cdv A outer s H E hcdv hr =>
  (ess_one (es_ret (ev_callH (has_total KX G c TB) (hr.mono (by decide)) (fa73 KX G c) tk_fn (ea_cons (ev_lc (own := [("there", 3), ("taken", 4), ("_", 5), ("part", 6)]) nd_gain_behind (ei_any (ev_var 0)) (blkOk_by rfl) (by decide) (fun _ _ _ _ _ => (pt_tup rfl (pt_cons (pt_name 3 nd_gain_behind) (pt_cons (pt_name 4 nd_gain_behind) (pt_cons (pt_name 5 nd_gain_behind) (pt_cons (pt_name 6 nd_gain_behind) pt_nil)))))) (fun _ _ _ _ _ => ets_nil) (fun _ _ _ _ _ => (ev_callH (has_times KX G c TB) (hr.mono (by decide)) (fa67 KX G c) tk0 (ea_cons (ev_var 6) (ea_cons (ev_if (et_cmp op_gt od_gt (ev_var 4) ev_int) (ev_callH (has_plus KX G c TB) (hr.mono (by decide)) (fa72 KX G c) tk0 (ea_cons (ev_tup (ea_cons (ev_var 4) (ea_cons ev_int ea_nil))) (ea_cons (ev_dget (hu_of hr) (ev_var 1) (ev_var 3)) ea_nil))) (ev_callH (has_minus KX G c TB) (hr.mono (by decide)) (fa97 KX G c) tk0 (ea_cons (ev_gl (fa40 KX G c)) (ea_cons (ev_dget (hu_of hr) (ev_var 2) (ev_var 3)) ea_nil)))) ea_nil))))) ea_nil))))
theorem has_gain_behind : Has P w K mg base (tbs K) 4 ((.g "gain_behind" : DAt).ad K) p_gain_behind m_gain_behind :=
  has_of (ps := p_gain_behind) (c.def_ 63) sc_gain_behind sealR_ok (fun _ _ _ _ _ _ us hl => match us, hl with | [_, _, _], _ => rfl) (body_gain_behind KX G c TB)
end
/-! ### best_gain -/
abbrev s_best_gain : Stmt := top 51
abbrev n_best_gain : List Str := ["parts", "own", "others", "found", "choice"]
abbrev p_best_gain : List Str := ["parts", "own", "others"]
theorem nd_best_gain : n_best_gain.Nodup := by decide +kernel
theorem sc_best_gain : FnScope n_best_gain p_best_gain (defScope s_best_gain) := ⟨rfl, rfl, rfl, nd_best_gain, rfl, by decide +kernel, by decide +kernel⟩
def b_best_gain : MS := (mSeq (mAsg (mLc (mIter (mCall 1 m_choices_of (mCons (mVar 0) mNil))) (.nm 4) mYes (mCall 3 m_gain_behind (mCons (mCall 2 m_outcomes (mCons (mVar 0) (mCons (mVar 4) mNil))) (mCons (mVar 1) (mCons (mVar 2) mNil)))) [4]) (gN 3)) (mRet (mIf (mAnd (mTst (mOp dGt (mBi dLen (mCons (mVar 3) mNil)) (mC (.int 1)))) (mTst (mCall 2 m_is_less (mCons (mOp dIx (mVar 3) (mC (.int 0))) (mCons (mOp dIx (mVar 3) (mC (.int 1))) mNil))))) (mOp dIx (mVar 3) (mC (.int 1))) (mOp dIx (mVar 3) (mC (.int 0))))))
def m_best_gain : List D → Sto → R D := fnM sealR 5 b_best_gain
section
variable {P : Program} {w : World} {K : PySem.W.Frag} {mg : Str → Option Value} {base h : Heap} (KX : K.In h) (G : h.Ns mainGlobals mg) (c : SaysZ facts defs_ tabs_ tfs w h K) (TB : ∀ p ∈ css K, LamX.TabB base mg p.1 p.2)
include KX G c TB
theorem body_best_gain : BodyOk P w K mg base (tbs K) 4 n_best_gain "best_gain" s_best_gain ((.g "best_gain" : DAt).ad K) b_best_gain := fun cdv A outer s H E hcdv hr =>
  (ess_cons (es_setLc (i := 3) (own := [("choice", 4)]) nd_best_gain (ei_any (ev_callH (has_choices_of KX G c TB) (hr.mono (by decide)) (fa96 KX G c) tk_fn (ea_cons (ev_var 0) ea_nil))) (blkOk_by rfl) (by decide) (fun _ _ _ _ _ => (pt_name 4 nd_best_gain)) (fun _ _ _ _ _ => ets_nil) (fun _ _ _ _ _ => (ev_callH (has_gain_behind KX G c TB) (hr.mono (by decide)) (fa98 KX G c) tk0 (ea_cons (ev_callH (has_outcomes KX G c TB) (hr.mono (by decide)) (fa91 KX G c) tk0 (ea_cons (ev_var 0) (ea_cons (ev_var 4) ea_nil))) (ea_cons (ev_var 1) (ea_cons (ev_var 2) ea_nil)))))) (ess_one (es_ret (ev_if (EvW.pt (ew_and (et_cmp op_gt od_gt (ev_bi call_len cd_len (fa0 KX G c) (by decide +kernel) (ea_cons (ev_var 3) ea_nil)) ev_int) (ew_and1 (et_val (ev_callH (has_is_less KX G c TB) (hr.mono (by decide)) (fa41 KX G c) tk_fn (ea_cons (ev_ix (ev_var 3) ev_int) (ea_cons (ev_ix (ev_var 3) ev_int) ea_nil))))))) (ev_ix (ev_var 3) ev_int) (ev_ix (ev_var 3) ev_int)))))
theorem has_best_gain : Has P w K mg base (tbs K) 5 ((.g "best_gain" : DAt).ad K) p_best_gain m_best_gain :=
  has_of (ps := p_best_gain) (c.def_ 64) sc_best_gain sealR_ok (fun _ _ _ _ _ _ us hl => match us, hl with | [_, _, _], _ => rfl) (body_best_gain KX G c TB)
end
/-! ### gains_of -/
abbrev s_gains_of : Stmt := top 52
abbrev n_gains_of : List Str := ["parts", "found", "here"]
abbrev p_gains_of : List Str := ["parts"]
theorem nd_gains_of : n_gains_of.Nodup := by decide +kernel
theorem sc_gains_of : FnScope n_gains_of p_gains_of (defScope s_gains_of) := ⟨rfl, rfl, rfl, nd_gains_of, rfl, by decide +kernel, by decide +kernel⟩
def b_gains_of : MS := (mSeq (mAsg mDNewX (gN 1)) (mSeq (mFor (mIter (mCall 1 m_all_behind (mCons (mVar 0) mNil))) (gN 2) (mDPut (mVar 1) (mVar 2) (mCall 3 m_best_gain (mCons (mVar 2) (mCons (mVar 1) (mCons (mVar 1) mNil)))))) (mRet (mVar 1))))
def m_gains_of : List D → Sto → R D := fnM sealR 3 b_gains_of
section
variable {P : Program} {w : World} {K : PySem.W.Frag} {mg : Str → Option Value} {base h : Heap} (KX : K.In h) (G : h.Ns mainGlobals mg) (c : SaysZ facts defs_ tabs_ tfs w h K) (TB : ∀ p ∈ css K, LamX.TabB base mg p.1 p.2)
include KX G c TB
theorem body_gains_of : BodyOk P w K mg base (tbs K) 6 n_gains_of "gains_of" s_gains_of ((.g "gains_of" : DAt).ad K) b_gains_of := fun cdv A outer s H E hcdv hr =>
  (ess_cons (es_asg ev_dnewX (eg_name 1 nd_gains_of)) (ess_cons (es_for (ei_any (ev_callH (has_all_behind KX G c TB) (hr.mono (by decide)) (fa94 KX G c) tk_fn (ea_cons (ev_var 0) ea_nil))) (eg_name 2 nd_gains_of) (ess_one (es_dput (hu_of hr) (ev_var 1) (ev_var 2) (ev_callH (has_best_gain KX G c TB) (hr.mono (by decide)) (fa99 KX G c) tk_fn (ea_cons (ev_var 2) (ea_cons (ev_var 1) (ea_cons (ev_var 1) ea_nil)))))) po_fn) (ess_one (es_ret (ev_var 1)))))
theorem has_gains_of : Has P w K mg base (tbs K) 7 ((.g "gains_of" : DAt).ad K) p_gains_of m_gains_of :=
  has_of (ps := p_gains_of) (c.def_ 65) sc_gains_of sealR_ok (fun _ _ _ _ _ _ us hl => match us, hl with | [_], _ => rfl) (body_gains_of KX G c TB)
end
/-! ### first_stories -/
abbrev s_first_stories : Stmt := top 63
abbrev n_first_stories : List Str := ["case", "found"]
abbrev p_first_stories : List Str := ["case"]
theorem nd_first_stories : n_first_stories.Nodup := by decide +kernel
theorem sc_first_stories : FnScope n_first_stories p_first_stories (defScope s_first_stories) := ⟨rfl, rfl, rfl, nd_first_stories, rfl, by decide +kernel, by decide +kernel⟩
def b_first_stories : MS := (mSeq (mAsg (mDGet (mCall 1 m_gains_of (mCons (mProp "State" 1 (fun ds st => noX (m_State_parts ds st)) (mProp "Case" 1 (fun ds st => noX (m_Case_state ds st)) (mVar 0))) mNil)) (mProp "State" 1 (fun ds st => noX (m_State_parts ds st)) (mProp "Case" 1 (fun ds st => noX (m_Case_state ds st)) (mVar 0)))) (gN 1)) (mRet (mIf (mTst (mCall 2 m_is_less (mCons (mVar 1) (mCons (mC (.tup [.int 0, .int 1])) mNil)))) (mLst (mCons (mTup (mCons (mC (.str "first")) (mCons (mVar 1) mNil))) mNil)) (mLst mNil))))
def m_first_stories : List D → Sto → R D := fnM sealR 2 b_first_stories
section
variable {P : Program} {w : World} {K : PySem.W.Frag} {mg : Str → Option Value} {base h : Heap} (KX : K.In h) (G : h.Ns mainGlobals mg) (c : SaysZ facts defs_ tabs_ tfs w h K) (TB : ∀ p ∈ css K, LamX.TabB base mg p.1 p.2)
include KX G c TB
theorem body_first_stories : BodyOk P w K mg base (tbs K) 7 n_first_stories "first_stories" s_first_stories ((.g "first_stories" : DAt).ad K) b_first_stories := fun cdv A outer s H E hcdv hr =>
  (ess_cons (es_asg (ev_dget (hu_of hr) (ev_callH (has_gains_of KX G c TB) (hr.mono (by decide)) (fa100 KX G c) tk_fn (ea_cons (ev_propH (has_State_parts KX G c TB) (hr.mono (by decide)) (fa47 KX G c) (fa48 KX G c) (fa81 KX G c) (ev_propH (has_Case_state KX G c TB) (hr.mono (by decide)) (fa42 KX G c) (fa43 KX G c) (fa80 KX G c) (ev_var 0))) ea_nil)) (ev_propH (has_State_parts KX G c TB) (hr.mono (by decide)) (fa47 KX G c) (fa48 KX G c) (fa81 KX G c) (ev_propH (has_Case_state KX G c TB) (hr.mono (by decide)) (fa42 KX G c) (fa43 KX G c) (fa80 KX G c) (ev_var 0)))) (eg_name 1 nd_first_stories)) (ess_one (es_ret (ev_if (et_val (ev_callH (has_is_less KX G c TB) (hr.mono (by decide)) (fa41 KX G c) tk_fn (ea_cons (ev_var 1) (ea_cons (ev_gl (fa40 KX G c)) ea_nil)))) (ev_lst (ea_cons (ev_tup (ea_cons (ev_gl (fa101 KX G c)) (ea_cons (ev_var 1) ea_nil))) ea_nil)) (ev_lst ea_nil)))))
theorem has_first_stories : Has P w K mg base (tbs K) 8 ((.g "first_stories" : DAt).ad K) p_first_stories m_first_stories :=
  has_of (ps := p_first_stories) (c.def_ 66) sc_first_stories sealR_ok (fun _ _ _ _ _ _ us hl => match us, hl with | [_], _ => rfl) (body_first_stories KX G c TB)
end
section
variable {P : Program} {w : World} {K : PySem.W.Frag} {mg : Str → Option Value} {base h : Heap} (KX : K.In h) (G : h.Ns mainGlobals mg) (c : SaysZ facts defs_ tabs_ tfs w h K) (TB : ∀ p ∈ css K, LamX.TabB base mg p.1 p.2)
include KX G c TB
theorem tab_STORIES {N : List Str} {qual : Str} {st : Stmt} {cdv : Value} {A : Around} {outer : List Env} {s : Shared} {H : Hp} {E : XK} {f : Addr} : ∀ z m, ([("mean", m_mean_stories), ("surely", m_surely_stories), ("first", m_first_stories)] : List (Str × (List D → Sto → R D))).lookup z = some m → TabE (tbs K) (cxOf (L2.CX P w) P w K mg base N qual (defScope st) f cdv A outer s H E) 9 1 (He.ga K "STORIES") z m := fun z m e => by
  obtain ⟨es, n, KD⟩ := c.tab 0
  simp only [List.lookup] at e
  by_cases q_mean_stories : z = "mean"
  · subst q_mean_stories
    cases e
    exact tabE_of (X := cxOf (L2.CX P w) P w K mg base N qual (defScope st) f cdv A outer s H E) KD (fa103 KX G c) (has_mean_stories KX G c TB) (by decide)
  simp only [beq_false_of_ne q_mean_stories] at e
  by_cases q_surely_stories : z = "surely"
  · subst q_surely_stories
    cases e
    exact tabE_of (X := cxOf (L2.CX P w) P w K mg base N qual (defScope st) f cdv A outer s H E) KD (fa104 KX G c) (has_surely_stories KX G c TB) (by decide)
  simp only [beq_false_of_ne q_surely_stories] at e
  by_cases q_first_stories : z = "first"
  · subst q_first_stories
    cases e
    exact tabE_of (X := cxOf (L2.CX P w) P w K mg base N qual (defScope st) f cdv A outer s H E) KD (fa105 KX G c) (has_first_stories KX G c TB) (by decide)
  simp only [beq_false_of_ne q_first_stories] at e
  cases e
end
/-! ### stories_by -/
abbrev s_stories_by : Stmt := top 65
abbrev n_stories_by : List Str := ["case", "word"]
abbrev p_stories_by : List Str := ["case", "word"]
theorem nd_stories_by : n_stories_by.Nodup := by decide +kernel
theorem sc_stories_by : FnScope n_stories_by p_stories_by (defScope s_stories_by) := ⟨rfl, rfl, rfl, nd_stories_by, rfl, by decide +kernel, by decide +kernel⟩
def b_stories_by : MS := (mRet (mTab [("mean", m_mean_stories), ("surely", m_surely_stories), ("first", m_first_stories)] 1 (mVar 1) (mCons (mVar 0) mNil)))
def m_stories_by : List D → Sto → R D := fnM sealR 2 b_stories_by
section
variable {P : Program} {w : World} {K : PySem.W.Frag} {mg : Str → Option Value} {base h : Heap} (KX : K.In h) (G : h.Ns mainGlobals mg) (c : SaysZ facts defs_ tabs_ tfs w h K) (TB : ∀ p ∈ css K, LamX.TabB base mg p.1 p.2)
include KX G c TB
theorem body_stories_by : BodyOk P w K mg base (tbs K) 9 n_stories_by "stories_by" s_stories_by ((.g "stories_by" : DAt).ad K) b_stories_by := fun cdv A outer s H E hcdv hr =>
  (ess_one (es_ret (ev_tab (k := 9) (fa102 KX G c) (tab_STORIES KX G c TB) (hr.mono (by decide)) tk_fn (ev_var 1) (ea_cons (ev_var 0) ea_nil))))
theorem has_stories_by : Has P w K mg base (tbs K) 10 ((.g "stories_by" : DAt).ad K) p_stories_by m_stories_by :=
  has_of (ps := p_stories_by) (c.def_ 67) sc_stories_by sealR_ok (fun _ _ _ _ _ _ us hl => match us, hl with | [_, _], _ => rfl) (body_stories_by KX G c TB)
end
/-! ### faults -/
abbrev s_faults : Stmt := top 86
abbrev n_faults : List Str := ["case", "word"]
abbrev p_faults : List Str := ["case"]
theorem nd_faults : n_faults.Nodup := by decide +kernel
theorem sc_faults : FnScope n_faults p_faults (defScope s_faults) := ⟨rfl, rfl, rfl, nd_faults, rfl, by decide +kernel, by decide +kernel⟩
def b_faults : MS := (mSeq (mDrop (mCall 1 m_check_case (mCons (mVar 0) mNil))) (mRet (mBi dTupOf (mCons (mLc (mIter (mC (.tup [.str "mean", .str "surely", .str "first"]))) (.nm 1) (mTst (mOp dNe (mCall 2 m_stories_by (mCons (mVar 0) (mCons (mVar 1) mNil))) (mLst mNil))) (mVar 1) [1]) mNil))))
def m_faults : List D → Sto → R D := fnM sealR 2 b_faults
section
variable {P : Program} {w : World} {K : PySem.W.Frag} {mg : Str → Option Value} {base h : Heap} (KX : K.In h) (G : h.Ns mainGlobals mg) (c : SaysZ facts defs_ tabs_ tfs w h K) (TB : ∀ p ∈ css K, LamX.TabB base mg p.1 p.2)
include KX G c TB
theorem body_faults : BodyOk P w K mg base (tbs K) 10 n_faults "faults" s_faults ((.g "faults" : DAt).ad K) b_faults := fun cdv A outer s H E hcdv hr =>
  (ess_cons (es_drop (ev_callH (has_check_case KX G c TB) (hr.mono (by decide)) (fa56 KX G c) tk_fn (ea_cons (ev_var 0) ea_nil))) (ess_one (es_ret (ev_bt call_tupleF cd_tupOf (fa34 KX G c) (by decide +kernel) (ea_cons (ev_lc (own := [("word", 1)]) nd_faults (ei_any (ev_gl (fa57 KX G c))) (blkOk_by rfl) (by decide) (fun _ _ _ _ _ => (pt_name 1 nd_faults)) (fun _ _ _ _ _ => ets_one (et_cmp (op_neD hr.units) od_ne (ev_callH (has_stories_by KX G c TB) (hr.mono (by decide)) (fa106 KX G c) tk0 (ea_cons (ev_var 0) (ea_cons (ev_var 1) ea_nil))) (ev_lst ea_nil))) (fun _ _ _ _ _ => (ev_var 1))) ea_nil)))))
theorem has_faults : Has P w K mg base (tbs K) 11 ((.g "faults" : DAt).ad K) p_faults m_faults :=
  has_of (ps := p_faults) (c.def_ 68) sc_faults sealR_ok (fun _ _ _ _ _ _ us hl => match us, hl with | [_], _ => rfl) (body_faults KX G c TB)
theorem hask_faults_case : HasK P w K mg base (tbs K) 11 ((.g "faults" : DAt).ad K) p_faults ["case"] [0] m_faults :=
  hask_of (ps := p_faults) (ks := ["case"]) (c.def_ 68) sc_faults sealR_ok (fun _ _ _ _ _ _ ws hl => match ws, hl with | [_], _ => rfl) (body_faults KX G c TB)
end
/-! ### is_sound -/
abbrev s_is_sound : Stmt := top 87
abbrev n_is_sound : List Str := ["case"]
abbrev p_is_sound : List Str := ["case"]
theorem nd_is_sound : n_is_sound.Nodup := by decide +kernel
theorem sc_is_sound : FnScope n_is_sound p_is_sound (defScope s_is_sound) := ⟨rfl, rfl, rfl, nd_is_sound, rfl, by decide +kernel, by decide +kernel⟩
def b_is_sound : MS := (mRet (mOp dEq (mCall 1 m_faults (mCons (mVar 0) mNil)) (mTup mNil)))
def m_is_sound : List D → Sto → R D := fnM sealR 1 b_is_sound
section
variable {P : Program} {w : World} {K : PySem.W.Frag} {mg : Str → Option Value} {base h : Heap} (KX : K.In h) (G : h.Ns mainGlobals mg) (c : SaysZ facts defs_ tabs_ tfs w h K) (TB : ∀ p ∈ css K, LamX.TabB base mg p.1 p.2)
include KX G c TB
theorem body_is_sound : BodyOk P w K mg base (tbs K) 11 n_is_sound "is_sound" s_is_sound ((.g "is_sound" : DAt).ad K) b_is_sound := fun cdv A outer s H E hcdv hr =>
  (ess_one (es_ret (ev_cmp (op_eqD hr.units) od_eq (ev_callH (has_faults KX G c TB) (hr.mono (by decide)) (fa107 KX G c) tk_fn (ea_cons (ev_var 0) ea_nil)) (ev_tup ea_nil))))
theorem has_is_sound : Has P w K mg base (tbs K) 12 ((.g "is_sound" : DAt).ad K) p_is_sound m_is_sound :=
  has_of (ps := p_is_sound) (c.def_ 69) sc_is_sound sealR_ok (fun _ _ _ _ _ _ us hl => match us, hl with | [_], _ => rfl) (body_is_sound KX G c TB)
theorem hask_is_sound_case : HasK P w K mg base (tbs K) 12 ((.g "is_sound" : DAt).ad K) p_is_sound ["case"] [0] m_is_sound :=
  hask_of (ps := p_is_sound) (ks := ["case"]) (c.def_ 69) sc_is_sound sealR_ok (fun _ _ _ _ _ _ ws hl => match ws, hl with | [_], _ => rfl) (body_is_sound KX G c TB)
end
/-! ### breaking -/
abbrev s_breaking : Stmt := top 89
abbrev n_breaking : List Str := ["case", "word", "found"]
abbrev p_breaking : List Str := ["case", "word"]
theorem nd_breaking : n_breaking.Nodup := by decide +kernel
theorem sc_breaking : FnScope n_breaking p_breaking (defScope s_breaking) := ⟨rfl, rfl, rfl, nd_breaking, rfl, by decide +kernel, by decide +kernel⟩
def b_breaking : MS := (mSeq (mDrop (mCall 1 m_check_case (mCons (mVar 0) mNil))) (mSeq (mIfS (mNot (mTst (mCall 2 m_is_one_of (mCons (mVar 1) (mCons (mC (.tup [.str "mean", .str "surely", .str "first"])) mNil))))) mNever mNext) (mSeq (mAsg (mCall 2 m_stories_by (mCons (mVar 0) (mCons (mVar 1) mNil))) (gN 2)) (mRet (mIf (mTst (mOp dNe (mVar 2) (mLst mNil))) (mOp dIx (mVar 2) (mC (.int 0))) (mC .non))))))
def m_breaking : List D → Sto → R D := fnM sealR 3 b_breaking
section
variable {P : Program} {w : World} {K : PySem.W.Frag} {mg : Str → Option Value} {base h : Heap} (KX : K.In h) (G : h.Ns mainGlobals mg) (c : SaysZ facts defs_ tabs_ tfs w h K) (TB : ∀ p ∈ css K, LamX.TabB base mg p.1 p.2)
include KX G c TB
theorem body_breaking : BodyOk P w K mg base (tbs K) 10 n_breaking "breaking" s_breaking ((.g "breaking" : DAt).ad K) b_breaking := fun cdv A outer s H E hcdv hr =>
  (ess_cons (es_drop (ev_callH (has_check_case KX G c TB) (hr.mono (by decide)) (fa56 KX G c) tk_fn (ea_cons (ev_var 0) ea_nil))) (ess_cons (es_if (et_not (et_val (ev_callH (has_is_one_of KX G c TB) (hr.mono (by decide)) (fa26 KX G c) tk_fn (ea_cons (ev_var 1) (ea_cons (ev_gl (fa57 KX G c)) ea_nil))))) (ess_one es_never) ess_nil) (ess_cons (es_asg (ev_callH (has_stories_by KX G c TB) (hr.mono (by decide)) (fa106 KX G c) tk_fn (ea_cons (ev_var 0) (ea_cons (ev_var 1) ea_nil))) (eg_name 2 nd_breaking)) (ess_one (es_ret (ev_if (et_cmp (op_neD hr.units) od_ne (ev_var 2) (ev_lst ea_nil)) (ev_ix (ev_var 2) ev_int) ev_non))))))
theorem has_breaking : Has P w K mg base (tbs K) 11 ((.g "breaking" : DAt).ad K) p_breaking m_breaking :=
  has_of (ps := p_breaking) (c.def_ 70) sc_breaking sealR_ok (fun _ _ _ _ _ _ us hl => match us, hl with | [_, _], _ => rfl) (body_breaking KX G c TB)
theorem hask_breaking_word_case : HasK P w K mg base (tbs K) 11 ((.g "breaking" : DAt).ad K) p_breaking ["word", "case"] [1, 0] m_breaking :=
  hask_of (ps := p_breaking) (ks := ["word", "case"]) (c.def_ 70) sc_breaking sealR_ok (fun _ _ _ _ _ _ ws hl => match ws, hl with | [_, _], _ => rfl) (body_breaking KX G c TB)
end
/-! ### is_same -/
abbrev s_is_same : Stmt := top 66
abbrev n_is_same : List Str := ["value", "due"]
abbrev p_is_same : List Str := ["value", "due"]
theorem nd_is_same : n_is_same.Nodup := by decide +kernel
theorem sc_is_same : FnScope n_is_same p_is_same (defScope s_is_same) := ⟨rfl, rfl, rfl, nd_is_same, rfl, by decide +kernel, by decide +kernel⟩
def b_is_same : MS := (mSeq (mIfS (mTst (mIsB clss "tuple" (mVar 1))) (mRet (mAndV (mCall 1 m_is_pair (mCons (mVar 0) mNil)) (mAndV (mCall 1 m_is_whole (mCons (mOp dIx (mVar 0) (mC (.int 0))) mNil)) (mAndV (mCall 1 m_is_whole (mCons (mOp dIx (mVar 0) (mC (.int 1))) mNil)) (mOp dEq (mVar 0) (mVar 1)))))) mNext) (mRet (mAndV (mCall 1 m_is_whole (mCons (mVar 0) mNil)) (mOp dEq (mVar 0) (mVar 1)))))
def m_is_same : List D → Sto → R D := fnM sealR 2 b_is_same
section
variable {P : Program} {w : World} {K : PySem.W.Frag} {mg : Str → Option Value} {base h : Heap} (KX : K.In h) (G : h.Ns mainGlobals mg) (c : SaysZ facts defs_ tabs_ tfs w h K) (TB : ∀ p ∈ css K, LamX.TabB base mg p.1 p.2)
include KX G c TB
theorem body_is_same : BodyOk P w K mg base (tbs K) 2 n_is_same "is_same" s_is_same ((.g "is_same" : DAt).ad K) b_is_same := fun cdv A outer s H E hcdv hr =>
  (ess_cons (es_if (et_val (ev_isB (cs := clss) (t := "tuple") (clst KX G c) (ev_var 1) (fa22 KX G c) (fa34 KX G c) (by decide +kernel))) (ess_one (es_ret (ev_and (ev_callH (has_is_pair KX G c TB) (hr.mono (by decide)) (fa36 KX G c) tk_fn (ea_cons (ev_var 0) ea_nil)) (ev_and (ev_callH (has_is_whole KX G c TB) (hr.mono (by decide)) (fa30 KX G c) tk_fn (ea_cons (ev_ix (ev_var 0) ev_int) ea_nil)) (ev_and (ev_callH (has_is_whole KX G c TB) (hr.mono (by decide)) (fa30 KX G c) tk_fn (ea_cons (ev_ix (ev_var 0) ev_int) ea_nil)) (ev_one (ev_cmp (op_eqD hr.units) od_eq (ev_var 0) (ev_var 1)))))))) ess_nil) (ess_one (es_ret (ev_and (ev_callH (has_is_whole KX G c TB) (hr.mono (by decide)) (fa30 KX G c) tk_fn (ea_cons (ev_var 0) ea_nil)) (ev_one (ev_cmp (op_eqD hr.units) od_eq (ev_var 0) (ev_var 1)))))))
theorem has_is_same : Has P w K mg base (tbs K) 3 ((.g "is_same" : DAt).ad K) p_is_same m_is_same :=
  has_of (ps := p_is_same) (c.def_ 71) sc_is_same sealR_ok (fun _ _ _ _ _ _ us hl => match us, hl with | [_, _], _ => rfl) (body_is_same KX G c TB)
end
/-! ### does_break_by -/
abbrev s_does_break_by : Stmt := top 67
abbrev n_does_break_by : List Str := ["case", "value", "_", "due"]
abbrev p_does_break_by : List Str := ["case", "value"]
theorem nd_does_break_by : n_does_break_by.Nodup := by decide +kernel
theorem sc_does_break_by : FnScope n_does_break_by p_does_break_by (defScope s_does_break_by) := ⟨rfl, rfl, rfl, nd_does_break_by, rfl, by decide +kernel, by decide +kernel⟩
def b_does_break_by : MS := (mSeq (mIfS (mOr (mNot (mTst (mCall 1 m_is_pair (mCons (mVar 1) mNil)))) (mNot (mTst (mCall 2 m_is_one_of (mCons (mOp dIx (mVar 1) (mC (.int 0))) (mCons (mC (.tup [.str "mean", .str "surely", .str "first"])) mNil)))))) (mRet (mC (.bl false))) mNext) (mRet (mBi dAny (mCons (mLc (mIter (mCall 2 m_stories_by (mCons (mVar 0) (mCons (mOp dIx (mVar 1) (mC (.int 0))) mNil)))) (.tp [(.nm 2), (.nm 3)]) mYes (mCall 2 m_is_same (mCons (mOp dIx (mVar 1) (mC (.int 1))) (mCons (mVar 3) mNil))) [2, 3]) mNil))))
def m_does_break_by : List D → Sto → R D := fnM sealR 4 b_does_break_by
section
variable {P : Program} {w : World} {K : PySem.W.Frag} {mg : Str → Option Value} {base h : Heap} (KX : K.In h) (G : h.Ns mainGlobals mg) (c : SaysZ facts defs_ tabs_ tfs w h K) (TB : ∀ p ∈ css K, LamX.TabB base mg p.1 p.2)
include KX G c TB
theorem body_does_break_by : BodyOk P w K mg base (tbs K) 10 n_does_break_by "does_break_by" s_does_break_by ((.g "does_break_by" : DAt).ad K) b_does_break_by := fun cdv A outer s H E hcdv hr =>
  (ess_cons (es_if (EvW.pt (ew_or (et_not (et_val (ev_callH (has_is_pair KX G c TB) (hr.mono (by decide)) (fa36 KX G c) tk_fn (ea_cons (ev_var 1) ea_nil)))) (ew_or1 (et_not (et_val (ev_callH (has_is_one_of KX G c TB) (hr.mono (by decide)) (fa26 KX G c) tk_fn (ea_cons (ev_ix (ev_var 1) ev_int) (ea_cons (ev_gl (fa57 KX G c)) ea_nil)))))))) (ess_one (es_ret ev_bl)) ess_nil) (ess_one (es_ret (ev_bi (cr_any rfl) cd_any (fa111 KX G c) (by decide +kernel) (ea_cons (ev_lc (own := [("_", 2), ("due", 3)]) nd_does_break_by (ei_any (ev_callH (has_stories_by KX G c TB) (hr.mono (by decide)) (fa106 KX G c) tk_fn (ea_cons (ev_var 0) (ea_cons (ev_ix (ev_var 1) ev_int) ea_nil)))) (blkOk_by rfl) (by decide) (fun _ _ _ _ _ => (pt_tup rfl (pt_cons (pt_name 2 nd_does_break_by) (pt_cons (pt_name 3 nd_does_break_by) pt_nil)))) (fun _ _ _ _ _ => ets_nil) (fun _ _ _ _ _ => (ev_callH (has_is_same KX G c TB) (hr.mono (by decide)) (fa110 KX G c) tk0 (ea_cons (ev_ix (ev_var 1) ev_int) (ea_cons (ev_var 3) ea_nil))))) ea_nil)))))
theorem has_does_break_by : Has P w K mg base (tbs K) 11 ((.g "does_break_by" : DAt).ad K) p_does_break_by m_does_break_by :=
  has_of (ps := p_does_break_by) (c.def_ 72) sc_does_break_by sealR_ok (fun _ _ _ _ _ _ us hl => match us, hl with | [_, _], _ => rfl) (body_does_break_by KX G c TB)
end
/-! ### does_break -/
abbrev s_does_break : Stmt := top 88
abbrev n_does_break : List Str := ["case", "story"]
abbrev p_does_break : List Str := ["case", "story"]
theorem nd_does_break : n_does_break.Nodup := by decide +kernel
theorem sc_does_break : FnScope n_does_break p_does_break (defScope s_does_break) := ⟨rfl, rfl, rfl, nd_does_break, rfl, by decide +kernel, by decide +kernel⟩
def b_does_break : MS := (mSeq (mDrop (mCall 1 m_check_case (mCons (mVar 0) mNil))) (mRet (mCall 2 m_does_break_by (mCons (mVar 0) (mCons (mVar 1) mNil)))))
def m_does_break : List D → Sto → R D := fnM sealR 2 b_does_break
section
variable {P : Program} {w : World} {K : PySem.W.Frag} {mg : Str → Option Value} {base h : Heap} (KX : K.In h) (G : h.Ns mainGlobals mg) (c : SaysZ facts defs_ tabs_ tfs w h K) (TB : ∀ p ∈ css K, LamX.TabB base mg p.1 p.2)
include KX G c TB
theorem body_does_break : BodyOk P w K mg base (tbs K) 11 n_does_break "does_break" s_does_break ((.g "does_break" : DAt).ad K) b_does_break := fun cdv A outer s H E hcdv hr =>
  (ess_cons (es_drop (ev_callH (has_check_case KX G c TB) (hr.mono (by decide)) (fa56 KX G c) tk_fn (ea_cons (ev_var 0) ea_nil))) (ess_one (es_ret (ev_callH (has_does_break_by KX G c TB) (hr.mono (by decide)) (fa112 KX G c) tk_fn (ea_cons (ev_var 0) (ea_cons (ev_var 1) ea_nil))))))
theorem has_does_break : Has P w K mg base (tbs K) 12 ((.g "does_break" : DAt).ad K) p_does_break m_does_break :=
  has_of (ps := p_does_break) (c.def_ 73) sc_does_break sealR_ok (fun _ _ _ _ _ _ us hl => match us, hl with | [_, _], _ => rfl) (body_does_break KX G c TB)
end
/-! ### _law_right -/
abbrev s__law_right : Stmt := top 109
abbrev n__law_right : List Str := ["desk", "lap", "parts", "case", "outs", "due", "word", "value", "is_out", "story"]
abbrev p__law_right : List Str := ["desk"]
theorem nd__law_right : n__law_right.Nodup := by decide +kernel
theorem sc__law_right : FnScope n__law_right p__law_right (defScope s__law_right) := ⟨rfl, rfl, rfl, nd__law_right, rfl, by decide +kernel, by decide +kernel⟩
def b__law_right : MS := (mSeq (mFor (mRng1 (mCons (mC (.int 4)) mNil)) (gN 1) (mSeq (mAsg (mCall 2 m__law_case_parts (mCons (mVar 0) (mCons (mC (.int 6)) mNil))) (gN 2)) (mSeq (mPar 3 4 (mCons (mCall 1 m__law_case (mCons (mVar 2) mNil)) (mCons (mCall 1 m__law_outs (mCons (mVar 2) mNil)) mNil))) (mSeq (mAsg (mBi dTupOf (mCons (mLc (mIter (mVar 4)) (.tp [(.nm 6), (.nm 7), (.nm 8)]) (mTst (mVar 8)) (mVar 6) [6, 7, 8]) mNil)) (gN 5)) (mSeq (mIfS (mNot (mTst (mCall 2 m__law_same (mCons (mLst (mCons (mCall 1 m_faults (mCons (mVar 3) mNil)) (mCons (mCallK 1 1 [0] m_faults (mCons (mVar 3) mNil)) (mCons (mCall 1 m_is_sound (mCons (mVar 3) mNil)) (mCons (mCallK 1 1 [0] m_is_sound (mCons (mVar 3) mNil)) mNil))))) (mCons (mLst (mCons (mVar 5) (mCons (mVar 5) (mCons (mOp dEq (mVar 5) (mTup mNil)) (mCons (mOp dEq (mVar 5) (mTup mNil)) mNil))))) mNil))))) (mRet (mC (.bl false))) mNext) (mFor (mIter (mVar 4)) (gTupM 3 (gConsM (gN 6) (gConsM (gN 7) (gConsM (gN 8) gNilM)))) (mSeq (mAsg (mIf (mTst (mVar 8)) (mTup (mCons (mVar 6) (mCons (mVar 7) mNil))) (mC .non)) (gN 9)) (mSeq (mIfS (mNot (mTst (mCall 2 m__law_same (mCons (mLst (mCons (mCall 2 m_breaking (mCons (mVar 3) (mCons (mVar 6) mNil))) (mCons (mCallK 2 2 [1, 0] m_breaking (mCons (mVar 6) (mCons (mVar 3) mNil))) mNil))) (mCons (mLst (mCons (mVar 9) (mCons (mVar 9) mNil))) mNil))))) (mRet (mC (.bl false))) mNext) (mIfS (mAnd (mTst (mVar 8)) (mTst (mOp dNotB (mCall 2 m_does_break (mCons (mVar 3) (mCons (mVar 9) mNil))) (mC (.bl true))))) (mRet (mC (.bl false))) mNext))))))))) (mRet (mC (.bl true))))
def m__law_right : List D → Sto → R D := fnM sealR 10 b__law_right
section
variable {P : Program} {w : World} {K : PySem.W.Frag} {mg : Str → Option Value} {base h : Heap} (KX : K.In h) (G : h.Ns mainGlobals mg) (c : SaysZ facts defs_ tabs_ tfs w h K) (TB : ∀ p ∈ css K, LamX.TabB base mg p.1 p.2)
include KX G c TB
theorem body__law_right : BodyOk P w K mg base (tbs K) 12 n__law_right "_law_right" s__law_right ((.g "_law_right" : DAt).ad K) b__law_right := fun cdv A outer s H E hcdv hr =>
  (ess_cons (es_for (ei_rng1 (fa3 KX G c) (ea_cons ev_int ea_nil)) (eg_name 1 nd__law_right) (ess_cons (es_asg (ev_callH (has__law_case_parts KX G c TB) (hr.mono (by decide)) (fa11 KX G c) tk_fn (ea_cons (ev_var 0) (ea_cons ev_int ea_nil))) (eg_name 2 nd__law_right)) (ess_cons (es_par 3 4 (hc := rfl) (hN := nd__law_right) (ha := (ea_cons (ev_callH (has__law_case KX G c TB) (hr.mono (by decide)) (fa52 KX G c) tk_fn (ea_cons (ev_var 2) ea_nil)) (ea_cons (ev_callH (has__law_outs KX G c TB) (hr.mono (by decide)) (fa21 KX G c) tk_fn (ea_cons (ev_var 2) ea_nil)) ea_nil)))) (ess_cons (es_asg (ev_bt call_tupleF cd_tupOf (fa34 KX G c) (by decide +kernel) (ea_cons (ev_lc (own := [("word", 6), ("value", 7), ("is_out", 8)]) nd__law_right (ei_any (ev_var 4)) (blkOk_by rfl) (by decide) (fun _ _ _ _ _ => (pt_tup rfl (pt_cons (pt_name 6 nd__law_right) (pt_cons (pt_name 7 nd__law_right) (pt_cons (pt_name 8 nd__law_right) pt_nil))))) (fun _ _ _ _ _ => ets_one (et_val (ev_var 8))) (fun _ _ _ _ _ => (ev_var 6))) ea_nil)) (eg_name 5 nd__law_right)) (ess_cons (es_if (et_not (et_val (ev_callH (has__law_same KX G c TB) (hr.mono (by decide)) (fa55 KX G c) tk_fn (ea_cons (ev_lst (ea_cons (ev_callH (has_faults KX G c TB) (hr.mono (by decide)) (fa107 KX G c) tk_fn (ea_cons (ev_var 3) ea_nil)) (ea_cons (ev_callHK 1 (hask_faults_case KX G c TB) (hr.mono (by decide)) (fa107 KX G c) tk_fn (ek_cons (ev_var 3) ek_nil)) (ea_cons (ev_callH (has_is_sound KX G c TB) (hr.mono (by decide)) (fa108 KX G c) tk_fn (ea_cons (ev_var 3) ea_nil)) (ea_cons (ev_callHK 1 (hask_is_sound_case KX G c TB) (hr.mono (by decide)) (fa108 KX G c) tk_fn (ek_cons (ev_var 3) ek_nil)) ea_nil))))) (ea_cons (ev_lst (ea_cons (ev_var 5) (ea_cons (ev_var 5) (ea_cons (ev_cmp (op_eqD hr.units) od_eq (ev_var 5) (ev_tup ea_nil)) (ea_cons (ev_cmp (op_eqD hr.units) od_eq (ev_var 5) (ev_tup ea_nil)) ea_nil))))) ea_nil))))) (ess_one (es_ret ev_bl)) ess_nil) (ess_one (es_for (ei_any (ev_var 4)) (eg_tup rfl (egs_cons (eg_name 6 nd__law_right) (egs_cons (eg_name 7 nd__law_right) (egs_cons (eg_name 8 nd__law_right) egs_nil)))) (ess_cons (es_asg (ev_if (et_val (ev_var 8)) (ev_tup (ea_cons (ev_var 6) (ea_cons (ev_var 7) ea_nil))) ev_non) (eg_name 9 nd__law_right)) (ess_cons (es_if (et_not (et_val (ev_callH (has__law_same KX G c TB) (hr.mono (by decide)) (fa55 KX G c) tk_fn (ea_cons (ev_lst (ea_cons (ev_callH (has_breaking KX G c TB) (hr.mono (by decide)) (fa109 KX G c) tk_fn (ea_cons (ev_var 3) (ea_cons (ev_var 6) ea_nil))) (ea_cons (ev_callHK 2 (hask_breaking_word_case KX G c TB) (hr.mono (by decide)) (fa109 KX G c) tk_fn (ek_cons (ev_var 6) (ek_cons (ev_var 3) ek_nil))) ea_nil))) (ea_cons (ev_lst (ea_cons (ev_var 9) (ea_cons (ev_var 9) ea_nil))) ea_nil))))) (ess_one (es_ret ev_bl)) ess_nil) (ess_one (es_if (EvW.pt (ew_and (et_val (ev_var 8)) (ew_and1 (et_cmp op_notBl od_notB (ev_callH (has_does_break KX G c TB) (hr.mono (by decide)) (fa113 KX G c) tk_fn (ea_cons (ev_var 3) (ea_cons (ev_var 9) ea_nil))) ev_bl)))) (ess_one (es_ret ev_bl)) ess_nil)))) po_fn)))))) po_fn) (ess_one (es_ret ev_bl)))
theorem has__law_right : Has P w K mg base (tbs K) 13 ((.g "_law_right" : DAt).ad K) p__law_right m__law_right :=
  has_of (ps := p__law_right) (c.def_ 74) sc__law_right sealR_ok (fun _ _ _ _ _ _ us hl => match us, hl with | [_], _ => rfl) (body__law_right KX G c TB)
end
/-! ### _law_desk -/
abbrev s__law_desk : Stmt := top 91
abbrev n__law_desk : List Str := ["script", "lap", "own", "stir", "cell"]
abbrev p__law_desk : List Str := ["script", "lap"]
theorem nd__law_desk : n__law_desk.Nodup := by decide +kernel
theorem sc__law_desk : FnScope n__law_desk p__law_desk (defScope s__law_desk) := ⟨rfl, rfl, rfl, nd__law_desk, rfl, by decide +kernel, by decide +kernel⟩
def b__law_desk : MS := (mSeq (mAsg (mIf (mTst (mOp dLt (mVar 1) (mBi dLen (mCons (mVar 0) mNil)))) (mBi dInt (mCons (mOp dIx (mVar 0) (mVar 1)) mNil)) (mC (.int 0))) (gN 2)) (mSeq (mAsg (mOp dAdd (mC (.int 6701)) (mOp dMul (mC (.int 523)) (mVar 1))) (gN 3)) (mSeq (mFor (mIter (mOp dAdd (mSl (mVar 0) mNoP (mP (mC (.int 9)))) (mLst (mCons (mVar 2) mNil)))) (gN 4) (mAsg (mOp dMod (mBi dInt (mCons (mOp dAdd (mOp dAdd (mOp dMul (mVar 3) (mC (.int 17581))) (mOp dMod (mBi dInt (mCons (mVar 4) mNil)) (mC (.int 2147482093)))) (mC (.int 181))) mNil)) (mC (.int 2147482661))) (gN 3))) (mRet (mLstM (mCons (mIf (mOr (mTst (mOp dLt (mVar 2) (mC (.int 0)))) (mTst (mOp dGe (mVar 2) (mOp dPow (mC (.int 10)) (mC (.int 16)))))) (mOp dMod (mBi dAbs (mCons (mVar 2) mNil)) (mOp dPow (mC (.int 10)) (mC (.int 60)))) (mC (.int 0))) (mCons (mVar 3) (mCons (mC (.int 0)) mNil))))))))
def m__law_desk : List D → Sto → R D := fnM sealM 5 b__law_desk
section
variable {P : Program} {w : World} {K : PySem.W.Frag} {mg : Str → Option Value} {base h : Heap} (KX : K.In h) (G : h.Ns mainGlobals mg) (c : SaysZ facts defs_ tabs_ tfs w h K) (TB : ∀ p ∈ css K, LamX.TabB base mg p.1 p.2)
include KX G c TB
theorem body__law_desk : BodyOk P w K mg base (tbs K) 0 n__law_desk "_law_desk" s__law_desk ((.g "_law_desk" : DAt).ad K) b__law_desk := fun cdv A outer s H E hcdv hr =>
  (ess_cons (es_asg (ev_if (et_cmp op_lt od_lt (ev_var 1) (ev_bi call_len cd_len (fa0 KX G c) (by decide +kernel) (ea_cons (ev_var 0) ea_nil))) (ev_bt call_int1 cd_int (fa5 KX G c) (by decide +kernel) (ea_cons (ev_ix (ev_var 0) (ev_var 1)) ea_nil)) ev_int) (eg_name 2 nd__law_desk)) (ess_cons (es_asg (ev_op op_addAll od_add ev_int (ev_op op_mulW od_mul ev_int (ev_var 1))) (eg_name 3 nd__law_desk)) (ess_cons (es_for (ei_any (ev_op op_addAll od_add (ev_sl (ev_var 0) eo_none (eo_some ev_int)) (ev_lst (ea_cons (ev_var 2) ea_nil)))) (eg_name 4 nd__law_desk) (ess_one (es_asg (ev_op op_mod od_mod (ev_bt call_int1 cd_int (fa5 KX G c) (by decide +kernel) (ea_cons (ev_op op_addAll od_add (ev_op op_addAll od_add (ev_op op_mulW od_mul (ev_var 3) ev_int) (ev_op op_mod od_mod (ev_bt call_int1 cd_int (fa5 KX G c) (by decide +kernel) (ea_cons (ev_var 4) ea_nil)) ev_int)) ev_int) ea_nil)) ev_int) (eg_name 3 nd__law_desk))) po_fn) (ess_one (es_ret (ev_lstM (ea_cons (ev_if (EvW.pt (ew_or (et_cmp op_lt od_lt (ev_var 2) ev_int) (ew_or1 (et_cmp op_ge od_ge (ev_var 2) (ev_op op_pow od_pow ev_int ev_int))))) (ev_op op_mod od_mod (ev_bi call_abs cd_abs (fa9 KX G c) (by decide +kernel) (ea_cons (ev_var 2) ea_nil)) (ev_op op_pow od_pow ev_int ev_int)) ev_int) (ea_cons (ev_var 3) (ea_cons ev_int ea_nil)))))))))
theorem has__law_desk : Has P w K mg base (tbs K) 1 ((.g "_law_desk" : DAt).ad K) p__law_desk m__law_desk :=
  has_of (ps := p__law_desk) (c.def_ 75) sc__law_desk sealM_ok (fun _ _ _ _ _ _ us hl => match us, hl with | [_, _], _ => rfl) (body__law_desk KX G c TB)
end
/-! ### law -/
abbrev s_law : Stmt := top 110
abbrev n_law : List Str := ["script", "lap"]
abbrev p_law : List Str := ["script"]
theorem nd_law : n_law.Nodup := by decide +kernel
theorem sc_law : FnScope n_law p_law (defScope s_law) := ⟨rfl, rfl, rfl, nd_law, rfl, by decide +kernel, by decide +kernel⟩
def b_law : MS := (mRet (mBi dAll (mCons (mLc (mRng1 (mCons (mBi dMax2 (mCons (mC (.int 1)) (mCons (mBi dMin2 (mCons (mBi dLen (mCons (mVar 0) mNil)) (mCons (mC (.int 3)) mNil))) mNil))) mNil)) (.nm 1) mYes (mCall 1 m__law_right (mCons (mCall 2 m__law_desk (mCons (mVar 0) (mCons (mVar 1) mNil))) mNil)) [1]) mNil)))
def m_law : List D → Sto → R D := fnM sealR 2 b_law
section
variable {P : Program} {w : World} {K : PySem.W.Frag} {mg : Str → Option Value} {base h : Heap} (KX : K.In h) (G : h.Ns mainGlobals mg) (c : SaysZ facts defs_ tabs_ tfs w h K) (TB : ∀ p ∈ css K, LamX.TabB base mg p.1 p.2)
include KX G c TB
theorem body_law : BodyOk P w K mg base (tbs K) 13 n_law "law" s_law ((.g "law" : DAt).ad K) b_law := fun cdv A outer s H E hcdv hr =>
  (ess_one (es_ret (ev_bi (cr_all rfl) cd_all (fa37 KX G c) (by decide +kernel) (ea_cons (ev_lc (own := [("lap", 1)]) nd_law (ei_rng1 (fa3 KX G c) (ea_cons (ev_bi (call_max2 rfl) cd_max2 (fa2 KX G c) (by decide +kernel) (ea_cons ev_int (ea_cons (ev_bi (call_min2 rfl) cd_min2 (fa1 KX G c) (by decide +kernel) (ea_cons (ev_bi call_len cd_len (fa0 KX G c) (by decide +kernel) (ea_cons (ev_var 0) ea_nil)) (ea_cons ev_int ea_nil))) ea_nil))) ea_nil)) (blkOk_by rfl) (by decide) (fun _ _ _ _ _ => (pt_name 1 nd_law)) (fun _ _ _ _ _ => ets_nil) (fun _ _ _ _ _ => (ev_callH (has__law_right KX G c TB) (hr.mono (by decide)) (fa115 KX G c) tk0 (ea_cons (ev_callH (has__law_desk KX G c TB) (hr.mono (by decide)) (fa114 KX G c) tk0 (ea_cons (ev_var 0) (ea_cons (ev_var 1) ea_nil))) ea_nil)))) ea_nil))))
theorem has_law : Has P w K mg base (tbs K) 14 ((.g "law" : DAt).ad K) p_law m_law :=
  has_of (ps := p_law) (c.def_ 76) sc_law sealR_ok (fun _ _ _ _ _ _ us hl => match us, hl with | [_], _ => rfl) (body_law KX G c TB)
end
end K79

end

section
set_option maxRecDepth 100000
set_option Elab.async false
set_option linter.all false
set_option maxHeartbeats 2000000
namespace K79
open PySem PySem.Spec PyProof.Rows L2 DM
def gz (a b : Int) : Nat := Nat.gcd a.natAbs b.natAbs
/-- lowest: the pair by its common divisor -/
def lowQ (a b : Int) : Int × Int := (a / (gz a b : Int), b / (gz a b : Int))
abbrev T3 := Int × Int × Int
abbrev Q2 (q : Int × Int) : D := .tup [.int q.1, .int q.2]
abbrev S3 (p : T3) : D := .tup [.int p.1, .int p.2.1, .int p.2.2]
def gOk (a b : Int) : Bool := decide (0 < b) && decide ((gz a b).log2 < 9000)
theorem dDiv_ok {a b : Int} {st : Sto} (h : divOk a b = true) : dDiv (.int a) (.int b) st = .ok (.int (a / b)) st := if_pos h
theorem dGcd_ok {a b : Int} {st : Sto} : dGcd [.int a, .int b] st = .ok (.int (gz a b : Int)) st := rfl
theorem lowest_eq {a b : Int} {st : Sto} (h : gOk a b = true) : m_lowest [.int a, .int b] st = .ok (Q2 (lowQ a b)) st := by
  simp only [gOk, Bool.and_eq_true, decide_eq_true_eq] at h
  obtain ⟨hb, hl⟩ := h
  have hb2 : ¬ b = 0 := by omega
  have d1 : ∀ c, divOk c (gz a b) = true := fun c => by unfold gz at *; simp [hb2, hl]
  unfold m_lowest
  rw [fn_rt (d := Q2 (lowQ a b)) (st' := st)]
  · simp [seal_tup, lowL, lowD]
  · simp [b_lowest, startM, hb, dGcd_ok, dDiv_ok (d1 _), lowQ]
@[simp] theorem ix2_0 {a b : Int} {st : Sto} : dIx (Q2 (a, b)) (.int 0) st = .ok (.int a) st := rfl
@[simp] theorem ix2_1 {a b : Int} {st : Sto} : dIx (Q2 (a, b)) (.int 1) st = .ok (.int b) st := rfl
def mulQ (p q : Int × Int) : Int × Int := lowQ (p.1 * q.1) (p.2 * q.2)
def cMul (p q : Int × Int) : Bool := okM p.1 q.1 && (okM p.2 q.2 && gOk (p.1 * q.1) (p.2 * q.2))
theorem times_eq {p q : Int × Int} {st : Sto} (h : cMul p q = true) : m_times [Q2 p, Q2 q] st = .ok (Q2 (mulQ p q)) st := by
  simp only [cMul, Bool.and_eq_true] at h
  obtain ⟨h1, h2, h3⟩ := h
  obtain ⟨a, b⟩ := p
  obtain ⟨c, d⟩ := q
  unfold m_times
  rw [fn_rt (d := Q2 (mulQ (a, b) (c, d))) (st' := st)]
  · simp [seal_tup, lowL, lowD]
  · simp [b_times, startM, dMul_ok h1, dMul_ok h2, lowest_eq h3, mulQ]
def addQ (p q : Int × Int) : Int × Int := lowQ (p.1 * q.2 + q.1 * p.2) (p.2 * q.2)
def cAdd (p q : Int × Int) : Bool := okM p.1 q.2 && (okM q.1 p.2 && (okM p.2 q.2 && gOk (p.1 * q.2 + q.1 * p.2) (p.2 * q.2)))
theorem plus_eq {p q : Int × Int} {st : Sto} (h : cAdd p q = true) : m_plus [Q2 p, Q2 q] st = .ok (Q2 (addQ p q)) st := by
  simp only [cAdd, Bool.and_eq_true] at h
  obtain ⟨h1, h2, h3, h4⟩ := h
  obtain ⟨a, b⟩ := p
  obtain ⟨c, d⟩ := q
  unfold m_plus
  rw [fn_rt (d := Q2 (addQ (a, b) (c, d))) (st' := st)]
  · simp [seal_tup, lowL, lowD]
  · simp [b_plus, startM, dMul_ok h1, dMul_ok h2, dMul_ok h3, lowest_eq h4, addQ]
def subQ (p q : Int × Int) : Int × Int := lowQ (p.1 * q.2 - q.1 * p.2) (p.2 * q.2)
def cSub (p q : Int × Int) : Bool := okM p.1 q.2 && (okM q.1 p.2 && (okM p.2 q.2 && gOk (p.1 * q.2 - q.1 * p.2) (p.2 * q.2)))
theorem minus_eq {p q : Int × Int} {st : Sto} (h : cSub p q = true) : m_minus [Q2 p, Q2 q] st = .ok (Q2 (subQ p q)) st := by
  simp only [cSub, Bool.and_eq_true] at h
  obtain ⟨h1, h2, h3, h4⟩ := h
  obtain ⟨a, b⟩ := p
  obtain ⟨c, d⟩ := q
  unfold m_minus
  rw [fn_rt (d := Q2 (subQ (a, b) (c, d))) (st' := st)]
  · simp [seal_tup, lowL, lowD]
  · simp [b_minus, startM, dMul_ok h1, dMul_ok h2, dMul_ok h3, lowest_eq h4, subQ]
def lessQ (p q : Int × Int) : Bool := decide (p.1 * q.2 < q.1 * p.2)
def cLess (p q : Int × Int) : Bool := okM p.1 q.2 && okM q.1 p.2
theorem less_eq {p q : Int × Int} {st : Sto} (h : cLess p q = true) : m_is_less [Q2 p, Q2 q] st = .ok (.bl (lessQ p q)) st := by
  simp only [cLess, Bool.and_eq_true] at h
  obtain ⟨h1, h2⟩ := h
  obtain ⟨a, b⟩ := p
  obtain ⟨c, d⟩ := q
  unfold m_is_less
  rw [fn_rt (d := .bl (lessQ (a, b) (c, d))) (st' := st)]
  · simp
  · simp [b_is_less, startM, dMul_ok h1, dMul_ok h2, lessQ]
def has3 (p : T3) : Bool := if p.1 = 0 then (if 0 < p.2.1 then decide (0 < p.2.2) else false) else false
def shut3 (p : T3) : Int := p.2.1 + 2 * p.2.2
theorem shut_in_eq {p : T3} {st : Sto} (h : okM 2 p.2.2 = true) : m_shut_in [S3 p] st = .ok (.int (shut3 p)) st := by
  unfold m_shut_in
  rw [fn_rt (d := .int (shut3 p)) (st' := st)]
  · simp
  · simp [b_shut_in, startM, dMul_ok h, shut3]
theorem has_eq {p : T3} {st : Sto} : m_has_choice_statework [S3 p] st = .ok (.bl (has3 p)) st := by
  unfold m_has_choice_statework
  rw [fn_rt (d := .bl (has3 p)) (st' := st)]
  · simp
  · unfold has3
    by_cases h1 : p.1 = 0 <;> by_cases h2 : 0 < p.2.1 <;> simp [b_has_choice_statework, startM, h1, h2]
theorem sh_shut : SeqAt.shaped (.str "shut") = true := by decide +kernel
theorem sh_open : SeqAt.shaped (.str "open") = true := by decide +kernel
theorem sh_turns : SeqAt.shaped (.str "turns") = true := by decide +kernel
def choices3 (p : T3) : List Str := if has3 p = true then ["shut", "open"] else ["shut"]
theorem sl_choices {st : Sto} : slD st none (some 1) (.tup [.str "shut", .str "open"]) = .ok (.tup [.str "shut"]) st := rfl
theorem choices_eq {p : T3} {st : Sto} : m_choices_in [S3 p] st = .ok (.tup ((choices3 p).map .str)) st := by
  unfold m_choices_in
  rw [fn_rt (d := .tup ((choices3 p).map .str)) (st' := st)]
  · unfold choices3
    split <;> simp [seal_tup, lowL, lowD]
  · unfold choices3
    by_cases h : has3 p = true <;> simp [b_choices_in, startM, has_eq, h, mSl, mNoP, mP, sl_choices]
/-- second_by's rows -/
abbrev Row := T3 × Int × (Int × Int)
abbrev dRow (r : Row) : D := .tup [S3 r.1, .int r.2.1, Q2 r.2.2]
def second3 (s h : Int) (ch : Str) : List Row :=
  if ch = "open" ∧ 0 < s then [((0, s + 1, h - 1), 0, (1, 1))] else
    [((0, s, h - 1), 1, lowQ 1 (s + 2 * h - 1))] ++ ((if 0 < s then [((1, s, h - 1), 0, lowQ s (s + 2 * h - 1))] else []) ++ (if 1 < h then [((0, s + 2, h - 2), 0, lowQ (2 * h - 2) (s + 2 * h - 1))] else []))
def cSecond (s h : Int) : Bool := okM 2 h && (gOk 1 (s + 2 * h - 1) && (gOk s (s + 2 * h - 1) && gOk (2 * h - 2) (s + 2 * h - 1)))
theorem low_rows (n : Nat) : ∀ l : List Row, lowL n (l.map dRow) = true
  | [] => rfl
  | r :: l => by simp [lowL, lowD, low_rows n l]
theorem second_eq {s h : Int} {ch : Str} {st : Sto} (hc : SeqAt.shaped (.str ch) = true) (ok : cSecond s h = true) : m_second_by [.int s, .int h, .str ch] st = .ok (.lst ((second3 s h ch).map dRow)) st := by
  simp only [cSecond, Bool.and_eq_true] at ok
  obtain ⟨o1, o2, o3, o4⟩ := ok
  unfold m_second_by
  by_cases h1 : ch = "open" ∧ 0 < s
  · rw [fn_rt (d := .lst ((second3 s h ch).map dRow)) (st' := st)]
    · rw [seal_lst (low_rows _ _), take_self]
    · obtain ⟨e1, e2⟩ := h1
      subst e1
      simp [b_second_by, startM, dEq_str hc sh_open, e2, second3]
  · rw [fn_rt (d := .ref st.length) (st' := st ++ [.lst ((second3 s h ch).map dRow)])]
    · rw [seal_new (low_rows _ _)]
    · have e : second3 s h ch = [((0, s, h - 1), 1, lowQ 1 (s + 2 * h - 1))] ++ ((if 0 < s then [((1, s, h - 1), 0, lowQ s (s + 2 * h - 1))] else []) ++ (if 1 < h then [((0, s + 2, h - 2), 0, lowQ (2 * h - 2) (s + 2 * h - 1))] else [])) := if_neg h1
      rw [e]
      by_cases h4 : ch = "open"
      · subst h4
        have h2 : ¬ 0 < s := fun z => h1 ⟨rfl, z⟩
        by_cases h3 : 1 < h <;> simp [b_second_by, startM, dEq_str hc sh_open, h2, h3, dMul_ok o1, lowest_eq o2, lowest_eq o3, lowest_eq o4, app_last, lowD, lowL]
      · by_cases h2 : 0 < s <;> by_cases h3 : 1 < h <;> simp [b_second_by, startM, dEq_str hc sh_open, h2, h3, h4, dMul_ok o1, lowest_eq o2, lowest_eq o3, lowest_eq o4, app_last, lowD, lowL]
/-- turned -/
def turned3 (p : T3) (ch : Str) : List Row :=
  if 0 < p.1 then [((p.1 - 1, p.2.1, p.2.2), 1, (1, 1))] else
    (if 0 < p.2.1 then [((0, p.2.1 - 1, p.2.2), 1, lowQ p.2.1 (shut3 p))] else []) ++ (if 0 < p.2.2 then (second3 p.2.1 p.2.2 ch).map (fun r => (r.1, r.2.1, mulQ (lowQ (2 * p.2.2) (shut3 p)) r.2.2)) else [])
def cTurned (p : T3) (ch : Str) : Bool := if 0 < p.1 then true else okM 2 p.2.2 && ((if 0 < p.2.1 then gOk p.2.1 (shut3 p) else true) && (if 0 < p.2.2 then gOk (2 * p.2.2) (shut3 p) && (cSecond p.2.1 p.2.2 && (second3 p.2.1 p.2.2 ch).all fun r => cMul (lowQ (2 * p.2.2) (shut3 p)) r.2.2) else true))
theorem second_len (s h : Int) (ch : Str) : (second3 s h ch).length ≤ 3 := by
  unfold second3
  split
  · simp
  · split <;> split <;> simp
theorem second_len3 (s h : Int) (ch : Str) : 1 + (second3 s h ch).length < 100000 ∧ (second3 s h ch).length < 100000 := by have := second_len s h ch; omega
theorem turned_lc {ch : Str} {st : Sto} {x0 x2 x5 x6 x8 x9 x10 : Option D} {q : Int × Int} {s h : Int} (hc : SeqAt.shaped (.str ch) = true) (ok : cSecond s h = true) (ok2 : ((second3 s h ch).all fun r => cMul q r.2.2) = true) :
    mLc (mIter (mCall 3 m_second_by (mCons (mVar 3) (mCons (mVar 4) (mCons (mVar 1) mNil))))) (.tp [(.nm 8), (.nm 9), (.nm 10)]) mYes (mTup (mCons (mVar 8) (mCons (mVar 9) (mCons (mCall 2 m_times (mCons (mVar 7) (mCons (mVar 10) mNil))) mNil)))) [8, 9, 10]
      [x0, some (.str ch), x2, some (.int s), some (.int h), x5, x6, some (Q2 q), x8, x9, x10] st = .ok (.lst (((second3 s h ch).map fun r => (r.1, r.2.1, mulQ q r.2.2)).map dRow)) st := by
  rw [List.map_map]
  refine q_lc1 dRow _ (second3 s h ch) ?_ ?_ (by have := second_len s h ch; omega)
  · simp [second_eq hc ok]
  · intro r hr acc
    have c := List.all_eq_true.mp ok2 r hr
    exact ⟨[x0, some (.str ch), x2, some (.int s), some (.int h), x5, x6, some (Q2 q), some (S3 r.1), some (.int r.2.1), some (Q2 r.2.2)], rfl, by simp [times_eq c], by simp [lowD, lowL]⟩
theorem turned_eq {p : T3} {ch : Str} {st : Sto} (hc : SeqAt.shaped (.str ch) = true) (ok : cTurned p ch = true) : m_turned [S3 p, .str ch] st = .ok (.lst ((turned3 p ch).map dRow)) st := by
  obtain ⟨r, s, h⟩ := p
  unfold m_turned
  by_cases h1 : 0 < r
  · rw [fn_rt (d := .lst ((turned3 (r, s, h) ch).map dRow)) (st' := st)]
    · rw [seal_lst (low_rows _ _), take_self]
    · simp [b_turned, startM, h1, turned3]
  · simp only [cTurned, h1, if_false, Bool.and_eq_true] at ok
    obtain ⟨o1, o2, o3⟩ := ok
    rw [fn_rt (d := .ref st.length) (st' := st ++ [.lst ((turned3 (r, s, h) ch).map dRow)])]
    · rw [seal_new (low_rows _ _)]
    · by_cases h2 : 0 < s <;> by_cases h3 : 0 < h <;> simp only [h2, h3, if_true, if_false, Bool.and_eq_true] at o2 o3
      · obtain ⟨o4, o5, o6⟩ := o3
        simp [b_turned, startM, h1, h2, h3, turned3, shut_in_eq (p := (r, s, h)) o1, lowest_eq o2, lowest_eq o4, dMul_ok o1, app_last, turned_lc hc o5 o6, ext_last, low_rows, second_len3, lowD, lowL, -List.map_map]
      · simp [b_turned, startM, h1, h2, h3, turned3, shut_in_eq (p := (r, s, h)) o1, lowest_eq o2, app_last, lowD, lowL]
      · obtain ⟨o4, o5, o6⟩ := o3
        simp [b_turned, startM, h1, h2, h3, turned3, shut_in_eq (p := (r, s, h)) o1, lowest_eq o4, dMul_ok o1, turned_lc hc o5 o6, ext_last, low_rows, second_len3, lowD, lowL, -List.map_map]
      · simp [b_turned, startM, h1, h2, h3, turned3, shut_in_eq (p := (r, s, h)) o1]
/-- total -/
def addO (p q : Int × Int) : Option (Int × Int) := if cAdd p q = true then some (addQ p q) else none
theorem total_eq {l : List (Int × Int)} {s : Int × Int} {st : Sto} (h : l.foldlM addO (0, 1) = some s) : m_total [.lst (l.map Q2)] st = .ok (Q2 s) st := by
  obtain ⟨ρ, st1, h1, rfl, e, rfl⟩ := for_rel (enc := Q2) (g := gN 2) (b := mAsg (mCall 2 m_plus (mCons (mVar 1) (mCons (mVar 2) mNil))) (gN 1))
    (fun s ρ st1 => st1 = st ∧ ∃ e, ρ = [some (.lst (l.map Q2)), some (Q2 s), e]) addO (by
      rintro s x ρ st1 s' ⟨rfl, e, rfl⟩ hs
      unfold addO at hs
      split at hs
      · rename_i c
        cases hs
        exact ⟨_, _, _, _, rfl, by simp [plus_eq c]; rfl, rfl, _, rfl⟩
      · cases hs) l (0, 1) [some (.lst (l.map Q2)), some (Q2 (0, 1)), none] st s ⟨rfl, _, rfl⟩ h
  unfold m_total
  rw [fn_rt (d := Q2 s) (st' := st1)]
  · simp [seal_tup, lowL, lowD]
  · simp [b_total, startM]
    rw [h1]
    simp
/-- dicts by states -/
abbrev kS (p : T3) : List Key := [.inl p.1, .inl p.2.1, .inl p.2.2]
def look {β : Type} (l : List (T3 × β)) (p : T3) : Option β := (l.find? fun e => decide (e.1 = p)).map (·.2)
theorem kS_inj {p q : T3} : kS p = kS q ↔ p = q := by
  obtain ⟨a, b, c⟩ := p
  obtain ⟨d, e, f⟩ := q
  simp [kS]
abbrev dDic {β : Type} (f : β → D) (l : List (T3 × β)) : List (List Key × D) := l.map fun e => (kS e.1, f e.2)
theorem getK_look {β : Type} (f : β → D) (l : List (T3 × β)) (p : T3) : getK (dDic f l) (kS p) = (look l p).map f := by
  unfold getK look dDic
  induction l with
  | nil => rfl
  | cons e l ih =>
    rw [List.map_cons, List.find?_cons, List.find?_cons]
    by_cases h : e.1 = p
    · simp [h]
    · have h2 : ¬ kS e.1 = kS p := fun z => h (kS_inj.mp z)
      simp only [h, h2, decide_false]
      exact ih
@[simp] theorem keyT_S3 {p : T3} : keyT (S3 p) = some (kS p) := rfl
theorem order_eq {p : T3} {st : Sto} (h1 : okM 2 p.2.1 = true) (h2 : okM 3 p.2.2 = true) : m_order_of [S3 p] st = .ok (.int (p.1 + 2 * p.2.1 + 3 * p.2.2)) st := by
  unfold m_order_of
  rw [fn_rt (d := .int (p.1 + 2 * p.2.1 + 3 * p.2.2)) (st' := st)]
  · simp
  · simp [b_order_of, startM, dMul_ok h1, dMul_ok h2]
def rowV (told : List (T3 × (Int × Int))) (r : Row) : Int × Int := mulQ r.2.2 ((look told r.1).getD (0, 1))
def rowOk (told : List (T3 × (Int × Int))) (r : Row) : Bool := match look told r.1 with
  | some q => cMul r.2.2 q
  | none => false
def meanO (told : List (T3 × (Int × Int))) (p : T3) (ch : Str) : Option (Int × Int) :=
  if (cTurned p ch && (turned3 p ch).all (rowOk told)) = true then (((turned3 p ch).map (rowV told)).foldlM addO (0, 1)).bind (addO (1, 1)) else none
theorem turned_len (p : T3) (ch : Str) : (turned3 p ch).length ≤ 4 := by
  unfold turned3
  split
  · simp
  · have := second_len p.2.1 p.2.2 ch
    split <;> split <;> simp <;> omega
theorem mean_with_eq {d : D} {told : List (T3 × (Int × Int))} {p : T3} {ch : Str} {q : Int × Int} {st : Sto} (hd : ∀ x, dxtOf (st ++ x) d = some (dDic Q2 told)) (hc : SeqAt.shaped (.str ch) = true) (h : meanO told p ch = some q) : m_mean_with [d, S3 p, .str ch] st = .ok (Q2 q) st := by
  unfold meanO at h
  split at h
  · rename_i c
    rw [Bool.and_eq_true] at c
    obtain ⟨c1, c2⟩ := c
    cases ht : ((turned3 p ch).map (rowV told)).foldlM addO (0, 1) with
    | none => rw [ht] at h; cases h
    | some t =>
      rw [ht] at h
      have h : addO (1, 1) t = some q := h
      unfold addO at h
      split at h
      · rename_i c3
        cases h
        have hl : mLc (mIter (mCall 2 m_turned (mCons (mVar 1) (mCons (mVar 2) mNil)))) (.tp [(.nm 3), (.nm 4), (.nm 5)]) mYes (mCall 2 m_times (mCons (mVar 5) (mCons (mDGet (mVar 0) (mVar 3)) mNil))) [3, 4, 5]
            [some d, some (S3 p), some (.str ch), none, none, none] st = .ok (.lst (((turned3 p ch).map (rowV told)).map Q2)) st := by
          rw [List.map_map]
          refine q_lc1 dRow _ (turned3 p ch) ?_ ?_ (by have := turned_len p ch; omega)
          · simp [turned_eq hc c1]
          · intro r hr acc
            have z := List.all_eq_true.mp c2 r hr
            unfold rowOk at z
            cases e : look told r.1 with
            | none => rw [e] at z; cases z
            | some w =>
              rw [e] at z
              refine ⟨[some d, some (S3 p), some (.str ch), some (S3 r.1), some (.int r.2.1), some (Q2 r.2.2)], rfl, ?_, by simp [lowD, lowL]⟩
              have g := dgetK_ok (st := st ++ [.lst acc]) (o := d) (i := S3 r.1) (d := Q2 w) (hd _) rfl (by rw [getK_look, e]; rfl)
              simp [g, times_eq z, rowV, e]
        unfold m_mean_with
        rw [fn_rt (d := Q2 (addQ (1, 1) t)) (st' := st)]
        · simp [seal_tup, lowL, lowD]
        · have e1 : m_plus [.tup [.int 1, .int 1], Q2 t] st = .ok (Q2 (addQ (1, 1) t)) st := plus_eq (st := st) c3
          have e2 := total_eq (st := st) ht
          simp only [b_mean_with, startM, q_ret, q_call, q_cons, q_c, q_nil, R.bind_ok, List.map_cons, List.map_nil, List.length_cons, List.length_nil]
          simp [hl, e2, e1, -List.map_map]
      · cases h
  · cases h
def choice3 (p : T3) (hb : Str) : Str := if has3 p = true then (if hb = "turns" then (if (shut3 p - 1) % 2 = 0 then "shut" else "open") else hb) else "shut"
theorem dMod_ok {a b : Int} {st : Sto} (h : 0 < b) : dMod (.int a) (.int b) st = .ok (.int (a % b)) st := if_pos (decide_eq_true h)
theorem choice_for_eq {p : T3} {hb : Str} {st : Sto} (hc : SeqAt.shaped (.str hb) = true) (ok : okM 2 p.2.2 = true) : m_choice_for [S3 p, .str hb] st = .ok (.str (choice3 p hb)) st := by
  unfold m_choice_for
  rw [fn_rt (d := .str (choice3 p hb)) (st' := st)]
  · simp
  · have m2 : ∀ a st, dMod (.int a) (.int 2) st = .ok (.int (a % 2)) st := fun a st => dMod_ok (by decide)
    unfold choice3
    by_cases h1 : has3 p = true <;> by_cases h2 : hb = "turns" <;> by_cases h3 : (shut3 p - 1) % 2 = 0 <;> simp [b_choice_for, startM, has_eq, h1, h2, h3, shut_in_eq ok, m2, dEq_str hc sh_turns, dEq_str sh_turns sh_turns]
theorem height_eq {p : T3} {st : Sto} (h1 : okM 2 p.2.1 = true) (h2 : okM 3 p.2.2 = true) : m_height_of [S3 p] st = .ok (.int (p.1 + 2 * p.2.1 + 3 * p.2.2)) st := by
  unfold m_height_of
  rw [fn_rt (d := .int (p.1 + 2 * p.2.1 + 3 * p.2.2)) (st' := st)]
  · simp
  · simp [b_height_of, startM, dMul_ok h1, dMul_ok h2]
theorem has2_eq {p : T3} {st : Sto} : m_has_choice_outcomework [S3 p] st = .ok (.bl (has3 p)) st := by
  unfold m_has_choice_outcomework
  rw [fn_rt (d := .bl (has3 p)) (st' := st)]
  · simp
  · unfold has3
    by_cases h1 : p.1 = 0 <;> by_cases h2 : 0 < p.2.1 <;> simp [b_has_choice_outcomework, startM, h1, h2]
theorem choices_of_eq {p : T3} {st : Sto} : m_choices_of [S3 p] st = .ok (.lst ((choices3 p).map .str)) st := by
  unfold m_choices_of
  rw [fn_rt (d := .lst ((choices3 p).map .str)) (st' := st)]
  · unfold choices3
    split <;> simp [seal_lst, lowL, lowD]
  · unfold choices3
    by_cases h : has3 p = true <;> simp [b_choices_of, startM, has2_eq, h]
theorem ext_nil {l : List D} {st : Sto} (hz : l.length < 100000) : dExtend (.ref st.length) [.lst []] (st ++ [.lst l]) = .ok .non (st ++ [.lst l]) := by
  rw [ext_last (es := []) (by simp [lowL]) (by simpa using hz), List.append_nil]
theorem second_shut_eq {p : T3} {st : Sto} (ok : cSecond p.2.1 p.2.2 = true) : m_second_shut [S3 p] st = .ok (.lst ((second3 p.2.1 p.2.2 "shut").map dRow)) st := by
  obtain ⟨r, s, h⟩ := p
  simp only [cSecond, Bool.and_eq_true] at ok
  obtain ⟨o1, o2, o3, o4⟩ := ok
  unfold m_second_shut
  rw [fn_rt (d := .ref st.length) (st' := st ++ [.lst ((second3 s h "shut").map dRow)])]
  · rw [seal_new (low_rows _ _)]
  · have e : second3 s h "shut" = [((0, s, h - 1), 1, lowQ 1 (s + 2 * h - 1))] ++ ((if 0 < s then [((1, s, h - 1), 0, lowQ s (s + 2 * h - 1))] else []) ++ (if 1 < h then [((0, s + 2, h - 2), 0, lowQ (2 * h - 2) (s + 2 * h - 1))] else [])) := if_neg (fun z => absurd z.1 (by decide))
    rw [e]
    by_cases h2 : 0 < s <;> by_cases h3 : 1 < h <;> simp [b_second_shut, startM, h2, h3, dMul_ok o1, lowest_eq o2, lowest_eq o3, lowest_eq o4, ext_last, ext_nil, lowD, lowL]
abbrev Row4 := T3 × Int × Bool × (Int × Int)
abbrev dRow4 (r : Row4) : D := .tup [S3 r.1, .int r.2.1, .bl r.2.2.1, Q2 r.2.2.2]
theorem low_rows4 (n : Nat) : ∀ l : List Row4, lowL n (l.map dRow4) = true
  | [] => rfl
  | r :: l => by simp [lowL, lowD, low_rows4 n l]
def outc3 (p : T3) (ch : Str) : List Row4 :=
  if 0 < p.1 then [((p.1 - 1, p.2.1, p.2.2), 1, false, (1, 1))] else
    (if 0 < p.2.1 then [((0, p.2.1 - 1, p.2.2), 1, false, lowQ p.2.1 (shut3 p))] else []) ++
    (if 0 < p.2.2 then (if ch = "open" ∧ 0 < p.2.1 then [((0, p.2.1 + 1, p.2.2 - 1), 0, false, lowQ (2 * p.2.2) (shut3 p))] else (second3 p.2.1 p.2.2 "shut").map (fun r => (r.1, r.2.1, decide (0 < r.2.1), mulQ (lowQ (2 * p.2.2) (shut3 p)) r.2.2))) else [])
def cOutc (p : T3) : Bool := if 0 < p.1 then true else okM 2 p.2.2 && ((if 0 < p.2.1 then gOk p.2.1 (shut3 p) else true) && (if 0 < p.2.2 then gOk (2 * p.2.2) (shut3 p) && (cSecond p.2.1 p.2.2 && (second3 p.2.1 p.2.2 "shut").all fun r => cMul (lowQ (2 * p.2.2) (shut3 p)) r.2.2) else true))
theorem outc_lc {ch : Str} {st : Sto} {x5 x6 x8 x9 x10 : Option D} {q : Int × Int} {r s h : Int} (ok : cSecond s h = true) (ok2 : ((second3 s h "shut").all fun r => cMul q r.2.2) = true) :
    mLc (mIter (mCall 1 m_second_shut (mCons (mVar 0) mNil))) (.tp [(.nm 8), (.nm 9), (.nm 10)]) mYes (mTup (mCons (mVar 8) (mCons (mVar 9) (mCons (mOp dGt (mVar 9) (mC (.int 0))) (mCons (mCall 2 m_times (mCons (mVar 7) (mCons (mVar 10) mNil))) mNil))))) [8, 9, 10]
      [some (S3 (r, s, h)), some (.str ch), some (.int r), some (.int s), some (.int h), x5, x6, some (Q2 q), x8, x9, x10] st = .ok (.lst (((second3 s h "shut").map fun r => ((r.1, r.2.1, decide (0 < r.2.1), mulQ q r.2.2) : Row4)).map dRow4)) st := by
  rw [List.map_map]
  refine q_lc1 dRow _ (second3 s h "shut") ?_ ?_ (by have := second_len s h "shut"; omega)
  · simp [second_shut_eq (p := (r, s, h)) ok]
  · intro z hr acc
    have c := List.all_eq_true.mp ok2 z hr
    exact ⟨[some (S3 (r, s, h)), some (.str ch), some (.int r), some (.int s), some (.int h), x5, x6, some (Q2 q), some (S3 z.1), some (.int z.2.1), some (Q2 z.2.2)], rfl, by simp [times_eq c], by simp [lowD, lowL]⟩
theorem outc_eq {p : T3} {ch : Str} {st : Sto} (hc : SeqAt.shaped (.str ch) = true) (ok : cOutc p = true) : m_outcomes [S3 p, .str ch] st = .ok (.lst ((outc3 p ch).map dRow4)) st := by
  obtain ⟨r, s, h⟩ := p
  unfold m_outcomes
  by_cases h1 : 0 < r
  · rw [fn_rt (d := .lst ((outc3 (r, s, h) ch).map dRow4)) (st' := st)]
    · rw [seal_lst (low_rows4 _ _), take_self]
    · simp [b_outcomes, startM, h1, outc3]
  · simp only [cOutc, h1, if_false, Bool.and_eq_true] at ok
    obtain ⟨o1, o2, o3⟩ := ok
    have e0 : s + 2 * h = shut3 (r, s, h) := rfl
    rw [fn_rt (d := .ref st.length) (st' := st ++ [.lst ((outc3 (r, s, h) ch).map dRow4)])]
    · rw [seal_new (low_rows4 _ _)]
    · by_cases h2 : 0 < s <;> by_cases h3 : 0 < h <;> simp only [h2, h3, if_true, if_false, Bool.and_eq_true] at o2 o3
      · obtain ⟨o4, o5, o6⟩ := o3
        by_cases h4 : ch = "open"
        · subst h4
          simp [b_outcomes, startM, h1, h2, h3, outc3, e0, lowest_eq o2, lowest_eq o4, dMul_ok o1, dEq_str sh_open sh_open, app_last, lowD, lowL]
        · simp [b_outcomes, startM, h1, h2, h3, h4, outc3, e0, lowest_eq o2, lowest_eq o4, dMul_ok o1, dEq_str hc sh_open, app_last, outc_lc o5 o6, ext_last, low_rows4, second_len3, lowD, lowL, -List.map_map]
      · simp [b_outcomes, startM, h1, h2, h3, outc3, e0, lowest_eq o2, dMul_ok o1, app_last, lowD, lowL]
      · obtain ⟨o4, o5, o6⟩ := o3
        by_cases h4 : ch = "open"
        · subst h4
          simp [b_outcomes, startM, h1, h2, h3, outc3, e0, lowest_eq o4, dMul_ok o1, dEq_str sh_open sh_open, outc_lc o5 o6, ext_last, low_rows4, second_len3, lowD, lowL, -List.map_map]
        · simp [b_outcomes, startM, h1, h2, h3, h4, outc3, e0, lowest_eq o4, dMul_ok o1, dEq_str hc sh_open, outc_lc o5 o6, ext_last, low_rows4, second_len3, lowD, lowL, -List.map_map]
      · simp [b_outcomes, startM, h1, h2, h3, outc3, e0, dMul_ok o1]
abbrev Told := List (T3 × (Int × Int))
def gainV (own others : Told) (r : Row4) : Int × Int := mulQ r.2.2.2 (if 0 < r.2.1 then addQ (r.2.1, 1) ((look own r.1).getD (0, 1)) else subQ (0, 1) ((look others r.1).getD (0, 1)))
def gainOk (own others : Told) (r : Row4) : Bool :=
  if 0 < r.2.1 then (match look own r.1 with
    | some q => cAdd (r.2.1, 1) q && cMul r.2.2.2 (addQ (r.2.1, 1) q)
    | none => false)
  else (match look others r.1 with
    | some q => cSub (0, 1) q && cMul r.2.2.2 (subQ (0, 1) q)
    | none => false)
def gainO (own others : Told) (rows : List Row4) : Option (Int × Int) := if rows.all (gainOk own others) = true then (rows.map (gainV own others)).foldlM addO (0, 1) else none
theorem gain_eq {d d2 : D} {own others : Told} {rows : List Row4} {q : Int × Int} {st : Sto} (hd : ∀ x, dxtOf (st ++ x) d = some (dDic Q2 own)) (hd2 : ∀ x, dxtOf (st ++ x) d2 = some (dDic Q2 others)) (hn : rows.length < 1000) (h : gainO own others rows = some q) : m_gain_behind [.lst (rows.map dRow4), d, d2] st = .ok (Q2 q) st := by
  unfold gainO at h
  split at h
  · rename_i c
    have hl : mLc (mIter (mVar 0)) (.tp [(.nm 3), (.nm 4), (.nm 5), (.nm 6)]) mYes (mCall 2 m_times (mCons (mVar 6) (mCons (mIf (mTst (mOp dGt (mVar 4) (mC (.int 0)))) (mCall 2 m_plus (mCons (mTup (mCons (mVar 4) (mCons (mC (.int 1)) mNil))) (mCons (mDGet (mVar 1) (mVar 3)) mNil))) (mCall 2 m_minus (mCons (mC (.tup [.int 0, .int 1])) (mCons (mDGet (mVar 2) (mVar 3)) mNil)))) mNil))) [3, 4, 5, 6]
        [some (.lst (rows.map dRow4)), some d, some d2, none, none, none, none] st = .ok (.lst ((rows.map (gainV own others)).map Q2)) st := by
      rw [List.map_map]
      refine q_lc1 dRow4 _ rows (by simp) ?_ (by omega)
      intro r hr acc
      refine ⟨[some (.lst (rows.map dRow4)), some d, some d2, some (S3 r.1), some (.int r.2.1), some (.bl r.2.2.1), some (Q2 r.2.2.2)], rfl, ?_, by simp [lowD, lowL]⟩
      have z := List.all_eq_true.mp c r hr
      unfold gainOk at z
      by_cases h1 : 0 < r.2.1
      · simp only [h1, if_true] at z
        cases e : look own r.1 with
        | none => rw [e] at z; cases z
        | some w =>
          rw [e] at z
          simp only [Bool.and_eq_true] at z
          obtain ⟨z1, z2⟩ := z
          have g := dgetK_ok (st := st ++ [.lst acc]) (o := d) (i := S3 r.1) (d := Q2 w) (hd _) rfl (by rw [getK_look, e]; rfl)
          have p1 : m_plus [.tup [.int r.2.1, .int 1], Q2 w] (st ++ [.lst acc]) = .ok (Q2 (addQ (r.2.1, 1) w)) (st ++ [.lst acc]) := plus_eq z1
          simp [g, h1, p1, times_eq z2, gainV, e]
      · simp only [h1, if_false] at z
        cases e : look others r.1 with
        | none => rw [e] at z; cases z
        | some w =>
          rw [e] at z
          simp only [Bool.and_eq_true] at z
          obtain ⟨z1, z2⟩ := z
          have g := dgetK_ok (st := st ++ [.lst acc]) (o := d2) (i := S3 r.1) (d := Q2 w) (hd2 _) rfl (by rw [getK_look, e]; rfl)
          have p1 : m_minus [.tup [.int 0, .int 1], Q2 w] (st ++ [.lst acc]) = .ok (Q2 (subQ (0, 1) w)) (st ++ [.lst acc]) := minus_eq z1
          simp [g, h1, p1, times_eq z2, gainV, e]
    unfold m_gain_behind
    rw [fn_rt (d := Q2 q) (st' := st)]
    · simp [seal_tup, lowL, lowD]
    · have e2 := total_eq (st := st) h
      simp [b_gain_behind, startM, hl, e2, -List.map_map]
  · cases h
theorem outc_len (p : T3) (ch : Str) : (outc3 p ch).length ≤ 4 := by
  unfold outc3
  split
  · simp
  · have := second_len p.2.1 p.2.2 "shut"
    split <;> split <;> (try split) <;> simp <;> omega
def bestO (own others : Told) (p : T3) : Option (Int × Int) := if cOutc p = true then (gainO own others (outc3 p "shut")).bind fun a =>
  if has3 p = true then (gainO own others (outc3 p "open")).bind fun b => if cLess a b = true then some (if lessQ a b = true then b else a) else none else some a else none
theorem best_eq {d d2 : D} {own others : Told} {p : T3} {q : Int × Int} {st : Sto} (hd : ∀ x, dxtOf (st ++ x) d = some (dDic Q2 own)) (hd2 : ∀ x, dxtOf (st ++ x) d2 = some (dDic Q2 others)) (h : bestO own others p = some q) : m_best_gain [S3 p, d, d2] st = .ok (Q2 q) st := by
  unfold bestO at h
  split at h
  · rename_i c
    cases ea : gainO own others (outc3 p "shut") with
    | none => rw [ea] at h; cases h
    | some a =>
      rw [ea] at h
      have key : ∀ ch v, SeqAt.shaped (.str ch) = true → gainO own others (outc3 p ch) = some v → ∀ acc, (mCall 3 m_gain_behind (mCons (mCall 2 m_outcomes (mCons (mVar 0) (mCons (mVar 4) mNil))) (mCons (mVar 1) (mCons (mVar 2) mNil)))) [some (S3 p), some d, some d2, none, some (.str ch)] (st ++ [.lst acc]) = .ok (Q2 v) (st ++ [.lst acc]) := fun ch v hc hv acc => by
        have g := gain_eq (st := st ++ [.lst acc]) (d := d) (d2 := d2) (fun x => by rw [List.append_assoc]; exact hd _) (fun x => by rw [List.append_assoc]; exact hd2 _) (by have := outc_len p ch; omega) hv
        simp [outc_eq hc c, g]
      dsimp only [Option.bind] at h
      unfold m_best_gain
      rw [fn_rt (d := Q2 q) (st' := st)]
      · simp [seal_tup, lowL, lowD]
      · by_cases hh : has3 p = true
        · simp only [hh, if_true] at h
          cases eb : gainO own others (outc3 p "open") with
          | none => rw [eb] at h; cases h
          | some b =>
            rw [eb] at h
            dsimp only at h
            split at h
            · rename_i cl
              cases h
              have hl : mLc (mIter (mCall 1 m_choices_of (mCons (mVar 0) mNil))) (.nm 4) mYes (mCall 3 m_gain_behind (mCons (mCall 2 m_outcomes (mCons (mVar 0) (mCons (mVar 4) mNil))) (mCons (mVar 1) (mCons (mVar 2) mNil)))) [4] [some (S3 p), some d, some d2, none, none] st = .ok (.lst [Q2 a, Q2 b]) st := by
                rw [q_lc1 (fun x : Str × (Int × Int) => .str x.1) (fun x => Q2 x.2) [("shut", a), ("open", b)] (by simp [choices_of_eq, choices3, hh]) (by
                  intro x hx acc
                  simp only [List.mem_cons, List.not_mem_nil, or_false] at hx
                  rcases hx with rfl | rfl
                  · exact ⟨_, rfl, key _ _ sh_shut ea acc, by simp [lowD, lowL]⟩
                  · exact ⟨_, rfl, key _ _ sh_open eb acc, by simp [lowD, lowL]⟩) (by simp)]
                rfl
              have i0 : ∀ st, dIx (.lst [Q2 a, Q2 b]) (.int 0) st = .ok (Q2 a) st := fun _ => rfl
              have i1 : ∀ st, dIx (.lst [Q2 a, Q2 b]) (.int 1) st = .ok (Q2 b) st := fun _ => rfl
              have ln : ∀ st, dLen [.lst [Q2 a, Q2 b]] st = .ok (.int 2) st := fun _ => rfl
              by_cases hq : lessQ a b = true <;> simp [b_best_gain, startM, hl, i0, i1, ln, less_eq cl, hq]
            · cases h
        · simp only [hh] at h
          have h : a = q := Option.some.inj h
          subst h
          have hl : mLc (mIter (mCall 1 m_choices_of (mCons (mVar 0) mNil))) (.nm 4) mYes (mCall 3 m_gain_behind (mCons (mCall 2 m_outcomes (mCons (mVar 0) (mCons (mVar 4) mNil))) (mCons (mVar 1) (mCons (mVar 2) mNil)))) [4] [some (S3 p), some d, some d2, none, none] st = .ok (.lst [Q2 a]) st := by
            rw [q_lc1 (fun x : Str × (Int × Int) => .str x.1) (fun x => Q2 x.2) [("shut", a)] (by simp [choices_of_eq, choices3, hh]) (by
              intro x hx acc
              simp only [List.mem_cons, List.not_mem_nil, or_false] at hx
              subst hx
              exact ⟨_, rfl, key _ _ sh_shut ea acc, by simp [lowD, lowL]⟩) (by simp)]
            rfl
          have i0 : ∀ st, dIx (.lst [Q2 a]) (.int 0) st = .ok (Q2 a) st := fun _ => rfl
          have ln : ∀ st, dLen [.lst [Q2 a]] st = .ok (.int 1) st := fun _ => rfl
          simp [b_best_gain, startM, hl, i0, ln]
  · cases h
end K79

namespace K79
open PySem PySem.Spec PyProof.Rows L2 DM
/-! lists of states as data -/
def pS (p : T3) : PyData := .tuple [.int p.1, .int p.2.1, .int p.2.2]
theorem pdL_states : ∀ l : List T3, pdL (l.map S3) = some (l.map pS)
  | [] => rfl
  | p :: l => by
    rw [List.map_cons, pdL, pdL_states l]
    rfl
theorem lay_states : ∀ l : List T3, PyData.canLayAll0 (l.map pS) = true
  | [] => rfl
  | p :: l => by simp [PyData.canLayAll0, pS, PyData.canLay0, lay_states l]
theorem depth_states : ∀ l : List T3, PyData.depthAll (l.map pS) ≤ 1
  | [] => by simp [PyData.depthAll]
  | p :: l => by
    have := depth_states l
    simp [PyData.depthAll, pS, PyData.depth]
    omega
theorem shaped_states (l : List T3) : SeqAt.shaped (.list (l.map pS)) = true := by
  have := depth_states l
  have h : PyData.depthAll (l.map pS) + 1 ≤ 64 := by omega
  simp only [SeqAt.shaped, PyData.canLay0, lay_states, PyData.depth, Bool.true_and]
  exact decide_eq_true h
theorem ne_nil {st : Sto} {k : Nat} {l : List T3} (h : st[k]? = some (.lst (l.map S3))) : dNe (.ref k) (.lst []) st = .ok (.bl (!l.isEmpty)) st := by
  have e : eqB st (.ref k) (.lst []) = some l.isEmpty := by
    have e1 : pdS st (.ref k) = some (.list (l.map pS)) := by
      show (lstOf st (.ref k)).bind _ = _
      simp [lstOf, h, pdL_states]
    show ((pdS st (.ref k)).bind fun p => (pdS st (.lst [])).bind fun q => if SeqAt.shaped p && SeqAt.shaped q then some (PyData.eqv p q) else none) = _
    rw [e1]
    have s0 : SeqAt.shaped (.list []) = true := shaped_states []
    show (if (SeqAt.shaped (.list (l.map pS)) && SeqAt.shaped (.list [])) = true then some (PyData.eqv (.list (l.map pS)) (.list [])) else none) = _
    rw [shaped_states, s0]
    cases l <;> simp [PyData.eqv, PyData.eqvAll]
  unfold dNe
  rw [e]
end K79

namespace K79
open PySem PySem.Spec PyProof.Rows L2 DM
/-! reached -/
abbrev Seen := List (T3 × Bool) × List T3
abbrev stS (st : Sto) (s : Seen) : Sto := st ++ [.dxt (dDic D.bl s.1), .lst (s.2.map S3)]
def addS (s : Seen) (r : Row) : Option Seen := if (look s.1 r.1).isSome = true then some s else if s.1.length < 1000 ∧ s.2.length < 1000 then some (s.1 ++ [(r.1, true)], s.2 ++ [r.1]) else none
theorem get0 {st : Sto} {a b : Ob} : (st ++ [a, b])[st.length]? = some a := by simp
theorem get1 {st : Sto} {a b : Ob} : (st ++ [a, b])[st.length + 1]? = some b := by simp
theorem set0 {st : Sto} {a b c : Ob} : (st ++ [a, b]).set st.length c = st ++ [c, b] := by simp
theorem set1 {st : Sto} {a b c : Ob} : (st ++ [a, b]).set (st.length + 1) c = st ++ [a, c] := by simp [List.set_append]
theorem put_new {f : List (T3 × Bool)} {p : T3} {b : Bool} (h : look f p = none) : putKD (dDic D.bl f) (kS p) (.bl b) = dDic D.bl (f ++ [(p, b)]) := by
  unfold putKD
  rw [getK_look, h]
  simp
theorem row_step {st : Sto} {s s' : Seen} {r : Row} {x0 x3 x4 x6 : Option D} (h : addS s r = some s') :
    (mIfS (mTst (mDIn true (mVar 5) (mVar 1))) (mSeq (mDPut (mVar 1) (mVar 5) (mC (.bl true))) (mDrop (mBm "list" dAppend (mVar 2) (mCons (mVar 5) mNil)))) mNext)
      [x0, some (.ref st.length), some (.ref (st.length + 1)), x3, x4, some (S3 r.1), x6] (stS st s) = .ok (.nx [x0, some (.ref st.length), some (.ref (st.length + 1)), x3, x4, some (S3 r.1), x6]) (stS st s') := by
  have hd : dxtOf (stS st s) (.ref st.length) = some (dDic D.bl s.1) := by simp [dxtOf, stS]
  have hi := dinK_ok (neg := true) (st := stS st s) (o := .ref st.length) (i := S3 r.1) hd rfl
  rw [getK_look] at hi
  unfold addS at h
  split at h
  · rename_i hs
    cases h
    simp [hi, hs]
  · rename_i hs
    split at h
    · rename_i hz
      cases h
      have hn : look s.1 r.1 = none := by simpa using hs
      have hp : dputK [x0, some (.ref st.length), some (.ref (st.length + 1)), x3, x4, some (S3 r.1), x6] (stS st s) (.ref st.length) (S3 r.1) (.bl true) = .ok (.nx [x0, some (.ref st.length), some (.ref (st.length + 1)), x3, x4, some (S3 r.1), x6]) (stS st (s.1 ++ [(r.1, true)], s.2)) := by
        rw [dputK_ok get0 rfl (by simp; omega) rfl, put_new hn, set0]
      have ht : tyB (stS st (s.1 ++ [(r.1, true)], s.2)) (.ref (st.length + 1)) = some "list" := by simp [tyB, stS]
      have ha : dAppend (.ref (st.length + 1)) [S3 r.1] (stS st (s.1 ++ [(r.1, true)], s.2)) = .ok .non (stS st (s.1 ++ [(r.1, true)], s.2 ++ [r.1])) := by
        have hz2 : s.2.length < sizeLine := by rw [sizeLine_eq]; show s.2.length < 16777216; omega
        unfold dAppend
        simp [stS, hz2, lowD, lowL, List.set_append]
      simp [hi, hn, hp, ht, ha]
    · cases h
/-- one choice: its rows -/
def addC (here : T3) (s : Seen) (ch : Str) : Option Seen := if (cTurned here ch && SeqAt.shaped (.str ch)) = true then (turned3 here ch).foldlM addS s else none
abbrev rowB : MS := mIfS (mTst (mDIn true (mVar 5) (mVar 1))) (mSeq (mDPut (mVar 1) (mVar 5) (mC (.bl true))) (mDrop (mBm "list" dAppend (mVar 2) (mCons (mVar 5) mNil)))) mNext
abbrev rowG : MG := gTupM 3 (gConsM (gN 5) (gConsM (gN 6) (gConsM (gN 6) gNilM)))
abbrev chB : MS := mFor (mIter (mCall 2 m_turned (mCons (mVar 3) (mCons (mVar 4) mNil)))) rowG rowB
theorem ch_step {st : Sto} {s s' : Seen} {here : T3} {ch : Str} {x0 x5 x6 : Option D} (h : addC here s ch = some s') :
    ∃ y5 y6, chB [x0, some (.ref st.length), some (.ref (st.length + 1)), some (S3 here), some (.str ch), x5, x6] (stS st s) = .ok (.nx [x0, some (.ref st.length), some (.ref (st.length + 1)), some (S3 here), some (.str ch), y5, y6]) (stS st s') := by
  unfold addC at h
  split at h
  · rename_i c
    rw [Bool.and_eq_true] at c
    obtain ⟨ρ2, st2, h1, h2, y5, y6, h3⟩ := for_rel (enc := dRow) (g := rowG) (b := rowB) (fun s ρ st1 => st1 = stS st s ∧ ∃ y5 y6, ρ = [x0, some (.ref st.length), some (.ref (st.length + 1)), some (S3 here), some (.str ch), y5, y6]) addS (by
      rintro s x ρ st1 s' ⟨rfl, y5, y6, rfl⟩ hs
      exact ⟨_, _, _, _, rfl, row_step hs, rfl, _, _, rfl⟩) (turned3 here ch) s _ _ s' ⟨rfl, x5, x6, rfl⟩ h
    subst h2 h3
    refine ⟨y5, y6, ?_⟩
    simp only [chB, q_for, q_iter, q_call, q_cons, q_nil, q_var]
    simp [turned_eq c.2 c.1]
    exact h1
  · cases h
def addH (here : T3) (s : Seen) : Option Seen := (choices3 here).foldlM (addC here) s
abbrev hereB : MS := mFor (mIter (mCall 1 m_choices_in (mCons (mVar 3) mNil))) (gN 4) chB
theorem here_step {st : Sto} {s s' : Seen} {here : T3} {x0 x4 x5 x6 : Option D} (h : addH here s = some s') :
    ∃ y4 y5 y6, hereB [x0, some (.ref st.length), some (.ref (st.length + 1)), some (S3 here), x4, x5, x6] (stS st s) = .ok (.nx [x0, some (.ref st.length), some (.ref (st.length + 1)), some (S3 here), y4, y5, y6]) (stS st s') := by
  obtain ⟨ρ2, st2, h1, h2, y4, y5, y6, h3⟩ := for_rel (enc := D.str) (g := gN 4) (b := chB) (fun s ρ st1 => st1 = stS st s ∧ ∃ y4 y5 y6, ρ = [x0, some (.ref st.length), some (.ref (st.length + 1)), some (S3 here), y4, y5, y6]) (addC here) (by
    rintro s x ρ st1 s' ⟨rfl, y4, y5, y6, rfl⟩ hs
    obtain ⟨z5, z6, hz⟩ := ch_step (st := st) (x0 := x0) (x5 := y5) (x6 := y6) hs
    exact ⟨_, _, _, _, rfl, hz, rfl, _, _, _, rfl⟩) (choices3 here) s _ _ s' ⟨rfl, x4, x5, x6, rfl⟩ h
  subst h2 h3
  refine ⟨y4, y5, y6, ?_⟩
  simp only [hereB, q_for, q_iter, q_call, q_cons, q_nil, q_var]
  simp [choices_eq]
  exact h1
/-- the while -/
def reachW : Nat → Seen → Option Seen
  | 0, _ => none
  | n + 1, s => match s.2.getLast? with
    | none => some s
    | some here => (addH here (s.1, s.2.dropLast)).bind (reachW n)
abbrev whB : MS := mSeq (mAsg (mBm "list" dPop (mVar 2) mNil) (gN 3)) hereB
theorem while_ok {st : Sto} {x0 : Option D} : ∀ (n : Nat) (s s' : Seen) (x3 x4 x5 x6 : Option D), reachW n s = some s' →
    ∃ y3 y4 y5 y6, whileM (mTst (mOp dNe (mVar 2) (mLst mNil))) whB n [x0, some (.ref st.length), some (.ref (st.length + 1)), x3, x4, x5, x6] (stS st s) = .ok (.nx [x0, some (.ref st.length), some (.ref (st.length + 1)), y3, y4, y5, y6]) (stS st s')
  | 0, s, s', x3, x4, x5, x6, h => by cases h
  | n + 1, s, s', x3, x4, x5, x6, h => by
    obtain ⟨f, l⟩ := s
    have hn := ne_nil (st := stS st (f, l)) (k := st.length + 1) (l := l) get1
    rw [reachW] at h
    rw [whileM]
    simp only [q_tst, q_op, q_var, q_lst, q_nil]
    cases e : l.getLast? with
    | none =>
      have el : l = [] := List.getLast?_eq_none_iff.mp e
      subst el
      cases h
      exact ⟨x3, x4, x5, x6, by simp [hn]⟩
    | some here =>
      simp only [e] at h
      cases ea : addH here (f, l.dropLast) with
      | none => rw [ea] at h; cases h
      | some s1 =>
        rw [ea] at h
        have hne : l ≠ [] := fun z => by subst z; cases e
        have hp : dPop (.ref (st.length + 1)) [] (stS st (f, l)) = .ok (S3 here) (stS st (f, l.dropLast)) := by
          have hl : (l.map S3)[(l.map S3).length - 1]? = some (S3 here) := by
            rw [← List.getLast?_eq_getElem?, List.getLast?_map, e]
            rfl
          unfold dPop
          dsimp only
          rw [get1]
          dsimp only
          rw [hl]
          dsimp only
          rw [set1]
          simp [stS, List.dropLast_eq_take, List.map_take]
        have ht : tyB (stS st (f, l)) (.ref (st.length + 1)) = some "list" := by simp [tyB, stS]
        obtain ⟨y4, y5, y6, hh⟩ := here_step (st := st) (x0 := x0) (x4 := x4) (x5 := x5) (x6 := x6) ea
        obtain ⟨z3, z4, z5, z6, hw⟩ := while_ok (st := st) (x0 := x0) n s1 s' (some (S3 here)) y4 y5 y6 h
        refine ⟨z3, z4, z5, z6, ?_⟩
        have hb : whB [x0, some (.ref st.length), some (.ref (st.length + 1)), x3, x4, x5, x6] (stS st (f, l)) = .ok (.nx [x0, some (.ref st.length), some (.ref (st.length + 1)), some (S3 here), y4, y5, y6]) (stS st s1) := by
          have hm : mAsg (mBm "list" dPop (mVar 2) mNil) (gN 3) [x0, some (.ref st.length), some (.ref (st.length + 1)), x3, x4, x5, x6] (stS st (f, l)) = .ok (.nx [x0, some (.ref st.length), some (.ref (st.length + 1)), some (S3 here), x4, x5, x6]) (stS st (f, l.dropLast)) := by simp [ht, hp]
          rw [whB, q_seq, hm, seqK_nx]
          exact hh
        have hi : l.isEmpty = false := by simpa using hne
        have hc : (lkD [x0, some (.ref st.length), some (.ref (st.length + 1)), x3, x4, x5, x6][2]? (stS st (f, l)) : R D) = .ok (.ref (st.length + 1)) (stS st (f, l)) := rfl
        rw [hc]
        simp only [R.bind_ok, szOk0, if_true, hn, hi, tsB_bl, R.bindS_ok, Bool.not_false]
        rw [hb]
        exact hw
end K79

namespace K79
open PySem PySem.Spec PyProof.Rows L2 DM
/-! the sort of reached -/
def ord3 (p : T3) : Int := p.1 + 2 * p.2.1 + 3 * p.2.2
def pK (p : T3) : PyData := .tuple [.int (ord3 p), pS p]
abbrev dK3 (p : T3) : D := .tup [.int (ord3 p), S3 p]
def sort3 (l : List T3) : List T3 := insS (PySem.W.dataLe false pK) l
theorem byKey_states (l : List T3) : byKey (l.map S3) (l.map pK) = (sort3 l).map S3 := by
  unfold byKey
  have e : (l.map S3).zip (l.map pK) = l.map fun p => (S3 p, pK p) := by
    induction l with
    | nil => rfl
    | cons p l ih => simp [ih]
  rw [e, ← map_insS (le := leKey) (fun p => (S3 p, pK p)) l, List.map_map]
  rfl
theorem pdL_keys : ∀ l : List T3, pdL (l.map dK3) = some (l.map pK)
  | [] => rfl
  | p :: l => by
    rw [List.map_cons, pdL, pdL_keys l]
    rfl
theorem keysOk_keys : ∀ l : List T3, keysOk (l.map pK) = true
  | [] => rfl
  | p :: l => by
    show (true && ((pK p :: l.map pK).all fun x => eqShp (pK p) x && decide (x.depth ≤ 32))) = true
    rw [Bool.true_and, List.all_eq_true]
    intro x hx
    have : ∃ q, x = pK q := by
      rcases List.mem_cons.mp hx with e | hx
      · exact ⟨p, e⟩
      · obtain ⟨q, _, e⟩ := List.mem_map.mp hx
        exact ⟨q, e.symm⟩
    obtain ⟨q, rfl⟩ := this
    simp [pK, pS, eqShp, eqShps, PyData.depth, PyData.depthAll]
theorem keysM_states {st : Sto} {ρ : En} : ∀ l : List T3, (l.all fun p => okM 2 p.2.1 && okM 3 p.2.2) = true →
    keysM (fun x st => mTup (mCons (mCall 1 m_order_of (mCons (mVar 0) mNil)) (mCons (mVar 0) mNil)) (lamEn 1 [] ρ [x]) st) (l.map S3) st = .ok (l.map dK3) st
  | [], _ => rfl
  | p :: l, h => by
    rw [List.all_cons, Bool.and_eq_true, Bool.and_eq_true] at h
    have h1 : mTup (mCons (mCall 1 m_order_of (mCons (mVar 0) mNil)) (mCons (mVar 0) mNil)) (lamEn 1 [] ρ [S3 p]) st = .ok (dK3 p) st := by
      simp [lamEn, order_eq h.1.1 h.1.2, ord3]
    rw [List.map_cons, keysM, h1]
    dsimp only
    rw [keysM_states l h.2]
    rfl
end K79

namespace K79
open PySem PySem.Spec PyProof.Rows L2 DM
/-! reached -/
def reachO (p : T3) : Option (List T3) := (reachW 400 ([(p, true)], [p])).bind fun s => if (s.1.all fun e => okM 2 e.1.2.1 && okM 3 e.1.2.2) = true then some (sort3 (s.1.map (·.1))) else none
theorem sort_step {st : Sto} {s : Seen} {x0 x2 x3 x4 x5 x6 : Option D} (h : (s.1.all fun e => okM 2 e.1.2.1 && okM 3 e.1.2.2) = true) :
    mSortKey 1 [] (mTup (mCons (mCall 1 m_order_of (mCons (mVar 0) mNil)) (mCons (mVar 0) mNil))) (mVar 1) [x0, some (.ref st.length), x2, x3, x4, x5, x6] (stS st s) = .ok (.lst ((sort3 (s.1.map (·.1))).map S3)) (stS st s) := by
  unfold mSortKey
  have hk : keyItems (stS st s) (.ref st.length) = some ((s.1.map (·.1)).map S3) := by
    have hd : dxtOf (stS st s) (.ref st.length) = some (dDic D.bl s.1) := by simp [dxtOf, stS]
    unfold keyItems
    rw [hd]
    simp [keyTD, keyD]
  have h2 : ((s.1.map (·.1)).all fun p => okM 2 p.2.1 && okM 3 p.2.2) = true := by rw [List.all_map]; exact h
  simp only [q_var, List.getElem?_cons_succ, List.getElem?_cons_zero, lkD_some, R.bind_ok, hk]
  rw [keysM_states _ h2]
  dsimp only
  rw [pdL_keys]
  dsimp only
  rw [if_pos (keysOk_keys _), byKey_states]
theorem low_states (n : Nat) : ∀ l : List T3, lowL n (l.map S3) = true
  | [] => rfl
  | p :: l => by simp [lowL, lowD, low_states n l]
theorem reached_eq {p : T3} {l : List T3} {st : Sto} (h : reachO p = some l) : m_reached [S3 p] st = .ok (.lst (l.map S3)) st := by
  unfold reachO at h
  cases e : reachW 400 ([(p, true)], [p]) with
  | none => rw [e] at h; cases h
  | some s =>
    rw [e] at h
    dsimp only [Option.bind] at h
    split at h
    · rename_i c
      cases h
      obtain ⟨y3, y4, y5, y6, hw⟩ := while_ok (st := st) (x0 := some (S3 p)) 400 ([(p, true)], [p]) s none none none none e
      have hp : mPar 1 2 (mCons (mDisp1 (mVar 0) (mC (.bl true))) (mCons (mLstM (mCons (mVar 0) mNil)) mNil)) (startM 7 [S3 p]) st = .ok (.nx [some (S3 p), some (.ref st.length), some (.ref (st.length + 1)), none, none, none, none]) (stS st ([(p, true)], [p])) := by
        simp [startM, mDisp1, lowD, stS]
      unfold m_reached
      rw [fn_rt (d := .lst ((sort3 (s.1.map (·.1))).map S3)) (st' := stS st s)]
      · rw [seal_lst (low_states _ _)]
        simp [stS]
      · rw [b_reached, q_seq, hp, seqK_nx, q_seq, hw, seqK_nx, q_ret, sort_step c]
        rfl
    · cases h
end K79

namespace K79
open PySem PySem.Spec PyProof.Rows L2 DM
/-! habit_means -/
theorem shaped_S3 (p : T3) : SeqAt.shaped (pS p) = true := rfl
theorem pS_eqv (p q : T3) : PyData.eqv (pS p) (pS q) = decide (p = q) := by
  obtain ⟨a, b, c⟩ := p
  obtain ⟨d, e, f⟩ := q
  rw [Bool.eq_iff_iff]
  simp [pS, PyData.eqv, PyData.eqvAll]
theorem eqB_S3 {p q : T3} {st : Sto} : eqB st (S3 p) (S3 q) = some (decide (p = q)) := by
  show (if (SeqAt.shaped (pS p) && SeqAt.shaped (pS q)) = true then some (PyData.eqv (pS p) (pS q)) else none) = _
  rw [shaped_S3, shaped_S3, pS_eqv]
  rfl
theorem dNe_S3 {p q : T3} {st : Sto} : dNe (S3 p) (S3 q) st = .ok (.bl (!decide (p = q))) st := by unfold dNe; rw [eqB_S3]
theorem dEq_S3 {p q : T3} {st : Sto} : dEq (S3 p) (S3 q) st = .ok (.bl (decide (p = q))) st := by unfold dEq; rw [eqB_S3]
def putL {β : Type} (l : List (T3 × β)) (p : T3) (v : β) : List (T3 × β) := if (look l p).isSome = true then l.map (fun e => if e.1 = p then (e.1, v) else e) else l ++ [(p, v)]
theorem put_look {β : Type} (f : β → D) (l : List (T3 × β)) (p : T3) (v : β) : putKD (dDic f l) (kS p) (f v) = dDic f (putL l p v) := by
  unfold putKD putL
  rw [getK_look, Option.isSome_map]
  split
  · simp only [dDic, List.map_map]
    apply List.map_congr_left
    intro e _
    simp only [Function.comp]
    by_cases h : e.1 = p
    · simp [h]
    · have h2 : ¬ kS e.1 = kS p := fun z => h (kS_inj.mp z)
      rw [if_neg h2, if_neg h]
  · simp [dDic]
abbrev d0 : T3 := (0, 0, 0)
def hmStep (hb : Str) (told : Told) (p : T3) : Option Told := if told.length < 1000 ∧ okM 2 p.2.2 = true ∧ SeqAt.shaped (.str (choice3 p hb)) = true then (if p = d0 then some (putL told p (0, 1)) else (meanO told p (choice3 p hb)).bind fun q => some (putL told p q)) else none
abbrev stM (st : Sto) (told : Told) : Sto := st ++ [.dxt (dDic Q2 told)]
abbrev hmB : MS := mDPut (mVar 2) (mVar 3) (mIf (mTst (mOp dNe (mVar 3) (mC (.tup [.int 0, .int 0, .int 0])))) (mCall 3 m_mean_with (mCons (mVar 2) (mCons (mVar 3) (mCons (mCall 2 m_choice_for (mCons (mVar 3) (mCons (mVar 1) mNil))) mNil)))) (mC (.tup [.int 0, .int 1])))
theorem hm_step {st : Sto} {told told' : Told} {p : T3} {hb : Str} {x0 : Option D} (hs : SeqAt.shaped (.str hb) = true) (h : hmStep hb told p = some told') :
    hmB [x0, some (.str hb), some (.ref st.length), some (S3 p)] (stM st told) = .ok (.nx [x0, some (.str hb), some (.ref st.length), some (S3 p)]) (stM st told') := by
  unfold hmStep at h
  split at h
  · rename_i c
    obtain ⟨c1, c2, c3⟩ := c
    have ne : dNe (S3 p) (.tup [.int 0, .int 0, .int 0]) (stM st told) = .ok (.bl (!decide (p = d0))) (stM st told) := dNe_S3 (q := d0)
    have put : ∀ q : Int × Int, dputK [x0, some (.str hb), some (.ref st.length), some (S3 p)] (stM st told) (.ref st.length) (S3 p) (Q2 q) = .ok (.nx [x0, some (.str hb), some (.ref st.length), some (S3 p)]) (stM st (putL told p q)) := fun q => by
      rw [dputK_ok (kvs := dDic Q2 told) (k := kS p) (by simp [stM]) rfl (by simp; omega) (by simp [lowD, lowL]), put_look, set_last]
    by_cases e : p = d0
    · simp only [e, if_true] at h
      cases h
      have p0 := put (0, 1)
      subst e
      simp [ne, p0]
    · simp only [e, if_false] at h
      cases em : meanO told p (choice3 p hb) with
      | none => rw [em] at h; cases h
      | some q =>
        rw [em] at h
        cases h
        have mw := mean_with_eq (d := .ref st.length) (st := stM st told) (fun x => by simp [dxtOf, stM]) c3 em
        have cf := choice_for_eq (p := p) (st := stM st told) hs c2
        simp [ne, e, mw, cf, put]
  · cases h
end K79

namespace K79
open PySem PySem.Spec PyProof.Rows L2 DM
/-! habit_means, habit_mean -/
theorem low_dic {β : Type} (f : β → D) (hf : ∀ b n, lowD n (f b) = true) (n : Nat) : ∀ l : List (T3 × β), lowK n (dDic f l) = true
  | [] => rfl
  | e :: l => by
    rw [dDic, List.map_cons, lowK, hf, Bool.true_and]
    exact low_dic f hf n l
theorem low_Q2 (q : Int × Int) (n : Nat) : lowD n (Q2 q) = true := rfl
def hmO (p : T3) (hb : Str) : Option Told := (reachO p).bind fun l => l.foldlM (hmStep hb) [(d0, (0, 1))]
theorem hm_eq {p : T3} {hb : Str} {told : Told} {st : Sto} (hs : SeqAt.shaped (.str hb) = true) (h : hmO p hb = some told) : m_habit_means [S3 p, .str hb] st = .ok (.dxt (dDic Q2 told)) st := by
  unfold hmO at h
  cases e : reachO p with
  | none => rw [e] at h; cases h
  | some l =>
    rw [e] at h
    have h : l.foldlM (hmStep hb) [(d0, (0, 1))] = some told := h
    obtain ⟨ρ2, st2, h1, h2, h3⟩ := for_rel (enc := S3) (g := gN 3) (b := hmB) (fun s ρ st1 => st1 = stM st s ∧ ∃ e, ρ = [some (S3 p), some (.str hb), some (.ref st.length), e]) (hmStep hb) (by
      rintro s x ρ st1 s' ⟨rfl, e, rfl⟩ hh
      exact ⟨_, _, _, _, rfl, hm_step hs hh, rfl, _, rfl⟩) l [(d0, (0, 1))] [some (S3 p), some (.str hb), some (.ref st.length), none] _ told ⟨rfl, _, rfl⟩ h
    obtain ⟨e3, rfl⟩ := h3
    subst h2
    have hp : mAsg (mDisp1 (mC (.tup [.int 0, .int 0, .int 0])) (mC (.tup [.int 0, .int 1]))) (gN 2) (startM 4 [S3 p, .str hb]) st = .ok (.nx [some (S3 p), some (.str hb), some (.ref st.length), none]) (stM st [(d0, (0, 1))]) := by
      have hk : keyT (.tup [.int 0, .int 0, .int 0]) = some (kS d0) := rfl
      simp [startM, mDisp1, lowD, lowL, stM, hk]
    have hf : mFor (mIter (mCall 1 m_reached (mCons (mVar 0) mNil))) (gN 3) hmB [some (S3 p), some (.str hb), some (.ref st.length), none] (stM st [(d0, (0, 1))]) = .ok (.nx [some (S3 p), some (.str hb), some (.ref st.length), e3]) (stM st told) := by
      simp only [q_for, q_iter, q_call, q_cons, q_nil, q_var]
      simp [reached_eq e]
      exact h1
    unfold m_habit_means
    rw [fn_rt (d := .ref st.length) (st' := stM st told)]
    · unfold sealR
      simp [stM, low_dic Q2 low_Q2]
    · rw [b_habit_means, q_seq, hp, seqK_nx, q_seq, hf, seqK_nx, q_ret]
      rfl
def hmean (p : T3) (hb : Str) : Option (Int × Int) := (hmO p hb).bind fun t => look t p
theorem habit_mean_eq {p : T3} {hb : Str} {q : Int × Int} {st : Sto} (hs : SeqAt.shaped (.str hb) = true) (h : hmean p hb = some q) : m_habit_mean [S3 p, .str hb] st = .ok (Q2 q) st := by
  unfold hmean at h
  cases e : hmO p hb with
  | none => rw [e] at h; cases h
  | some t =>
    rw [e] at h
    have h : look t p = some q := h
    have g := dgetK_ok (st := st) (o := .dxt (dDic Q2 t)) (i := S3 p) (d := Q2 q) rfl rfl (by rw [getK_look, h]; rfl)
    unfold m_habit_mean
    rw [fn_rt (d := Q2 q) (st' := st)]
    · simp [seal_tup, lowL, lowD]
    · simp [b_habit_mean, startM, hm_eq hs e, g]
/-! worst_with, worst_by -/
abbrev ToldI := List (T3 × Int)
abbrev dI : Int → D := fun i => .int i
def wwO (told : ToldI) (p : T3) (ch : Str) : Option Int :=
  if (cTurned p ch && (turned3 p ch).all fun r => (look told r.1).isSome) = true ∧ turned3 p ch ≠ [] then some (1 + maxI ((turned3 p ch).map fun r => (look told r.1).getD 0)) else none
theorem intsOf_map : ∀ l : List Int, intsOf (l.map D.int) = some l
  | [] => rfl
  | i :: l => by
    rw [List.map_cons, intsOf, intsOf_map l]
    rfl
theorem ext_lst {f : List Int → Int} {l : List Int} {st : Sto} (h : l ≠ []) : dExt f [.lst (l.map D.int)] st = .ok (.int (f l)) st := by
  unfold dExt
  simp [lstOf, intsOf_map, h]
theorem worst_with_eq {d : D} {told : ToldI} {p : T3} {ch : Str} {q : Int} {st : Sto} (hd : ∀ x, dxtOf (st ++ x) d = some (dDic dI told)) (hc : SeqAt.shaped (.str ch) = true) (h : wwO told p ch = some q) : m_worst_with [d, S3 p, .str ch] st = .ok (.int q) st := by
  unfold wwO at h
  split at h
  · rename_i c
    obtain ⟨c, cn⟩ := c
    rw [Bool.and_eq_true] at c
    obtain ⟨c1, c2⟩ := c
    cases h
    have hl : mLc (mIter (mCall 2 m_turned (mCons (mVar 1) (mCons (mVar 2) mNil)))) (.tp [(.nm 3), (.nm 4), (.nm 4)]) mYes (mDGet (mVar 0) (mVar 3)) [3, 4]
        [some d, some (S3 p), some (.str ch), none, none] st = .ok (.lst (((turned3 p ch).map fun r => (look told r.1).getD 0).map D.int)) st := by
      rw [List.map_map]
      refine q_lc1 dRow _ (turned3 p ch) ?_ ?_ (by have := turned_len p ch; omega)
      · simp [turned_eq hc c1]
      · intro r hr acc
        have z := List.all_eq_true.mp c2 r hr
        cases e : look told r.1 with
        | none => rw [e] at z; cases z
        | some w =>
          have g := dgetK_ok (st := st ++ [.lst acc]) (o := d) (i := S3 r.1) (d := .int w) (hd _) rfl (by rw [getK_look, e]; rfl)
          exact ⟨[some d, some (S3 p), some (.str ch), some (S3 r.1), some (Q2 r.2.2)], rfl, by simp [g, e], rfl⟩
    have hx : dMaxL [.lst (((turned3 p ch).map fun r => (look told r.1).getD 0).map D.int)] st = .ok (.int (maxI ((turned3 p ch).map fun r => (look told r.1).getD 0))) st := ext_lst (by simpa using cn)
    unfold m_worst_with
    rw [fn_rt (d := .int (1 + maxI ((turned3 p ch).map fun r => (look told r.1).getD 0))) (st' := st)]
    · simp
    · simp only [b_worst_with, startM, q_ret, q_op, q_c, q_bi, q_cons, q_nil, List.map_cons, List.map_nil, List.length_cons, List.length_nil]
      simp only [List.cons_append, List.nil_append, List.replicate]
      rw [R.bind_ok, hl]
      simp only [R.bind_ok]
      rw [hx]
      simp
  · cases h
def wbS (told : ToldI) (p : T3) : Option ToldI := if told.length < 1000 then (if p = d0 then some told else
  ((choices3 p).mapM (wwO told p)).bind fun l => if l ≠ [] then some (putL told p (minI l)) else none) else none
abbrev stI (st : Sto) (told : ToldI) : Sto := st ++ [.dxt (dDic dI told)]
theorem mapM_some {α β : Type} {f : α → Option β} : ∀ {l : List α} {l' : List β}, l.mapM f = some l' → l'.length = l.length ∧ (∀ x ∈ l, (f x).isSome = true) ∧ ∀ d, l' = l.map fun x => (f x).getD d
  | [], l', h => by
    rw [List.mapM_nil] at h
    cases h
    exact ⟨rfl, fun _ h => (by cases h), fun _ => rfl⟩
  | x :: l, l', h => by
    rw [List.mapM_cons] at h
    cases e : f x with
    | none => rw [e] at h; cases h
    | some y =>
      rw [e] at h
      cases e2 : l.mapM f with
      | none => rw [e2] at h; cases h
      | some ys =>
        rw [e2] at h
        cases h
        obtain ⟨h1, h2, h3⟩ := mapM_some e2
        refine ⟨by simp [h1], fun z hz => ?_, fun d => ?_⟩
        · rcases List.mem_cons.mp hz with rfl | hz
          · simp [e]
          · exact h2 z hz
        · rw [List.map_cons, e, ← h3 d]
          rfl
theorem shaped_choice {p : T3} {ch : Str} (h : ch ∈ choices3 p) : SeqAt.shaped (.str ch) = true := by
  unfold choices3 at h
  split at h <;> simp at h
  · rcases h with rfl | rfl
    · exact sh_shut
    · exact sh_open
  · subst h; exact sh_shut
theorem choices_len (p : T3) : (choices3 p).length ≤ 2 := by
  unfold choices3
  split <;> simp
abbrev wbB : MS := mIfS (mTst (mOp dNe (mVar 2) (mC (.tup [.int 0, .int 0, .int 0])))) (mDPut (mVar 1) (mVar 2) (mBi dMinL (mCons (mLc (mIter (mCall 1 m_choices_in (mCons (mVar 2) mNil))) (.nm 3) mYes (mCall 3 m_worst_with (mCons (mVar 1) (mCons (mVar 2) (mCons (mVar 3) mNil)))) [3]) mNil))) mNext
theorem wb_step {st : Sto} {told told' : ToldI} {p : T3} {x0 x3 : Option D} (h : wbS told p = some told') :
    wbB [x0, some (.ref st.length), some (S3 p), x3] (stI st told) = .ok (.nx [x0, some (.ref st.length), some (S3 p), x3]) (stI st told') := by
  unfold wbS at h
  split at h
  · rename_i c
    have ne : dNe (S3 p) (.tup [.int 0, .int 0, .int 0]) (stI st told) = .ok (.bl (!decide (p = d0))) (stI st told) := dNe_S3 (q := d0)
    have put : ∀ q : Int, dputK [x0, some (.ref st.length), some (S3 p), x3] (stI st told) (.ref st.length) (S3 p) (.int q) = .ok (.nx [x0, some (.ref st.length), some (S3 p), x3]) (stI st (putL told p q)) := fun q => by
      have e := put_look dI told p q
      rw [dputK_ok (kvs := dDic dI told) (k := kS p) (by simp [stI]) rfl (by simp; omega) (by simp [lowD]), e, set_last]
    by_cases e : p = d0
    · simp only [e, if_true] at h
      cases h
      subst e
      simp [ne]
    · simp only [e, if_false] at h
      cases em : (choices3 p).mapM (wwO told p) with
      | none => rw [em] at h; cases h
      | some l =>
        rw [em] at h
        dsimp only [Option.bind] at h
        split at h
        · rename_i hn
          cases h
          obtain ⟨_, h2, h3⟩ := mapM_some em
          have hl : mLc (mIter (mCall 1 m_choices_in (mCons (mVar 2) mNil))) (.nm 3) mYes (mCall 3 m_worst_with (mCons (mVar 1) (mCons (mVar 2) (mCons (mVar 3) mNil)))) [3] [x0, some (.ref st.length), some (S3 p), x3] (stI st told) = .ok (.lst (l.map D.int)) (stI st told) := by
            rw [h3 0, List.map_map]
            refine q_lc1 D.str _ (choices3 p) ?_ ?_ (by have := choices_len p; omega)
            · simp [choices_eq]
            · intro ch hr acc
              have z := h2 ch hr
              cases ew : wwO told p ch with
              | none => rw [ew] at z; cases z
              | some w =>
                have ww := worst_with_eq (d := .ref st.length) (st := stI st told ++ [.lst acc]) (fun x => by simp [dxtOf, stI]) (shaped_choice hr) ew
                exact ⟨[x0, some (.ref st.length), some (S3 p), some (.str ch)], rfl, by simp [ew]; simpa using ww, rfl⟩
          have hx : dMinL [.lst (l.map D.int)] (stI st told) = .ok (.int (minI l)) (stI st told) := ext_lst hn
          have e2 : mTst (mOp dNe (mVar 2) (mC (.tup [.int 0, .int 0, .int 0]))) [x0, some (.ref st.length), some (S3 p), x3] (stI st told) = .ok true (stI st told) := by simp [ne, e]
          rw [wbB, q_ifS, e2, ifKS_ok, if_pos rfl, q_dput, q_bi, q_cons, hl]
          simp only [R.bind_ok, q_nil]
          rw [hx]
          simp [put]
        · cases h
  · cases h
def worstO (p : T3) : Option Int := (reachO p).bind fun l => (l.foldlM wbS [(d0, 0)]).bind fun t => look t p
theorem worst_by_eq {p : T3} {q : Int} {st : Sto} (h : worstO p = some q) : m_worst_by [S3 p] st = .ok (.int q) st := by
  unfold worstO at h
  cases e : reachO p with
  | none => rw [e] at h; cases h
  | some l =>
    rw [e] at h
    have h : (l.foldlM wbS [(d0, 0)]).bind (fun t => look t p) = some q := h
    cases e4 : l.foldlM wbS [(d0, 0)] with
    | none => rw [e4] at h; cases h
    | some told =>
    rw [e4] at h
    have h : look told p = some q := h
    obtain ⟨ρ2, st2, h1, h2, h3⟩ := for_rel (enc := S3) (g := gN 2) (b := wbB) (fun s ρ st1 => st1 = stI st s ∧ ∃ e e2, ρ = [some (S3 p), some (.ref st.length), e, e2]) wbS (by
      rintro s x ρ st1 s' ⟨rfl, e, e2, rfl⟩ hh
      exact ⟨_, _, _, _, rfl, wb_step hh, rfl, _, _, rfl⟩) l [(d0, 0)] [some (S3 p), some (.ref st.length), none, none] _ told ⟨rfl, _, _, rfl⟩ e4
    obtain ⟨e3, e5, rfl⟩ := h3
    subst h2
    have hp : mAsg (mDisp1 (mC (.tup [.int 0, .int 0, .int 0])) (mC (.int 0))) (gN 1) (startM 4 [S3 p]) st = .ok (.nx [some (S3 p), some (.ref st.length), none, none]) (stI st [(d0, 0)]) := by
      have hk : keyT (.tup [.int 0, .int 0, .int 0]) = some (kS d0) := rfl
      simp [startM, mDisp1, lowD, lowL, stI, hk]
    have hf : mFor (mIter (mCall 1 m_reached (mCons (mVar 0) mNil))) (gN 2) wbB [some (S3 p), some (.ref st.length), none, none] (stI st [(d0, 0)]) = .ok (.nx [some (S3 p), some (.ref st.length), e3, e5]) (stI st told) := by
      simp only [q_for, q_iter, q_call, q_cons, q_nil, q_var]
      simp [reached_eq e]
      exact h1
    have g := dgetK_ok (st := stI st told) (o := .ref st.length) (i := S3 p) (d := .int q) (kvs := dDic dI told) (by simp [dxtOf, stI]) rfl (by rw [getK_look, h]; rfl)
    unfold m_worst_by
    rw [fn_rt (d := .int q) (st' := stI st told)]
    · simp [stI]
    · rw [b_worst_by, q_seq, hp, seqK_nx, q_seq, hf, seqK_nx, q_ret]
      simp [g]
end K79

namespace K79
open PySem PySem.Spec PyProof.Rows L2 DM
/-! all_behind -/
def addB (s : Seen) (r : Row4) : Option Seen := if (look s.1 r.1).isSome = true then some s else if s.1.length < 1000 ∧ s.2.length < 1000 then some (s.1 ++ [(r.1, true)], s.2 ++ [r.1]) else none
abbrev rowB4 : MS := mIfS (mTst (mDIn true (mVar 4) (mVar 1))) (mSeq (mDPut (mVar 1) (mVar 4) (mC (.bl true))) (mDrop (mBm "list" dAppend (mVar 2) (mCons (mVar 4) mNil)))) mNext
abbrev rowG4 : MG := gTupM 4 (gConsM (gN 4) (gConsM (gN 5) (gConsM (gN 5) (gConsM (gN 5) gNilM))))
theorem row_step4 {st : Sto} {s s' : Seen} {r : Row4} {x0 x3 x6 : Option D} (h : addB s r = some s') :
    rowB4 [x0, some (.ref st.length), some (.ref (st.length + 1)), x3, some (S3 r.1), x6] (stS st s) = .ok (.nx [x0, some (.ref st.length), some (.ref (st.length + 1)), x3, some (S3 r.1), x6]) (stS st s') := by
  have hd : dxtOf (stS st s) (.ref st.length) = some (dDic D.bl s.1) := by simp [dxtOf, stS]
  have hi := dinK_ok (neg := true) (st := stS st s) (o := .ref st.length) (i := S3 r.1) hd rfl
  rw [getK_look] at hi
  unfold addB at h
  split at h
  · rename_i hs
    cases h
    simp [rowB4, hi, hs]
  · rename_i hs
    split at h
    · rename_i hz
      cases h
      have hn : look s.1 r.1 = none := by simpa using hs
      have hp : dputK [x0, some (.ref st.length), some (.ref (st.length + 1)), x3, some (S3 r.1), x6] (stS st s) (.ref st.length) (S3 r.1) (.bl true) = .ok (.nx [x0, some (.ref st.length), some (.ref (st.length + 1)), x3, some (S3 r.1), x6]) (stS st (s.1 ++ [(r.1, true)], s.2)) := by
        rw [dputK_ok get0 rfl (by simp; omega) rfl, put_new hn, set0]
      have ht : tyB (stS st (s.1 ++ [(r.1, true)], s.2)) (.ref (st.length + 1)) = some "list" := by simp [tyB, stS]
      have ha : dAppend (.ref (st.length + 1)) [S3 r.1] (stS st (s.1 ++ [(r.1, true)], s.2)) = .ok .non (stS st (s.1 ++ [(r.1, true)], s.2 ++ [r.1])) := by
        have hz2 : s.2.length < sizeLine := by rw [sizeLine_eq]; show s.2.length < 16777216; omega
        unfold dAppend
        simp [stS, hz2, lowD, lowL, List.set_append]
      simp [rowB4, hi, hn, hp, ht, ha]
    · cases h
def addH4 (here : T3) (s : Seen) : Option Seen := if cOutc here = true then (outc3 here "shut" ++ outc3 here "open").foldlM addB s else none
abbrev hereB4 : MS := mFor (mIter (mLst (mStar (mCall 2 m_outcomes (mCons (mVar 3) (mCons (mC (.str "shut")) mNil))) (mStar (mCall 2 m_outcomes (mCons (mVar 3) (mCons (mC (.str "open")) mNil))) mNil)))) rowG4 rowB4
theorem szOk_lt {α : Type} {l : List α} (h : l.length < 100000) : szOk l = true := szOk_le (by omega)
theorem here_step4 {st : Sto} {s s' : Seen} {here : T3} {x0 x4 x5 : Option D} (h : addH4 here s = some s') :
    ∃ y4 y5, hereB4 [x0, some (.ref st.length), some (.ref (st.length + 1)), some (S3 here), x4, x5] (stS st s) = .ok (.nx [x0, some (.ref st.length), some (.ref (st.length + 1)), some (S3 here), y4, y5]) (stS st s') := by
  unfold addH4 at h
  split at h
  · rename_i c
    obtain ⟨ρ2, st2, h1, h2, y4, y5, h3⟩ := for_rel (enc := dRow4) (g := rowG4) (b := rowB4) (fun s ρ st1 => st1 = stS st s ∧ ∃ y4 y5, ρ = [x0, some (.ref st.length), some (.ref (st.length + 1)), some (S3 here), y4, y5]) addB (by
      rintro s x ρ st1 s' ⟨rfl, y4, y5, rfl⟩ hs
      exact ⟨_, _, _, _, rfl, row_step4 hs, rfl, _, _, rfl⟩) (outc3 here "shut" ++ outc3 here "open") s _ _ s' ⟨rfl, x4, x5, rfl⟩ h
    subst h2 h3
    refine ⟨y4, y5, ?_⟩
    have e1 : (mLst (mStar (mCall 2 m_outcomes (mCons (mVar 3) (mCons (mC (.str "shut")) mNil))) (mStar (mCall 2 m_outcomes (mCons (mVar 3) (mCons (mC (.str "open")) mNil))) mNil))) [x0, some (.ref st.length), some (.ref (st.length + 1)), some (S3 here), x4, x5] (stS st s) = .ok (.lst ((outc3 here "shut" ++ outc3 here "open").map dRow4)) (stS st s) := by
      have z1 := outc_len here "shut"
      have z2 := outc_len here "open"
      have z3 : szOk ((outc3 here "shut").map dRow4 ++ (outc3 here "open").map dRow4) = true := szOk_lt (by simp; omega)
      simp [mStar, outc_eq sh_shut c, outc_eq sh_open c, seqOf, lstOf, z3]
    rw [hereB4, q_for, q_iter, e1]
    simp only [R.bind_ok, itK_lst, R.bindS_ok]
    exact h1
  · cases h
def behW : Nat → Seen → Option Seen
  | 0, _ => none
  | n + 1, s => match s.2.getLast? with
    | none => some s
    | some here => (addH4 here (s.1, s.2.dropLast)).bind (behW n)
abbrev whB4 : MS := mSeq (mAsg (mBm "list" dPop (mVar 2) mNil) (gN 3)) hereB4
theorem while_ok4 {st : Sto} {x0 : Option D} : ∀ (n : Nat) (s s' : Seen) (x3 x4 x5 : Option D), behW n s = some s' →
    ∃ y3 y4 y5, whileM (mTst (mOp dNe (mVar 2) (mLst mNil))) whB4 n [x0, some (.ref st.length), some (.ref (st.length + 1)), x3, x4, x5] (stS st s) = .ok (.nx [x0, some (.ref st.length), some (.ref (st.length + 1)), y3, y4, y5]) (stS st s')
  | 0, s, s', x3, x4, x5, h => by cases h
  | n + 1, s, s', x3, x4, x5, h => by
    obtain ⟨f, l⟩ := s
    have hn := ne_nil (st := stS st (f, l)) (k := st.length + 1) (l := l) get1
    rw [behW] at h
    rw [whileM]
    simp only [q_tst, q_op, q_var, q_lst, q_nil]
    cases e : l.getLast? with
    | none =>
      have el : l = [] := List.getLast?_eq_none_iff.mp e
      subst el
      cases h
      exact ⟨x3, x4, x5, by simp [hn]⟩
    | some here =>
      simp only [e] at h
      cases ea : addH4 here (f, l.dropLast) with
      | none => rw [ea] at h; cases h
      | some s1 =>
        rw [ea] at h
        have hne : l ≠ [] := fun z => by subst z; cases e
        have hp : dPop (.ref (st.length + 1)) [] (stS st (f, l)) = .ok (S3 here) (stS st (f, l.dropLast)) := by
          have hl : (l.map S3)[(l.map S3).length - 1]? = some (S3 here) := by
            rw [← List.getLast?_eq_getElem?, List.getLast?_map, e]
            rfl
          unfold dPop
          dsimp only
          rw [get1]
          dsimp only
          rw [hl]
          dsimp only
          rw [set1]
          simp [stS, List.dropLast_eq_take, List.map_take]
        have ht : tyB (stS st (f, l)) (.ref (st.length + 1)) = some "list" := by simp [tyB, stS]
        obtain ⟨y4, y5, hh⟩ := here_step4 (st := st) (x0 := x0) (x4 := x4) (x5 := x5) ea
        obtain ⟨z3, z4, z5, hw⟩ := while_ok4 (st := st) (x0 := x0) n s1 s' (some (S3 here)) y4 y5 h
        refine ⟨z3, z4, z5, ?_⟩
        have hb : whB4 [x0, some (.ref st.length), some (.ref (st.length + 1)), x3, x4, x5] (stS st (f, l)) = .ok (.nx [x0, some (.ref st.length), some (.ref (st.length + 1)), some (S3 here), y4, y5]) (stS st s1) := by
          have hm : mAsg (mBm "list" dPop (mVar 2) mNil) (gN 3) [x0, some (.ref st.length), some (.ref (st.length + 1)), x3, x4, x5] (stS st (f, l)) = .ok (.nx [x0, some (.ref st.length), some (.ref (st.length + 1)), some (S3 here), x4, x5]) (stS st (f, l.dropLast)) := by simp [ht, hp]
          rw [whB4, q_seq, hm, seqK_nx]
          exact hh
        have hi : l.isEmpty = false := by simpa using hne
        have hc : (lkD [x0, some (.ref st.length), some (.ref (st.length + 1)), x3, x4, x5][2]? (stS st (f, l)) : R D) = .ok (.ref (st.length + 1)) (stS st (f, l)) := rfl
        rw [hc]
        simp only [R.bind_ok, szOk0, if_true, hn, hi, tsB_bl, R.bindS_ok, Bool.not_false]
        rw [hb]
        exact hw
/-! its sort -/
def pH (p : T3) : PyData := .int (ord3 p)
def sortH (l : List T3) : List T3 := insS (PySem.W.dataLe false pH) l
theorem byKey_heights (l : List T3) : byKey (l.map S3) (l.map pH) = (sortH l).map S3 := by
  unfold byKey
  have e : (l.map S3).zip (l.map pH) = l.map fun p => (S3 p, pH p) := by
    induction l with
    | nil => rfl
    | cons p l ih => simp [ih]
  rw [e, ← map_insS (le := leKey) (fun p => (S3 p, pH p)) l, List.map_map]
  rfl
theorem pdL_heights : ∀ l : List T3, pdL (l.map fun p => D.int (ord3 p)) = some (l.map pH)
  | [] => rfl
  | p :: l => by
    rw [List.map_cons, pdL, pdL_heights l]
    rfl
theorem keysOk_heights : ∀ l : List T3, keysOk (l.map pH) = true
  | [] => rfl
  | p :: l => by
    show (true && ((pH p :: l.map pH).all fun x => eqShp (pH p) x && decide (x.depth ≤ 32))) = true
    rw [Bool.true_and, List.all_eq_true]
    intro x hx
    have : ∃ q, x = pH q := by
      rcases List.mem_cons.mp hx with e | hx
      · exact ⟨p, e⟩
      · obtain ⟨q, _, e⟩ := List.mem_map.mp hx
        exact ⟨q, e.symm⟩
    obtain ⟨q, rfl⟩ := this
    simp [pH, eqShp, eqShps, PyData.depth, PyData.depthAll]
theorem keysM_heights {st : Sto} {ρ : En} : ∀ l : List T3, (l.all fun p => okM 2 p.2.1 && okM 3 p.2.2) = true →
    keysM (fun x st => (mCall 1 m_height_of (mCons (mVar 0) mNil)) (lamEn 1 [] ρ [x]) st) (l.map S3) st = .ok (l.map fun p => D.int (ord3 p)) st
  | [], _ => rfl
  | p :: l, h => by
    rw [List.all_cons, Bool.and_eq_true, Bool.and_eq_true] at h
    have h1 : (mCall 1 m_height_of (mCons (mVar 0) mNil)) (lamEn 1 [] ρ [S3 p]) st = .ok (.int (ord3 p)) st := by
      simp [lamEn, height_eq h.1.1 h.1.2, ord3]
    rw [List.map_cons, keysM, h1]
    dsimp only
    rw [keysM_heights l h.2]
    rfl
def behO (p : T3) : Option (List T3) := (behW 400 ([(p, true)], [p])).bind fun s => if (s.1.all fun e => okM 2 e.1.2.1 && okM 3 e.1.2.2) = true then some (sortH (s.1.map (·.1))) else none
theorem sort_step4 {st : Sto} {s : Seen} {x0 x2 x3 x4 x5 : Option D} (h : (s.1.all fun e => okM 2 e.1.2.1 && okM 3 e.1.2.2) = true) :
    mSortKey 1 [] (mCall 1 m_height_of (mCons (mVar 0) mNil)) (mVar 1) [x0, some (.ref st.length), x2, x3, x4, x5] (stS st s) = .ok (.lst ((sortH (s.1.map (·.1))).map S3)) (stS st s) := by
  unfold mSortKey
  have hk : keyItems (stS st s) (.ref st.length) = some ((s.1.map (·.1)).map S3) := by
    have hd : dxtOf (stS st s) (.ref st.length) = some (dDic D.bl s.1) := by simp [dxtOf, stS]
    unfold keyItems
    rw [hd]
    simp [keyTD, keyD]
  have h2 : ((s.1.map (·.1)).all fun p => okM 2 p.2.1 && okM 3 p.2.2) = true := by rw [List.all_map]; exact h
  simp only [q_var, List.getElem?_cons_succ, List.getElem?_cons_zero, lkD_some, R.bind_ok, hk]
  rw [keysM_heights _ h2]
  dsimp only
  rw [pdL_heights]
  dsimp only
  rw [if_pos (keysOk_heights _), byKey_heights]
theorem behind_eq {p : T3} {l : List T3} {st : Sto} (h : behO p = some l) : m_all_behind [S3 p] st = .ok (.lst (l.map S3)) st := by
  unfold behO at h
  cases e : behW 400 ([(p, true)], [p]) with
  | none => rw [e] at h; cases h
  | some s =>
    rw [e] at h
    dsimp only [Option.bind] at h
    split at h
    · rename_i c
      cases h
      obtain ⟨y3, y4, y5, hw⟩ := while_ok4 (st := st) (x0 := some (S3 p)) 400 ([(p, true)], [p]) s none none none e
      have hp : mPar 1 2 (mCons (mDisp1 (mVar 0) (mC (.bl true))) (mCons (mLstM (mCons (mVar 0) mNil)) mNil)) (startM 6 [S3 p]) st = .ok (.nx [some (S3 p), some (.ref st.length), some (.ref (st.length + 1)), none, none, none]) (stS st ([(p, true)], [p])) := by
        simp [startM, mDisp1, lowD, stS]
      unfold m_all_behind
      rw [fn_rt (d := .lst ((sortH (s.1.map (·.1))).map S3)) (st' := stS st s)]
      · rw [seal_lst (low_states _ _)]
        simp [stS]
      · rw [b_all_behind, q_seq, hp, seqK_nx, q_seq, hw, seqK_nx, q_ret, sort_step4 c]
        rfl
    · cases h
/-! gains_of -/
def goS (told : Told) (p : T3) : Option Told := if told.length < 1000 then (bestO told told p).bind fun q => some (putL told p q) else none
abbrev goB : MS := mDPut (mVar 1) (mVar 2) (mCall 3 m_best_gain (mCons (mVar 2) (mCons (mVar 1) (mCons (mVar 1) mNil))))
theorem go_step {st : Sto} {told told' : Told} {p : T3} {x0 : Option D} (h : goS told p = some told') :
    goB [x0, some (.ref st.length), some (S3 p)] (stM st told) = .ok (.nx [x0, some (.ref st.length), some (S3 p)]) (stM st told') := by
  unfold goS at h
  split at h
  · rename_i c
    cases em : bestO told told p with
    | none => rw [em] at h; cases h
    | some q =>
      rw [em] at h
      cases h
      have bg := best_eq (d := .ref st.length) (d2 := .ref st.length) (st := stM st told) (fun x => by simp [dxtOf, stM]) (fun x => by simp [dxtOf, stM]) em
      have put : dputK [x0, some (.ref st.length), some (S3 p)] (stM st told) (.ref st.length) (S3 p) (Q2 q) = .ok (.nx [x0, some (.ref st.length), some (S3 p)]) (stM st (putL told p q)) := by
        rw [dputK_ok (kvs := dDic Q2 told) (k := kS p) (by simp [stM]) rfl (by simp; omega) (by simp [lowD, lowL]), put_look, set_last]
      simp [goB, bg, put]
  · cases h
def gainsO (p : T3) : Option Told := (behO p).bind fun l => l.foldlM goS []
theorem gains_eq {p : T3} {told : Told} {st : Sto} (h : gainsO p = some told) : m_gains_of [S3 p] st = .ok (.dxt (dDic Q2 told)) st := by
  unfold gainsO at h
  cases e : behO p with
  | none => rw [e] at h; cases h
  | some l =>
    rw [e] at h
    have h : l.foldlM goS [] = some told := h
    obtain ⟨ρ2, st2, h1, h2, h3⟩ := for_rel (enc := S3) (g := gN 2) (b := goB) (fun s ρ st1 => st1 = stM st s ∧ ∃ e, ρ = [some (S3 p), some (.ref st.length), e]) goS (by
      rintro s x ρ st1 s' ⟨rfl, e, rfl⟩ hh
      exact ⟨_, _, _, _, rfl, go_step hh, rfl, _, rfl⟩) l [] [some (S3 p), some (.ref st.length), none] _ told ⟨rfl, _, rfl⟩ h
    obtain ⟨e3, rfl⟩ := h3
    subst h2
    have hp : mAsg mDNewX (gN 1) (startM 3 [S3 p]) st = .ok (.nx [some (S3 p), some (.ref st.length), none]) (stM st []) := by
      simp [startM, mDNewX, stM]
    have hf : mFor (mIter (mCall 1 m_all_behind (mCons (mVar 0) mNil))) (gN 2) goB [some (S3 p), some (.ref st.length), none] (stM st []) = .ok (.nx [some (S3 p), some (.ref st.length), e3]) (stM st told) := by
      simp only [q_for, q_iter, q_call, q_cons, q_nil, q_var]
      simp [behind_eq e]
      exact h1
    unfold m_gains_of
    rw [fn_rt (d := .ref st.length) (st' := stM st told)]
    · unfold sealR
      simp [stM, low_dic Q2 low_Q2]
    · rw [b_gains_of, q_seq, hp, seqK_nx, q_seq, hf, seqK_nx, q_ret]
      rfl
end K79

end

section
set_option maxRecDepth 100000
set_option Elab.async false
set_option linter.all false
set_option maxHeartbeats 2000000
namespace K79
open PySem PySem.Spec PyProof.Rows L2 DM
/-! the objects -/
abbrev dSt (p : T3) : D := .obj "State" [("all_told", S3 p)]
abbrev CP := T3 × Str × Int × (Int × Int)
abbrev P4 (c : CP) : D := .tup [S3 c.1, .str c.2.1, .int c.2.2.1, Q2 c.2.2.2]
abbrev dCa (c : CP) : D := .obj "Case" [("all_of_it", .tup [dSt c.1, .str c.2.1, .int c.2.2.1, Q2 c.2.2.2])]
section
variable {st : Sto}
@[simp] theorem ix4_0 {a b c d : D} : dIx (.tup [a, b, c, d]) (.int 0) st = .ok a st := rfl
@[simp] theorem ix4_1 {a b c d : D} : dIx (.tup [a, b, c, d]) (.int 1) st = .ok b st := rfl
@[simp] theorem ix4_2 {a b c d : D} : dIx (.tup [a, b, c, d]) (.int 2) st = .ok c st := rfl
@[simp] theorem ix4_3 {a b c d : D} : dIx (.tup [a, b, c, d]) (.int 3) st = .ok d st := rfl
@[simp] theorem ix3_0 {a b c : D} : dIx (.tup [a, b, c]) (.int 0) st = .ok a st := rfl
@[simp] theorem ix3_1 {a b c : D} : dIx (.tup [a, b, c]) (.int 1) st = .ok b st := rfl
@[simp] theorem ix3_2 {a b c : D} : dIx (.tup [a, b, c]) (.int 2) st = .ok c st := rfl
theorem sl4 {a b c d : D} : slD st (some 1) none (.tup [a, b, c, d]) = .ok (.tup [b, c, d]) st := rfl
theorem in_st : ("State" : Str) ∈ clss := by decide
theorem in_ca : ("Case" : Str) ∈ clss := by decide
theorem state_parts_eq {p : T3} : m_State_parts [dSt p] st = .ok (S3 p) st := by
  unfold m_State_parts
  rw [fn_rt (d := S3 p) (st' := st)]
  · simp [seal_tup, lowL, lowD]
  · simp [b_State_parts, startM]
theorem case_state_eq {c : CP} : m_Case_state [dCa c] st = .ok (dSt c.1) st := by
  unfold m_Case_state
  rw [fn_rt (d := dSt c.1) (st' := st)]
  · simp [seal_obj, lowF, lowL, lowD]
  · simp [b_Case_state, startM]
theorem case_habit_eq {c : CP} : m_Case_habit [dCa c] st = .ok (.str c.2.1) st := by
  unfold m_Case_habit
  rw [fn_rt (d := .str c.2.1) (st' := st)]
  · simp
  · simp [b_Case_habit, startM]
theorem case_number_eq {c : CP} : m_Case_number [dCa c] st = .ok (.int c.2.2.1) st := by
  unfold m_Case_number
  rw [fn_rt (d := .int c.2.2.1) (st' := st)]
  · simp
  · simp [b_Case_number, startM]
theorem case_most_eq {c : CP} : m_Case_most [dCa c] st = .ok (Q2 c.2.2.2) st := by
  unfold m_Case_most
  rw [fn_rt (d := Q2 c.2.2.2) (st' := st)]
  · simp [seal_tup, lowL, lowD]
  · simp [b_Case_most, startM]
theorem whole_eq {i : Int} : m_is_whole [.int i] st = .ok (.bl true) st := by
  unfold m_is_whole
  rw [fn_rt (d := .bl true) (st' := st)]
  · simp
  · simp [b_is_whole, startM, isB]
theorem number_eq {i : Int} : m_is_number [.int i] st = .ok (.bl (decide (0 ≤ i))) st := by
  unfold m_is_number
  rw [fn_rt (d := .bl (decide (0 ≤ i))) (st' := st)]
  · simp
  · simp [b_is_number, startM, whole_eq]
theorem between_eq {i a b : Int} (h1 : a ≤ i) (h2 : i ≤ b) : m_is_between [.int i, .int a, .int b] st = .ok (.bl true) st := by
  unfold m_is_between
  rw [fn_rt (d := .bl true) (st' := st)]
  · simp
  · simp [b_is_between, startM, whole_eq, h1, h2]
theorem check_number_eq {i a b : Int} (h1 : a ≤ i) (h2 : i ≤ b) : m_check_number [.int i, .int a, .int b] st = .ok .non st := by
  unfold m_check_number
  rw [fn_nx (ρ := [some (.int i), some (.int a), some (.int b)]) (st' := st)]
  · simp
  · simp [b_check_number, startM, between_eq h1 h2]
theorem check_state_eq {p : T3} : m_check_state [dSt p] st = .ok .non st := by
  unfold m_check_state
  rw [fn_nx (ρ := [some (dSt p)]) (st' := st)]
  · simp
  · simp [b_check_state, startM, isCK_obj in_st]
theorem take_new {o : Ob} : (st ++ [o]).take (st.length + 1) = st ++ [o] := List.take_of_length_le (by simp)
abbrev habits : List Str := ["shut", "open", "turns"]
theorem one_of_eq {hb : Str} (h : hb ∈ habits) : m_is_one_of [.str hb, .tup [.str "shut", .str "open", .str "turns"]] st = .ok (.bl true) st := by
  unfold m_is_one_of
  rw [fn_rt (d := .bl true) (st' := st)]
  · simp
  · have e : dIn false (.str hb) (.tup [.str "shut", .str "open", .str "turns"]) st = .ok (.bl true) st := by
      simp only [List.mem_cons, List.not_mem_nil, or_false] at h
      rcases h with rfl | rfl | rfl <;> rfl
    simp [b_is_one_of, startM, isB, e]
theorem check_habit_eq {hb : Str} (h : hb ∈ habits) : m_check_habit [.str hb] st = .ok .non st := by
  unfold m_check_habit
  rw [fn_nx (ρ := [some (.str hb)]) (st' := st)]
  · simp
  · simp [b_check_habit, startM, one_of_eq h]
theorem check_sh_eq {p : T3} {hb : Str} (h : hb ∈ habits) : m_check_state_habit [dSt p, .str hb] st = .ok .non st := by
  unfold m_check_state_habit
  rw [fn_nx (ρ := [some (dSt p), some (.str hb)]) (st' := st)]
  · simp
  · simp [b_check_state_habit, startM, check_habit_eq h, check_state_eq]
theorem tuple_of_eq {q : Int × Int} : m_is_tuple_of [Q2 q, .int 2] st = .ok (.bl true) st := by
  unfold m_is_tuple_of
  rw [fn_rt (d := .bl true) (st' := st)]
  · simp
  · have e : dLen [Q2 q] st = .ok (.int 2) st := rfl
    simp [b_is_tuple_of, startM, isB, e]
theorem pair_eq {q : Int × Int} : m_is_pair [Q2 q] st = .ok (.bl true) st := by
  unfold m_is_pair
  rw [fn_rt (d := .bl true) (st' := st)]
  · simp
  · simp [b_is_pair, startM, tuple_of_eq]
theorem fraction_eq {q : Int × Int} (h1 : 0 < q.2) (h2 : gz q.1 q.2 = 1) : m_is_fraction [Q2 q] st = .ok (.bl true) st := by
  have hl : mLc (mIter (mVar 0)) (.nm 1) mYes (mCall 1 m_is_whole (mCons (mVar 1) mNil)) [1] [some (Q2 q), none] st = .ok (.lst [.bl true, .bl true]) st := by
    rw [q_lc1 D.int (fun _ => .bl true) [q.1, q.2] (by simp) (fun x hx acc => ⟨[some (Q2 q), some (.int x)], rfl, by simp [whole_eq], rfl⟩) (by simp)]
    rfl
  have ha : dAll [.lst [.bl true, .bl true]] st = .ok (.bl true) st := rfl
  have e1 : ∀ st, dIx (Q2 q) (.int 0) st = .ok (.int q.1) st := fun _ => rfl
  have e2 : ∀ st, dIx (Q2 q) (.int 1) st = .ok (.int q.2) st := fun _ => rfl
  have e3 : dGcd [.int q.1, .int q.2] st = .ok (.int 1) st := by rw [dGcd_ok, h2]; rfl
  unfold m_is_fraction
  rw [fn_rt (d := .bl true) (st' := st)]
  · simp
  · simp [b_is_fraction, startM, pair_eq, hl, ha, e1, e2, e3, h1]
theorem state_init {p : T3} (h0 : 0 ≤ p.1) (h1 : 0 ≤ p.2.1) (h2 : 0 ≤ p.2.2) (hz : p.1 + p.2.1 + p.2.2 ≤ 8) :
    m_State___init__ [.ref st.length, .int p.1, .int p.2.1, .int p.2.2] (st ++ [.ins "State" []]) = .ok .non (st ++ [.ins "State" [("all_told", S3 p)]]) := by
  have hz2 : ¬ 8 < p.1 + p.2.1 + p.2.2 := by omega
  unfold m_State___init__
  rw [fn_nx (ρ := [some (.ref st.length), some (.int p.1), some (.int p.2.1), some (.int p.2.2), some (.int p.2.2)]) (st' := st ++ [.ins "State" [("all_told", S3 p)]])]
  · simp [take_new]
  · simp [b_State___init__, startM, number_eq, h0, h1, h2, hz2, setF_new, lowD, lowL]
structure OkC (c : CP) : Prop where
  a0 : 0 ≤ c.1.1
  a1 : 0 ≤ c.1.2.1
  a2 : 0 ≤ c.1.2.2
  az : c.1.1 + c.1.2.1 + c.1.2.2 ≤ 6
  ap : 1 ≤ c.1.1 + c.1.2.1 + c.1.2.2
  hb : c.2.1 ∈ habits
  n0 : 0 ≤ c.2.2.1
  n1 : c.2.2.1 ≤ 99
  q0 : 0 ≤ c.2.2.2.1
  q1 : 0 < c.2.2.2.2
  qa : c.2.2.2.1 < 1000
  qb : c.2.2.2.2 < 1000
  qg : gz c.2.2.2.1 c.2.2.2.2 = 1
theorem log_small {i : Int} (h0 : 0 ≤ i) (h : i < 1000) : i.natAbs.log2 < 10 := by
  have h1 : i.natAbs < 2 ^ 10 := by omega
  rcases Nat.eq_zero_or_pos i.natAbs with e | e
  · rw [e]; decide
  · exact (Nat.log2_lt (by omega)).mpr h1
theorem make_state {p : T3} (h0 : 0 ≤ p.1) (h1 : 0 ≤ p.2.1) (h2 : 0 ≤ p.2.2) (hz : p.1 + p.2.1 + p.2.2 ≤ 8) : mkK "State" 4 m_State___init__ [.int p.1, .int p.2.1, .int p.2.2] st = .ok (dSt p) st :=
  mkK_ok rfl (state_init h0 h1 h2 hz) rfl
theorem case_init {c : CP} (k : OkC c) : m_Case___init__ [.ref st.length, dSt c.1, .str c.2.1, .int c.2.2.1, Q2 c.2.2.2] (st ++ [.ins "Case" []]) = .ok .non (st ++ [.ins "Case" [("all_of_it", .tup [dSt c.1, .str c.2.1, .int c.2.2.1, Q2 c.2.2.2])]]) := by
  have l1 := log_small k.q0 k.qa
  have hl : cLess c.2.2.2 (0, 1) = true := by
    unfold cLess okM
    rw [Bool.and_eq_true]
    refine ⟨decide_eq_true ?_, decide_eq_true ?_⟩
    · have : (1 : Int).natAbs.log2 = 0 := by decide
      dsimp only
      omega
    · have l2 := log_small (Int.le_of_lt k.q1) k.qb
      have : (0 : Int).natAbs.log2 = 0 := by decide
      dsimp only
      omega
  have hs : lessQ c.2.2.2 (0, 1) = false := by
    unfold lessQ
    have := k.q0
    simp
    omega
  have hq : ∀ st, m_is_less [Q2 c.2.2.2, .tup [.int 0, .int 1]] st = .ok (.bl false) st := fun st => by
    have z := less_eq (st := st) hl
    rw [hs] at z
    exact z
  unfold m_Case___init__
  rw [fn_nx (ρ := [some (.ref st.length), some (dSt c.1), some (.str c.2.1), some (.int c.2.2.1), some (Q2 c.2.2.2)]) (st' := st ++ [.ins "Case" [("all_of_it", .tup [dSt c.1, .str c.2.1, .int c.2.2.1, Q2 c.2.2.2])]])]
  · simp [take_new]
  · simp [b_Case___init__, startM, check_sh_eq k.hb, check_number_eq k.n0 k.n1, fraction_eq k.q1 k.qg, hq, setF_new, lowD, lowL, lowF]
theorem make_case {c : CP} (k : OkC c) : mkK "Case" 5 m_Case___init__ [dSt c.1, .str c.2.1, .int c.2.2.1, Q2 c.2.2.2] st = .ok (dCa c) st :=
  mkK_ok rfl (case_init k) rfl
theorem law_case_eq {c : CP} (k : OkC c) : m__law_case [P4 c] st = .ok (dCa c) st := by
  unfold m__law_case
  rw [fn_rt (d := dCa c) (st' := st)]
  · simp [seal_obj, lowF, lowL, lowD]
  · have ms := make_state (st := st) k.a0 k.a1 k.a2 (by have := k.az; omega)
    have mc := make_case (st := st) k
    simp [b__law_case, startM, ms, mc]
theorem check_case_eq {c : CP} : m_check_case [dCa c] st = .ok .non st := by
  unfold m_check_case
  rw [fn_nx (ρ := [some (dCa c)]) (st' := st)]
  · simp
  · simp [b_check_case, startM, isCK_obj in_ca]
end
end K79

end

section
set_option maxRecDepth 100000
set_option Elab.async false
set_option linter.all false
set_option maxHeartbeats 2000000
namespace K79
open PySem PySem.Spec PyProof.Rows L2 DM
/-! the stories, the faults -/
def statesUp (n : Nat) : List T3 := ((List.range (n + 1)).map fun (r : Nat) => ((List.range (n + 1 - r)).map fun (s : Nat) => ((List.range (n + 1 - r - s)).map fun (h : Nat) => (((r : Nat) : Int), ((s : Nat) : Int), ((h : Nat) : Int))))).flatten.flatten
theorem mem_states {p : T3} {n : Nat} (h0 : 0 ≤ p.1) (h1 : 0 ≤ p.2.1) (h2 : 0 ≤ p.2.2) (hz : p.1 + p.2.1 + p.2.2 ≤ n) : p ∈ statesUp n := by
  obtain ⟨r, s, h⟩ := p
  dsimp only at h0 h1 h2 hz
  obtain ⟨r, rfl⟩ := Int.eq_ofNat_of_zero_le h0
  obtain ⟨s, rfl⟩ := Int.eq_ofNat_of_zero_le h1
  obtain ⟨h, rfl⟩ := Int.eq_ofNat_of_zero_le h2
  unfold statesUp
  rw [List.mem_flatten]
  refine ⟨(List.range (n + 1 - r - s)).map fun (h : Nat) => (((r : Nat) : Int), ((s : Nat) : Int), ((h : Nat) : Int)), ?_, ?_⟩
  · rw [List.mem_flatten]
    exact ⟨_, List.mem_map.mpr ⟨r, List.mem_range.mpr (by omega), rfl⟩, List.mem_map.mpr ⟨s, List.mem_range.mpr (by omega), rfl⟩⟩
  · exact List.mem_map.mpr ⟨h, List.mem_range.mpr (by omega), rfl⟩
def small (q : Int × Int) : Bool := decide (q.1.natAbs.log2 < 1000) && decide (q.2.natAbs.log2 < 1000)
def goodM (p : T3) (hb : Str) : Bool := match hmean p hb with
  | some q => small q
  | none => false
def gainO1 (p : T3) : Option (Int × Int) := (gainsO p).bind fun t => look t p
def goodG (p : T3) : Bool := match gainO1 p with
  | some q => small q
  | none => false
theorem small_less {a q : Int × Int} (ha : a.1.natAbs.log2 < 1000 ∧ a.2.natAbs.log2 < 1000) (h : small q = true) : cLess a q = true := by
  simp only [small, Bool.and_eq_true, decide_eq_true_eq] at h
  unfold cLess okM
  rw [Bool.and_eq_true]
  exact ⟨decide_eq_true (by omega), decide_eq_true (by omega)⟩
section
variable {st : Sto}
def rowsOf (b : Bool) (d : D) : List D := if b = true then [d] else []
theorem low_rowsOf {n : Nat} {b : Bool} {d : D} (h : lowL n [d] = true) : lowL n (rowsOf b d) = true := by
  unfold rowsOf
  split
  · exact h
  · rfl
theorem w21 : ¬ ("surely" : Str) = "mean" := by decide
theorem w31 : ¬ ("first" : Str) = "mean" := by decide
theorem w32 : ¬ ("first" : Str) = "surely" := by decide
theorem okc_small {c : CP} (k : OkC c) : c.2.2.2.1.natAbs.log2 < 1000 ∧ c.2.2.2.2.natAbs.log2 < 1000 := by
  have l1 := log_small k.q0 k.qa
  have l2 := log_small (Int.le_of_lt k.q1) k.qb
  omega
theorem shaped_hb {hb : Str} (h : hb ∈ habits) : SeqAt.shaped (.str hb) = true := by
  simp only [List.mem_cons, List.not_mem_nil, or_false] at h
  rcases h with rfl | rfl | rfl
  · exact sh_shut
  · exact sh_open
  · exact sh_turns
theorem mean_st_eq {c : CP} (k : OkC c) {q : Int × Int} (h : hmean c.1 c.2.1 = some q) (hs : small q = true) : m_mean_stories [dCa c] st = .ok (.lst (rowsOf (lessQ c.2.2.2 q) (.tup [.str "mean", Q2 q]))) st := by
  have hm := habit_mean_eq (st := st) (shaped_hb k.hb) h
  have hl := less_eq (st := st) (small_less (okc_small k) hs)
  unfold m_mean_stories
  rw [fn_rt (d := .lst (rowsOf (lessQ c.2.2.2 q) (.tup [.str "mean", Q2 q]))) (st' := st)]
  · rw [seal_lst (low_rowsOf rfl), take_self]
  · unfold rowsOf
    by_cases e : lessQ c.2.2.2 q = true <;> simp [b_mean_stories, startM, case_state_eq, state_parts_eq, case_habit_eq, case_most_eq, hm, hl, e]
theorem surely_st_eq {c : CP} {q : Int} (h : worstO c.1 = some q) : m_surely_stories [dCa c] st = .ok (.lst (rowsOf (decide (c.2.2.1 < q)) (.tup [.str "surely", .int q]))) st := by
  have hm := worst_by_eq (st := st) h
  unfold m_surely_stories
  rw [fn_rt (d := .lst (rowsOf (decide (c.2.2.1 < q)) (.tup [.str "surely", .int q]))) (st' := st)]
  · rw [seal_lst (low_rowsOf rfl), take_self]
  · unfold rowsOf
    by_cases e : c.2.2.1 < q <;> simp [b_surely_stories, startM, case_state_eq, state_parts_eq, case_number_eq, hm, e]
theorem first_st_eq {c : CP} {q : Int × Int} (h : gainO1 c.1 = some q) (hs : small q = true) : m_first_stories [dCa c] st = .ok (.lst (rowsOf (lessQ q (0, 1)) (.tup [.str "first", Q2 q]))) st := by
  unfold gainO1 at h
  cases e : gainsO c.1 with
  | none => rw [e] at h; cases h
  | some t =>
    rw [e] at h
    have h : look t c.1 = some q := h
    have hm := gains_eq (st := st) e
    have g := dgetK_ok (st := st) (o := .dxt (dDic Q2 t)) (i := S3 c.1) (d := Q2 q) rfl rfl (by rw [getK_look, h]; rfl)
    have hl : m_is_less [Q2 q, .tup [.int 0, .int 1]] st = .ok (.bl (lessQ q (0, 1))) st := less_eq (q := (0, 1)) (by
      simp only [small, Bool.and_eq_true, decide_eq_true_eq] at hs
      have : (1 : Int).natAbs.log2 = 0 := by decide
      have : (0 : Int).natAbs.log2 = 0 := by decide
      unfold cLess okM
      rw [Bool.and_eq_true]
      exact ⟨decide_eq_true (by dsimp only; omega), decide_eq_true (by dsimp only; omega)⟩)
    unfold m_first_stories
    rw [fn_rt (d := .lst (rowsOf (lessQ q (0, 1)) (.tup [.str "first", Q2 q]))) (st' := st)]
    · rw [seal_lst (low_rowsOf rfl), take_self]
    · unfold rowsOf
      by_cases e : lessQ q (0, 1) = true <;> simp [b_first_stories, startM, case_state_eq, state_parts_eq, hm, g, hl, e]
/-- what faults tells -/
def tells (c : CP) (w : Str) : Bool :=
  if w = "mean" then (match hmean c.1 c.2.1 with | some q => lessQ c.2.2.2 q | none => false)
  else if w = "surely" then (match worstO c.1 with | some q => decide (c.2.2.1 < q) | none => false)
  else (match gainO1 c.1 with | some q => lessQ q (0, 1) | none => false)
def storyOf (c : CP) (w : Str) : D :=
  if w = "mean" then .tup [.str "mean", Q2 ((hmean c.1 c.2.1).getD (0, 1))]
  else if w = "surely" then .tup [.str "surely", .int ((worstO c.1).getD 0)]
  else .tup [.str "first", Q2 ((gainO1 c.1).getD (0, 1))]
structure Good3 (c : CP) : Prop where
  m : goodM c.1 c.2.1 = true
  w : (worstO c.1).isSome = true
  g : goodG c.1 = true
abbrev words : List Str := ["mean", "surely", "first"]
theorem stories_eq {c : CP} (k : OkC c) (g : Good3 c) {w : Str} (hw : w ∈ words) : m_stories_by [dCa c, .str w] st = .ok (.lst (rowsOf (tells c w) (storyOf c w))) st := by
  have hlow : lowL st.length (rowsOf (tells c w) (storyOf c w)) = true := by
    unfold rowsOf storyOf
    split <;> (try split) <;> (try split) <;> rfl
  unfold m_stories_by
  rw [fn_rt (d := .lst (rowsOf (tells c w) (storyOf c w))) (st' := st)]
  · rw [seal_lst hlow, take_self]
  · simp only [List.mem_cons, List.not_mem_nil, or_false] at hw
    rcases hw with rfl | rfl | rfl
    · have gm := g.m
      unfold goodM at gm
      cases e : hmean c.1 c.2.1 with
      | none => rw [e] at gm; cases gm
      | some q =>
        rw [e] at gm
        have z := mean_st_eq (st := st) k e gm
        have tb : tabK [("mean", m_mean_stories), ("surely", m_surely_stories), ("first", m_first_stories)] 1 (mCons (mVar 0) mNil [some (dCa c), some (.str "mean")]) (.str "mean") st = .ok (.lst (rowsOf (lessQ c.2.2.2 q) (.tup [.str "mean", Q2 q]))) st := by
          rw [tabK_ok (m := m_mean_stories) rfl]
          simp [z]
        have t1 : tells c "mean" = lessQ c.2.2.2 q := by unfold tells; rw [if_pos rfl, e]
        have t2 : storyOf c "mean" = .tup [.str "mean", Q2 q] := by unfold storyOf; rw [if_pos rfl, e]; rfl
        rw [t1, t2]
        simp only [b_stories_by, startM, q_ret, q_tab, List.map_cons, List.map_nil, List.length_cons, List.length_nil]
        rw [show (mVar 1 ([some (dCa c), some (D.str "mean")] ++ List.replicate (2 - (0 + 1 + 1)) none) st : R D) = .ok (.str "mean") st from rfl]
        simp only [R.bind_ok]
        exact congrArg (fun r : R D => r.bindS [some (dCa c), some (.str "mean")] fun d st => .ok (.rt d) st) tb
    · cases e : worstO c.1 with
      | none => have := g.w; rw [e] at this; cases this
      | some q =>
        have z := surely_st_eq (st := st) e
        have tb : tabK [("mean", m_mean_stories), ("surely", m_surely_stories), ("first", m_first_stories)] 1 (mCons (mVar 0) mNil [some (dCa c), some (.str "surely")]) (.str "surely") st = .ok (.lst (rowsOf (decide (c.2.2.1 < q)) (.tup [.str "surely", .int q]))) st := by
          rw [tabK_ok (m := m_surely_stories) rfl]
          simp [z]
        have t1 : tells c "surely" = decide (c.2.2.1 < q) := by unfold tells; rw [if_neg w21, if_pos rfl, e]
        have t2 : storyOf c "surely" = .tup [.str "surely", .int q] := by unfold storyOf; rw [if_neg w21, if_pos rfl, e]; rfl
        rw [t1, t2]
        simp only [b_stories_by, startM, q_ret, q_tab, List.map_cons, List.map_nil, List.length_cons, List.length_nil]
        rw [show (mVar 1 ([some (dCa c), some (D.str "surely")] ++ List.replicate (2 - (0 + 1 + 1)) none) st : R D) = .ok (.str "surely") st from rfl]
        simp only [R.bind_ok]
        exact congrArg (fun r : R D => r.bindS [some (dCa c), some (.str "surely")] fun d st => .ok (.rt d) st) tb
    · have gm := g.g
      unfold goodG at gm
      cases e : gainO1 c.1 with
      | none => rw [e] at gm; cases gm
      | some q =>
        rw [e] at gm
        have z := first_st_eq (st := st) e gm
        have tb : tabK [("mean", m_mean_stories), ("surely", m_surely_stories), ("first", m_first_stories)] 1 (mCons (mVar 0) mNil [some (dCa c), some (.str "first")]) (.str "first") st = .ok (.lst (rowsOf (lessQ q (0, 1)) (.tup [.str "first", Q2 q]))) st := by
          rw [tabK_ok (m := m_first_stories) rfl]
          simp [z]
        have t1 : tells c "first" = lessQ q (0, 1) := by unfold tells; rw [if_neg w31, if_neg w32, e]
        have t2 : storyOf c "first" = .tup [.str "first", Q2 q] := by unfold storyOf; rw [if_neg w31, if_neg w32, e]; rfl
        rw [t1, t2]
        simp only [b_stories_by, startM, q_ret, q_tab, List.map_cons, List.map_nil, List.length_cons, List.length_nil]
        rw [show (mVar 1 ([some (dCa c), some (D.str "first")] ++ List.replicate (2 - (0 + 1 + 1)) none) st : R D) = .ok (.str "first") st from rfl]
        simp only [R.bind_ok]
        exact congrArg (fun r : R D => r.bindS [some (dCa c), some (.str "first")] fun d st => .ok (.rt d) st) tb
theorem shap_story {w : Str} {d : PyData} (hw : SeqAt.shaped (.str w) = true) (hd : d.canLay0 = true) (hz : d.depth ≤ 2) : SeqAt.shaped (.list [.tuple [.str w, d]]) = true := by
  simp only [SeqAt.shaped, PyData.canLay0, PyData.depth, Bool.and_eq_true, decide_eq_true_eq] at hw
  simp only [SeqAt.shaped, PyData.canLay0, PyData.canLayAll0, PyData.depth, PyData.depthAll, hw.1, hd, Bool.and_self, Bool.true_and]
  exact decide_eq_true (by omega)
theorem sh_mean : SeqAt.shaped (.str "mean") = true := by decide +kernel
theorem sh_surely : SeqAt.shaped (.str "surely") = true := by decide +kernel
theorem sh_first : SeqAt.shaped (.str "first") = true := by decide +kernel
theorem ne_rows {c : CP} {w : Str} (b : Bool) : dNe (.lst (rowsOf b (storyOf c w))) (.lst []) st = .ok (.bl b) st := by
  cases b
  · rfl
  · have : ∀ p : PyData, SeqAt.shaped (.list [p]) = true → ∀ d, pdOf d = some p → dNe (.lst [d]) (.lst []) st = .ok (.bl true) st := fun p hp d hd => by
      have e1 : pdS st (.lst [d]) = some (.list [p]) := by
        show pdOf (.lst [d]) = _
        simp [pdOf, pdL, hd]
      have e : eqB st (.lst [d]) (.lst []) = some false := by
        show ((pdS st (.lst [d])).bind fun p => (pdS st (.lst [])).bind fun q => if SeqAt.shaped p && SeqAt.shaped q then some (PyData.eqv p q) else none) = _
        rw [e1]
        show (if (SeqAt.shaped (.list [p]) && SeqAt.shaped (.list [])) = true then some (PyData.eqv (.list [p]) (.list [])) else none) = _
        have s0 : SeqAt.shaped (.list []) = true := shaped_states []
        rw [hp, s0]
        simp [PyData.eqv, PyData.eqvAll]
      unfold dNe
      rw [e]
      rfl
    unfold rowsOf storyOf
    simp only [if_true]
    split
    · exact this (.tuple [.str "mean", .tuple [.int _, .int _]]) (shap_story sh_mean rfl (by simp [PyData.depth, PyData.depthAll])) _ rfl
    · split
      · exact this (.tuple [.str "surely", .int _]) (shap_story sh_surely rfl (by simp [PyData.depth, PyData.depthAll])) _ rfl
      · exact this (.tuple [.str "first", .tuple [.int _, .int _]]) (shap_story sh_first rfl (by simp [PyData.depth, PyData.depthAll])) _ rfl
def told3 (c : CP) : List Str := words.filter (tells c)
theorem low_strs (n : Nat) : ∀ l : List Str, lowL n (l.map .str) = true
  | [] => rfl
  | s :: l => by rw [List.map_cons, lowL, low_strs n l]; rfl
theorem faults_eq {c : CP} (k : OkC c) (g : Good3 c) : m_faults [dCa c] st = .ok (.tup ((told3 c).map .str)) st := by
  have hl : mLc (mIter (mC (.tup [.str "mean", .str "surely", .str "first"]))) (.nm 1) (mTst (mOp dNe (mCall 2 m_stories_by (mCons (mVar 0) (mCons (mVar 1) mNil))) (mLst mNil))) (mVar 1) [1] [some (dCa c), none] st = .ok (.lst ((told3 c).map .str)) st := by
    refine q_lc D.str D.str (tells c) words (by simp) ?_ (by simp)
    intro w hw acc
    refine ⟨[some (dCa c), some (.str w)], rfl, ?_, fun _ => ⟨rfl, rfl⟩⟩
    have z := stories_eq (st := st ++ [.lst acc]) k g hw
    simp [z, ne_rows]
  have ht : dTupOf [.lst ((told3 c).map .str)] st = .ok (.tup ((told3 c).map .str)) st := rfl
  unfold m_faults
  rw [fn_rt (d := .tup ((told3 c).map .str)) (st' := st)]
  · rw [seal_tup (low_strs _ _), take_self]
  · simp [b_faults, startM, check_case_eq, hl, ht]
end
end K79

end

section
set_option maxRecDepth 100000
set_option Elab.async false
set_option linter.all false
set_option maxHeartbeats 2000000
namespace K79
open PySem PySem.Spec PyProof.Rows L2 DM
/-! the desk -/
theorem slot_eq {k n : Nat} {m : Int} {st : Sto} (h : Dk k n st) (hn : n < 1000000) (hm : 0 < m ∧ m < 1073741824) :
    ∃ v o, m__law_slot [.ref k, .int m] st = .ok (.int v) (st.set k o) ∧ 0 ≤ v ∧ v < m ∧ Dk k (n + 1) (st.set k o) := by
  have hk := h.lt
  obtain ⟨a, b, c, h, ha, hb, hb2, hc, hc2⟩ := h
  have i0 : dIx (.ref k) (.int 0) st = .ok (.int a) st := ix_ref h rfl
  by_cases h0 : 0 < a
  · refine ⟨a % m, .lst [.int (a / m), .int b, .int c], ?_, Int.emod_nonneg _ (by omega), Int.emod_lt_of_pos _ hm.1, a / m, b, c, List.getElem?_set_self hk, Int.ediv_nonneg ha (by omega), hb, hb2, hc, by omega⟩
    unfold m__law_slot
    rw [fn_rt (d := .int (a % m)) (st' := st.set k (.lst [.int (a / m), .int b, .int c]))]
    · simp [take_set]
    · have g := gSub_ok (ρ := [some (.ref k), some (.int m), none]) (mo := mVar 0) (mi := mC (.int 0)) (d := .int (a / m)) (j := 0) rfl rfl h rfl rfl
      simp [b__law_slot, startM, i0, h0, dDivmod_ok hm, g]
  · have e2 : (c + 1 : Int) ≤ n + 1 := by omega
    have hk1 : k < (st.set k (.lst [.int a, .int b, .int (c + 1)])).length := by simpa using hk
    have s1 : (st.set k (.lst [.int a, .int b, .int (c + 1)]))[k]? = some (.lst [.int a, .int b, .int (c + 1)]) := List.getElem?_set_self hk
    let x := (b * (b % 9791 + 47017) + 10223 * (c + 1) + 199) % 2147482661
    have s2 : (st.set k (.lst [.int a, .int x, .int (c + 1)]))[k]? = some (.lst [.int a, .int x, .int (c + 1)]) := List.getElem?_set_self hk
    have x0 : 0 ≤ x := Int.emod_nonneg _ (by decide)
    have x1 : x < 2147482661 := Int.emod_lt_of_pos _ (by decide)
    refine ⟨x / 541 % m, .lst [.int a, .int x, .int (c + 1)], ?_, Int.emod_nonneg _ (by omega), Int.emod_lt_of_pos _ hm.1, a, x, c + 1, s2, ha, x0, x1, by omega, by omega⟩
    unfold m__law_slot
    rw [fn_rt (d := .int (x / 541 % m)) (st' := st.set k (.lst [.int a, .int x, .int (c + 1)]))]
    · simp [take_set]
    · have g1 := gSub_ok (ρ := [some (.ref k), some (.int m), none]) (mo := mVar 0) (mi := mC (.int 2)) (d := .int (c + 1)) (j := 2) rfl rfl h rfl rfl
      have g2 := gSub_ok (ρ := [some (.ref k), some (.int m), none]) (mo := mVar 0) (mi := mC (.int 1)) (d := .int x) (j := 1) rfl rfl s1 rfl rfl
      simp only [List.set_cons_succ, List.set_cons_zero, List.set_set] at g1 g2
      have j1 : dIx (.ref k) (.int 1) (st.set k (.lst [.int a, .int b, .int (c + 1)])) = .ok (.int b) _ := ix_ref s1 rfl
      have j2 : dIx (.ref k) (.int 2) (st.set k (.lst [.int a, .int b, .int (c + 1)])) = .ok (.int (c + 1)) _ := ix_ref s1 rfl
      have j3 : dIx (.ref k) (.int 1) (st.set k (.lst [.int a, .int x, .int (c + 1)])) = .ok (.int x) _ := ix_ref s2 rfl
      have i2 : dIx (.ref k) (.int 2) st = .ok (.int c) st := ix_ref h rfl
      have m1 : ∀ st, dMul (.int b) (.int (b % 9791 + 47017)) st = .ok (.int (b * (b % 9791 + 47017))) st := fun st => mul_small hb (by omega) (by omega) (by omega)
      have m2 : ∀ st, dMul (.int 10223) (.int (c + 1)) st = .ok (.int (10223 * (c + 1))) st := fun st => mul_small (by omega) (by omega) (by omega) (by omega)
      have d1 : ∀ st, dMod (.int b) (.int 9791) st = .ok (.int (b % 9791)) st := fun st => dMod_pos (by decide)
      have d2 : ∀ st, dMod (.int (b * (b % 9791 + 47017) + 10223 * (c + 1) + 199)) (.int 2147482661) st = .ok (.int x) st := fun st => dMod_pos (by decide)
      have d3 : ∀ st, dMod (.int (x / 541)) (.int m) st = .ok (.int (x / 541 % m)) st := fun st => dMod_pos hm.1
      have d4 : ∀ st, dDiv (.int x) (.int 541) st = .ok (.int (x / 541)) st := fun st => dDivP (show decide ((0 : Int) < 541 ∧ (541 : Int).natAbs.log2 < 9000) = true by decide +kernel)
      simp [b__law_slot, startM, i0, i2, h0, g1, g2, j1, j2, j3, m1, m2, d1, d2, d3, d4]
theorem of_eq {k n : Nat} {ds : List D} {st : Sto} (h : Dk k n st) (hn : n < 1000000) (hl : 0 < ds.length ∧ ds.length < 1000) (hlow : lowL st.length ds = true) (hv : ∀ d ∈ ds, ∀ s, sealR st.length d s = .ok d (s.take st.length)) :
    ∃ d o, m__law_of [.ref k, .lst ds] st = .ok d (st.set k o) ∧ d ∈ ds ∧ Dk k (n + 1) (st.set k o) := by
  obtain ⟨v, o, e, h0, h1, hd⟩ := slot_eq (m := ds.length) h hn ⟨by omega, by omega⟩
  obtain ⟨i, rfl⟩ := Int.eq_ofNat_of_zero_le h0
  have hi : i < ds.length := by omega
  refine ⟨ds[i], o, ?_, List.getElem_mem hi, hd⟩
  have a1 : ∀ s, dIx (.lst ds) (.int i) s = .ok ds[i] s := fun s => by
    have e1 : atI ds (i : Int) = some ds[i] := by
      unfold atI ixN
      have : (i : Int) < (ds.length : Int) := by omega
      simp [this, hi]
    unfold dIx
    dsimp only
    have e2 : atD s (.lst ds) i = some ds[i] := by
      exact e1
    rw [e2]
  have ln : dLen [.lst ds] st = .ok (.int ds.length) st := rfl
  unfold m__law_of
  rw [fn_rt (d := ds[i]) (st' := st.set k o)]
  · rw [hv _ (List.getElem_mem hi)]
    congr 1
    exact List.take_of_length_le (by simp)
  · simp [b__law_of, startM, ln, e, a1]
theorem same_self {st : Sto} : ∀ (n : Nat) (d : D), plainD n d = true → mr__law_same n [d, d] st = .ok (.bl true) st
  | 0, d, h => by rw [plainD] at h; cases h
  | n + 1, d, h => by
    show fnM sealR 4 (br__law_same n fun _ => mr__law_same n) [d, d] st = _
    rw [fn_rt (d := .bl true) (st' := st)]
    · simp
    · have hz : ∀ ds : List D, plainL n ds = true → ds.length < 1000 → ∀ x, zipD x x = some (ds.map fun d => .wtp [d, d]) → mLc (mZip (mCons (mVar 0) (mCons (mVar 1) mNil))) (.tp [(.nm 2), (.nm 3)]) mYes (mCall 2 (mr__law_same n) (mCons (mVar 2) (mCons (mVar 3) mNil))) [2, 3] [some x, some x, none, none] st = .ok (.lst (ds.map fun _ => .bl true)) st := fun ds hp hl x hx => by
        refine q_lc1 (fun d => .wtp [d, d]) (fun _ => .bl true) ds ?_ ?_ (by omega)
        · simp [mZip, hx]
        · intro y hy acc
          have ih := same_self (st := st ++ [.lst acc]) n y (plainL_mem hp y hy)
          exact ⟨[some x, some x, some y, some y], rfl, by simp [ih], rfl⟩
      cases d with
      | non => simp [br__law_same, startM, isB, dIsN]
      | bl b => simp [br__law_same, startM, isB, dIsN]
      | int i => simp [br__law_same, startM, isB, dIsN]
      | str s =>
        rw [plainD] at h
        simp [br__law_same, startM, isB, dIsN, dEq_str h h]
      | tup ds =>
        rw [plainD, Bool.and_eq_true, decide_eq_true_eq] at h
        have z := hz ds h.1 h.2 (.tup ds) (by simp [zipD, tupOf, itemsOf, zipW_self])
        have ln : dLen [.tup ds] st = .ok (.int ds.length) st := rfl
        have al := all_true (st := st) ds
        simp [br__law_same, startM, isB, ln, z, al]
      | lst ds =>
        rw [plainD, Bool.and_eq_true, decide_eq_true_eq] at h
        have z := hz ds h.1 h.2 (.lst ds) (by simp [zipD, tupOf, itemsOf, zipW_self])
        have ln : dLen [.lst ds] st = .ok (.int ds.length) st := rfl
        have al := all_true (st := st) ds
        simp [br__law_same, startM, isB, ln, z, al]
      | _ => rw [plainD] at h <;> first | cases h | simp
end K79

end

section
set_option maxRecDepth 100000
set_option Elab.async false
set_option linter.all false
set_option maxHeartbeats 2000000
namespace K79
open PySem PySem.Spec PyProof.Rows L2 DM
/-! lowest terms, the law's own -/
theorem dAbs_nn {a : Int} {st : Sto} (h : 0 ≤ a) : dAbs [.int a] st = .ok (.int a) st := by
  have : ¬ a < 0 := by omega
  show R.ok (D.int (if a < 0 then -a else a)) st = _
  rw [if_neg this]
theorem while_low {t u : Option D} {st : Sto} : ∀ (n a b : Nat), b < n → whileM (mTst (mOp dGt (mVar 3) (mC (.int 0)))) (mPar 2 3 (mCons (mVar 3) (mCons (mOp dMod (mBi dInt (mCons (mVar 2) mNil)) (mVar 3)) mNil))) n [t, u, some (.int a), some (.int b)] st = .ok (.nx [t, u, some (.int (Nat.gcd a b : Nat)), some (.int 0)]) st
  | 0, _, _, h => absurd h (by omega)
  | n + 1, a, b, h => by
    rw [whileM]
    by_cases hb : b = 0
    · subst hb
      simp
    · have h0 : (0 : Int) < b := by omega
      have hm : dMod (.int a) (.int b) st = .ok (.int ((a % b : Nat) : Int)) st := by rw [dMod_pos h0]; simp
      have ih := while_low (t := t) (u := u) (st := st) n b (a % b) (by have := Nat.mod_lt a (show 0 < b by omega); omega)
      have e : (mTst (mOp dGt (mVar 3) (mC (.int 0)))) [t, u, some (.int a), some (.int b)] st = .ok true st := by simp; omega
      have e2 : (mPar 2 3 (mCons (mVar 3) (mCons (mOp dMod (mBi dInt (mCons (mVar 2) mNil)) (mVar 3)) mNil))) [t, u, some (.int a), some (.int b)] st = .ok (.nx [t, u, some (.int b), some (.int ((a % b : Nat) : Int))]) st := by simp [hm]
      rw [e]
      simp only [R.bindS_ok, if_true]
      rw [e2]
      dsimp only
      rw [ih, Nat.gcd_comm a b, Nat.gcd_rec b a, Nat.gcd_comm]
theorem law_low_eq {a b : Nat} {st : Sto} (hb : 0 < b) (hb2 : b < 60) : m__law_low [.int a, .int b] st = .ok (.tup [.int ((a / Nat.gcd a b : Nat) : Int), .int ((b / Nat.gcd a b : Nat) : Int)]) st := by
  have g0 : 0 < Nat.gcd a b := Nat.gcd_pos_of_pos_right _ hb
  have g1 : Nat.gcd a b ≤ b := Nat.gcd_le_right _ hb
  have hd : ∀ c : Nat, dDiv (.int c) (.int (Nat.gcd a b : Nat)) st = .ok (.int ((c / Nat.gcd a b : Nat) : Int)) st := fun c => by
    rw [dDivP (decide_eq_true ⟨by omega, ?_⟩)]
    · simp
    · have : (Nat.gcd a b).log2 < 60 := log_lt (i := (Nat.gcd a b : Nat)) (n := 60) (by simp; omega) (by omega)
      simp; omega
  unfold m__law_low
  rw [fn_rt (d := .tup [.int ((a / Nat.gcd a b : Nat) : Int), .int ((b / Nat.gcd a b : Nat) : Int)]) (st' := st)]
  · simp [seal_tup, lowL, lowD]
  · have w := while_low (t := some (.int a)) (u := some (.int b)) (st := st) 100 a b (by omega)
    have p : mPar 2 3 (mCons (mBi dAbs (mCons (mVar 0) mNil)) (mCons (mBi dAbs (mCons (mVar 1) mNil)) mNil)) (startM 4 [.int a, .int b]) st = .ok (.nx [some (.int a), some (.int b), some (.int a), some (.int b)]) st := by
      simp [startM, dAbs_nn]
    rw [b__law_low, q_seq, p, seqK_nx, q_seq, w, seqK_nx]
    have hb3 : (0 : Int) < b := by omega
    have hb4 : 0 < b := hb
    simp [hb4, hd]
end K79

end

section
set_option maxRecDepth 100000
set_option Elab.async false
set_option linter.all false
set_option maxHeartbeats 2000000
namespace K79
open PySem PySem.Spec PyProof.Rows L2 DM
/-! the law's draws -/
theorem law_parts_eq {k n : Nat} {st : Sto} (h : Dk k n st) (hn : n < 900000) :
    ∃ (p : T3) (o : Ob), m__law_parts [.ref k, .int 6] st = .ok (S3 p) (st.set k o) ∧ (0 ≤ p.1 ∧ 0 ≤ p.2.1 ∧ 0 ≤ p.2.2 ∧ p.1 + p.2.1 + p.2.2 ≤ 6 ∧ 1 ≤ p.1 + p.2.1 + p.2.2) ∧ Dk k (n + 3) (st.set k o) := by
  obtain ⟨v, o1, e1, v0, v1, h1⟩ := slot_eq (m := 6) h (by omega) ⟨by omega, by omega⟩
  obtain ⟨d, o2, e2, hd, h2⟩ := of_eq (ds := [.int 0, .int 0, .int 0, .int 1, .int 2]) h1 (by omega) (by simp) rfl (by
    intro d hd s
    simp only [List.mem_cons, List.not_mem_nil, or_false] at hd
    rcases hd with rfl | rfl | rfl | rfl | rfl <;> rfl)
  obtain ⟨r, rfl, r0, r2⟩ : ∃ r : Int, d = .int r ∧ 0 ≤ r ∧ r ≤ 2 := by
    simp only [List.mem_cons, List.not_mem_nil, or_false] at hd
    rcases hd with rfl | rfl | rfl | rfl | rfl
    · exact ⟨0, rfl, by omega, by omega⟩
    · exact ⟨0, rfl, by omega, by omega⟩
    · exact ⟨0, rfl, by omega, by omega⟩
    · exact ⟨1, rfl, by omega, by omega⟩
    · exact ⟨2, rfl, by omega, by omega⟩
  simp only [List.set_set] at e2 h2
  let q : Int := if 1 + v - 1 < r then 1 + v - 1 else r
  have q0 : 0 ≤ q ∧ q ≤ v := by show 0 ≤ (if 1 + v - 1 < r then 1 + v - 1 else r) ∧ (if 1 + v - 1 < r then 1 + v - 1 else r) ≤ v; split <;> omega
  obtain ⟨w, o3, e3, w0, w1, h3⟩ := slot_eq (m := 1 + v - q + 1) h2 (by omega) ⟨by omega, by omega⟩
  simp only [List.set_set] at e3 h3
  refine ⟨(q, w, 1 + v - q - w), o3, ?_, ⟨by dsimp only; omega, by dsimp only; omega, by dsimp only; omega, by dsimp only; omega, by dsimp only; omega⟩, h3⟩
  have mn : ∀ st, dMin2 [.int r, .int (1 + v - 1)] st = .ok (.int q) st := fun _ => rfl
  unfold m__law_parts
  rw [fn_rt (d := S3 (q, w, 1 + v - q - w)) (st' := st.set k o3)]
  · simp [seal_tup, lowL, lowD, take_set]
  · simp [b__law_parts, startM, e1, e2]
    simp [mn, e3]
theorem gz_div {a b : Nat} (hb : 0 < b) : gz ((a / Nat.gcd a b : Nat) : Int) ((b / Nat.gcd a b : Nat) : Int) = 1 := by
  unfold gz
  have e := Nat.gcd_div (Nat.gcd_dvd_left a b) (Nat.gcd_dvd_right a b)
  rw [Nat.div_self (Nat.gcd_pos_of_pos_right _ hb)] at e
  simpa only [Int.natAbs_natCast] using e
theorem case_parts_law {k n : Nat} {st : Sto} (h : Dk k n st) (hn : n < 900000) :
    ∃ (c : CP) (o : Ob), m__law_case_parts [.ref k, .int 6] st = .ok (P4 c) (st.set k o) ∧ OkC c ∧ Dk k (n + 7) (st.set k o) := by
  obtain ⟨p, o1, e1, ⟨p0, p1, p2, p3, p4⟩, h1⟩ := law_parts_eq h hn
  obtain ⟨d, o2, e2, hd, h2⟩ := of_eq (ds := [.str "shut", .str "open", .str "turns"]) h1 (by omega) (by simp) rfl (by
    intro d hd s
    simp only [List.mem_cons, List.not_mem_nil, or_false] at hd
    rcases hd with rfl | rfl | rfl <;> rfl)
  obtain ⟨hb, rfl, hhb⟩ : ∃ hb : Str, d = .str hb ∧ hb ∈ habits := by
    simp only [List.mem_cons, List.not_mem_nil, or_false] at hd
    rcases hd with rfl | rfl | rfl
    · exact ⟨_, rfl, by simp⟩
    · exact ⟨_, rfl, by simp⟩
    · exact ⟨_, rfl, by simp⟩
  simp only [List.set_set] at e2 h2
  obtain ⟨v, o3, e3, v0, v1, h3⟩ := slot_eq (m := 10) h2 (by omega) ⟨by omega, by omega⟩
  simp only [List.set_set] at e3 h3
  obtain ⟨a, o4, e4, a0, a1, h4⟩ := slot_eq (m := 40) h3 (by omega) ⟨by omega, by omega⟩
  simp only [List.set_set] at e4 h4
  obtain ⟨b, o5, e5, b0, b1, h5⟩ := slot_eq (m := 4) h4 (by omega) ⟨by omega, by omega⟩
  simp only [List.set_set] at e5 h5
  obtain ⟨a, rfl⟩ := Int.eq_ofNat_of_zero_le a0
  obtain ⟨b, rfl⟩ := Int.eq_ofNat_of_zero_le b0
  have low := law_low_eq (a := a) (b := 1 + b) (st := st.set k o5) (by omega) (by omega)
  have ec : ((1 + b : Nat) : Int) = 1 + b := by omega
  rw [ec] at low
  have g0 : 0 < Nat.gcd a (1 + b) := Nat.gcd_pos_of_pos_right _ (by omega)
  refine ⟨(p, hb, v, (((a / Nat.gcd a (1 + b) : Nat) : Int), (((1 + b) / Nat.gcd a (1 + b) : Nat) : Int))), o5, ?_, ⟨p0, p1, p2, p3, p4, hhb, v0, by dsimp only; omega, Int.natCast_nonneg _, ?_, ?_, ?_, gz_div (by omega)⟩, h5.mono (by omega)⟩
  · unfold m__law_case_parts
    rw [fn_rt (d := P4 (p, hb, v, (((a / Nat.gcd a (1 + b) : Nat) : Int), (((1 + b) / Nat.gcd a (1 + b) : Nat) : Int)))) (st' := st.set k o5)]
    · simp [seal_tup, lowL, lowD, take_set]
    · simp [b__law_case_parts, startM, e1, e2]
      simp [e3, e4, e5]
      rw [low]
      simp
  · have : 0 < (1 + b) / Nat.gcd a (1 + b) := Nat.div_pos (Nat.le_of_dvd (by omega) (Nat.gcd_dvd_right _ _)) g0
    dsimp only; omega
  · have : a / Nat.gcd a (1 + b) ≤ a := Nat.div_le_self _ _
    dsimp only; omega
  · have : (1 + b) / Nat.gcd a (1 + b) ≤ 1 + b := Nat.div_le_self _ _
    dsimp only; omega
end K79

end

section
set_option maxRecDepth 100000
set_option Elab.async false
set_option linter.all false
set_option maxHeartbeats 2000000
namespace K79
open PySem PySem.Spec PyProof.Rows L2 DM
abbrev rd1 : MS := (mAsg (mIf (mTst (mOp dLt (mVar 1) (mBi dLen (mCons (mVar 0) mNil)))) (mBi dInt (mCons (mOp dIx (mVar 0) (mVar 1)) mNil)) (mC (.int 0))) (gN 2))
abbrev rd2 : MS := (mAsg (mOp dAdd (mC (.int 6701)) (mOp dMul (mC (.int 523)) (mVar 1))) (gN 3))
abbrev rd3b : MS := (mAsg (mOp dMod (mBi dInt (mCons (mOp dAdd (mOp dAdd (mOp dMul (mVar 3) (mC (.int 17581))) (mOp dMod (mBi dInt (mCons (mVar 4) mNil)) (mC (.int 2147482093)))) (mC (.int 181))) mNil)) (mC (.int 2147482661))) (gN 3))
abbrev rd3 : MS := mFor (mIter (mOp dAdd (mSl (mVar 0) mNoP (mP (mC (.int 9)))) (mLst (mCons (mVar 2) mNil)))) (gN 4) rd3b
abbrev rd4 : MS := (mRet (mLstM (mCons (mIf (mOr (mTst (mOp dLt (mVar 2) (mC (.int 0)))) (mTst (mOp dGe (mVar 2) (mOp dPow (mC (.int 10)) (mC (.int 16)))))) (mOp dMod (mBi dAbs (mCons (mVar 2) mNil)) (mOp dPow (mC (.int 10)) (mC (.int 60)))) (mC (.int 0))) (mCons (mVar 3) (mCons (mC (.int 0)) mNil)))))
abbrev rd : MS := (mSeq rd1 (mSeq rd2 (mSeq rd3 rd4)))
theorem rd_eq : b__law_desk = rd := rfl

/-! the desk laid, the law -/
theorem dPow_ok {i j : Int} {st : Sto} (h : powOk i j = true) : dPow (.int i) (.int j) st = .ok (.int (i ^ j.toNat)) st := if_pos h
theorem pow_10_16 {st : Sto} : dPow (.int 10) (.int 16) st = .ok (.int (10 ^ 16)) st := by rw [dPow_ok (by decide +kernel)]; rfl
theorem pow_10_60 {st : Sto} : dPow (.int 10) (.int 60) st = .ok (.int (10 ^ 60)) st := by rw [dPow_ok (by decide +kernel)]; rfl
theorem desk_cell {s : Int} (h : 0 ≤ s ∧ s < 2147482661) {cell : Int} {x0 x1 x2 : Option D} {st : Sto} : ∃ s', (0 ≤ s' ∧ s' < 2147482661) ∧ rd3b [x0, x1, x2, some (.int s), some (.int cell)] st = .ok (.nx [x0, x1, x2, some (.int s'), some (.int cell)]) st := by
  refine ⟨(s * 17581 + cell % 2147482093 + 181) % 2147482661, ⟨Int.emod_nonneg _ (by decide), Int.emod_lt_of_pos _ (by decide)⟩, ?_⟩
  have m1 : dMul (.int s) (.int 17581) st = .ok (.int (s * 17581)) st := mul_small h.1 (by omega) (by omega) (by omega)
  have m2 : dMod (.int cell) (.int 2147482093) st = .ok (.int (cell % 2147482093)) st := dMod_pos (by decide)
  have m3 : dMod (.int (s * 17581 + cell % 2147482093 + 181)) (.int 2147482661) st = .ok (.int ((s * 17581 + cell % 2147482093 + 181) % 2147482661)) st := dMod_pos (by decide)
  simp [rd3b, m1, m2, m3]
theorem desk_cells {x0 x1 x2 : Option D} {st : Sto} : ∀ (l : List Int) (s : Int), 0 ≤ s ∧ s < 2147482661 → ∀ x4, ∃ s' y4, (0 ≤ s' ∧ s' < 2147482661) ∧ forM (gN 4) rd3b (l.map D.int) [x0, x1, x2, some (.int s), x4] st = .ok (.nx [x0, x1, x2, some (.int s'), y4]) st
  | [], s, h, x4 => ⟨s, x4, h, rfl⟩
  | c :: l, s, h, x4 => by
    obtain ⟨s1, h1, e1⟩ := desk_cell h (cell := c) (x0 := x0) (x1 := x1) (x2 := x2) (st := st)
    obtain ⟨s2, y4, h2, e2⟩ := desk_cells l s1 h1 (some (.int c))
    refine ⟨s2, y4, h2, ?_⟩
    rw [List.map_cons, forM_cons]
    simp only [q_gN, List.set_cons_succ, List.set_cons_zero, fmK_ok]
    rw [e1, fmK2_nx, e2]
theorem dAdd_lst2 {a b : List D} {st : Sto} (h : a.length + b.length < 1000) : dAdd (.lst a) (.lst b) st = .ok (.lst (a ++ b)) st := by
  unfold dAdd
  simp [lstOf, sizeLine_eq]
  omega
theorem law_desk_eq {ns : List Int} {lap : Nat} {st : Sto} (hn : ns.length ≤ 63) (hl : lap < 4) : ∃ o, m__law_desk [.lst (ns.map .int), .int lap] st = .ok (.ref st.length) (st ++ [o]) ∧ Dk st.length 0 (st ++ [o]) := by
  have e1 : ∃ own : Int, rd1 (startM 5 [.lst (ns.map .int), .int lap]) st = .ok (.nx [some (.lst (ns.map .int)), some (.int lap), some (.int own), none, none]) st := by
    have ln : dLen [.lst (ns.map .int)] st = .ok (.int ns.length) st := by
      show (R.ok (D.int ((ns.map D.int).length : Nat)) st : R D) = _
      rw [List.length_map]
    by_cases h : (lap : Int) < (ns.length : Int)
    · have h' : lap < ns.length := by omega
      have ix : dIx (.lst (ns.map .int)) (.int lap) st = .ok (.int ns[lap]) st := by
        have e1 : atI (ns.map D.int) (lap : Int) = some (.int ns[lap]) := by
          unfold atI ixN
          simp [h', h]
        unfold dIx
        dsimp only
        have e2 : atD st (.lst (ns.map .int)) lap = some (.int ns[lap]) := e1
        rw [e2]
      exact ⟨ns[lap], by simp [rd1, startM, ln, h', ix]⟩
    · have h' : ¬ lap < ns.length := by omega
      exact ⟨0, by simp [rd1, startM, ln, h']⟩
  obtain ⟨own, e1⟩ := e1
  have e2 : rd2 [some (.lst (ns.map .int)), some (.int lap), some (.int own), none, none] st = .ok (.nx [some (.lst (ns.map .int)), some (.int lap), some (.int own), some (.int (6701 + 523 * lap)), none]) st := by
    have m : dMul (.int 523) (.int lap) st = .ok (.int (523 * lap)) st := mul_small (by omega) (by omega) (by omega) (by omega)
    simp [rd2, m]
  obtain ⟨s, y4, hs, e3⟩ := desk_cells (x0 := some (.lst (ns.map .int))) (x1 := some (.int lap)) (x2 := some (.int own)) (st := st) (ns.take 9 ++ [own]) (6701 + 523 * lap) (by omega) none
  have e3 : rd3 [some (.lst (ns.map .int)), some (.int lap), some (.int own), some (.int (6701 + 523 * lap)), none] st = .ok (.nx [some (.lst (ns.map .int)), some (.int lap), some (.int own), some (.int s), y4]) st := by
    have sl : slD st none (some 9) (.lst (ns.map .int)) = .ok (.lst ((ns.take 9).map .int)) st := by
      show (R.ok (D.lst (DM.cutD (ns.map .int) none (some 9))) st : R D) = _
      have : DM.cutD (ns.map .int) none (some 9) = (ns.take 9).map .int := by
        unfold DM.cutD
        simp [HT.sIx, List.map_take]
      rw [this]
    have ad : dAdd (.lst ((ns.take 9).map .int)) (.lst [.int own]) st = .ok (.lst ((ns.take 9 ++ [own]).map .int)) st := by
      rw [dAdd_lst2 (by simp; omega), List.map_append]
      rfl
    rw [rd3, q_for]
    simp only [q_iter, q_op, q_sl, q_var, q_noP, q_p, q_c, q_lst, q_cons, q_nil, List.getElem?_cons_succ, List.getElem?_cons_zero, lkD_some, R.bind_ok, pK_int, szOk1, if_true, sl, ad, itK_lst, R.bindS_ok]
    exact e3
  have hv : ∃ a : Int, 0 ≤ a ∧ ∀ ρ2 : En, (mIf (mOr (mTst (mOp dLt (mVar 2) (mC (.int 0)))) (mTst (mOp dGe (mVar 2) (mOp dPow (mC (.int 10)) (mC (.int 16)))))) (mOp dMod (mBi dAbs (mCons (mVar 2) mNil)) (mOp dPow (mC (.int 10)) (mC (.int 60)))) (mC (.int 0))) [some (.lst (ns.map .int)), some (.int lap), some (.int own), some (.int s), y4] st = .ok (.int a) st := by
    have ab : dAbs [.int own] st = .ok (.int (if own < 0 then -own else own)) st := rfl
    have md : ∀ x : Int, dMod (.int x) (.int (10 ^ 60)) st = .ok (.int (x % 10 ^ 60)) st := fun x => dMod_pos (by decide)
    by_cases h1 : own < 0
    · refine ⟨(if own < 0 then -own else own) % 10 ^ 60, Int.emod_nonneg _ (by decide), fun _ => ?_⟩
      simp only [q_if, q_or, q_tst, q_op, q_bi, q_var, q_c, q_cons, q_nil, List.getElem?_cons_succ, List.getElem?_cons_zero, lkD_some, R.bind_ok, dLt_ok, h1, decide_true, tsB_bl, ifK_ok, if_true, pow_10_60, ab, md]
    · by_cases h2 : (10 : Int) ^ 16 ≤ own
      · refine ⟨(if own < 0 then -own else own) % 10 ^ 60, Int.emod_nonneg _ (by decide), fun _ => ?_⟩
        simp only [q_if, q_or, q_tst, q_op, q_bi, q_var, q_c, q_cons, q_nil, List.getElem?_cons_succ, List.getElem?_cons_zero, lkD_some, R.bind_ok, dLt_ok, dGe_ok, h1, h2, decide_true, decide_false, tsB_bl, ifK_ok, if_true, if_false, Bool.false_eq_true, pow_10_16, pow_10_60, ab, md]
      · refine ⟨0, by omega, fun _ => ?_⟩
        simp only [q_if, q_or, q_tst, q_op, q_bi, q_var, q_c, q_cons, q_nil, List.getElem?_cons_succ, List.getElem?_cons_zero, lkD_some, R.bind_ok, dLt_ok, dGe_ok, h1, h2, decide_true, decide_false, tsB_bl, ifK_ok, if_true, if_false, Bool.false_eq_true, pow_10_16, pow_10_60]
  obtain ⟨a, ha, hv⟩ := hv
  refine ⟨.lst [.int a, .int s, .int 0], ?_, a, s, 0, by simp, ha, hs.1, hs.2, by omega, by omega⟩
  unfold m__law_desk
  rw [fn_rt (d := .ref st.length) (st' := st ++ [.lst [.int a, .int s, .int 0]])]
  · unfold sealM
    simp [lowL, lowD]
  · rw [rd_eq, rd, q_seq, e1, seqK_nx, q_seq, e2, seqK_nx, q_seq, e3, seqK_nx, rd4, q_ret, q_lstM, q_cons, hv []]
    simp
theorem law_of_right (R1 : ∀ (k : Nat) (st : Sto), Dk k 0 st → ∃ o, m__law_right [.ref k] st = .ok (.bl true) (st.set k o)) : LawM m_law := by
  intro ns hn _
  have hm : ∃ m : Nat, m ≤ 3 ∧ ∀ st : Sto, (mRng1 (mCons (mBi dMax2 (mCons (mC (.int 1)) (mCons (mBi dMin2 (mCons (mBi dLen (mCons (mVar 0) mNil)) (mCons (mC (.int 3)) mNil))) mNil))) mNil)) [some (.lst (ns.map .int)), none] st = .ok ((List.range m).map fun i : Nat => D.int (0 + (i : Int))) st := by
    have ln : ∀ st, dLen [.lst (ns.map .int)] st = .ok (.int ns.length) st := fun st => by
      show (R.ok (D.int ((ns.map D.int).length : Nat)) st : R D) = _
      rw [List.length_map]
    have mx : ∀ (i : Int) st, dMax2 [.int 1, .int i] st = .ok (.int (if i > 1 then i else 1)) st := fun _ _ => rfl
    have mn : ∀ (i : Int) st, dMin2 [.int i, .int 3] st = .ok (.int (if 3 < i then 3 else i)) st := fun _ _ => rfl
    let j : Int := if (if (3 : Int) < ns.length then 3 else (ns.length : Int)) > 1 then (if (3 : Int) < ns.length then 3 else (ns.length : Int)) else 1
    have hj : 0 ≤ j ∧ j ≤ 3 := by
      show 0 ≤ (if (if (3 : Int) < ns.length then 3 else (ns.length : Int)) > 1 then (if (3 : Int) < ns.length then 3 else (ns.length : Int)) else 1) ∧ (if (if (3 : Int) < ns.length then 3 else (ns.length : Int)) > 1 then (if (3 : Int) < ns.length then 3 else (ns.length : Int)) else 1) ≤ 3
      split <;> split <;> omega
    refine ⟨j.toNat, by omega, fun st => ?_⟩
    simp only [q_rng1, q_cons, q_bi, q_c, q_nil, q_var, List.getElem?_cons_succ, List.getElem?_cons_zero, lkD_some, R.bind_ok, ln, mn, mx]
    show rng1K [.int j] st = _
    rw [rng1K_ok (decide_eq_true ⟨by omega, by omega⟩)]
    rfl
  obtain ⟨m, hm3, hm⟩ := hm
  refine ⟨[], ?_⟩
  have hl : mLc (mRng1 (mCons (mBi dMax2 (mCons (mC (.int 1)) (mCons (mBi dMin2 (mCons (mBi dLen (mCons (mVar 0) mNil)) (mCons (mC (.int 3)) mNil))) mNil))) mNil)) (.nm 1) mYes (mCall 1 m__law_right (mCons (mCall 2 m__law_desk (mCons (mVar 0) (mCons (mVar 1) mNil))) mNil)) [1] [some (.lst (ns.map .int)), none] [] = .ok (.lst ((List.range m).map fun _ => D.bl true)) [] := by
    refine q_lcJ (fun i : Nat => D.int (0 + (i : Int))) (fun _ => D.bl true) (List.range m) (hm _) ?_ (by simp; omega)
    intro i hi acc junk
    have hi : i < m := List.mem_range.mp hi
    obtain ⟨o, e1, hd⟩ := law_desk_eq (ns := ns) (lap := i) (st := [] ++ Ob.lst acc :: junk) hn (by omega)
    obtain ⟨o2, e2⟩ := R1 _ _ hd
    refine ⟨[some (.lst (ns.map .int)), some (.int (0 + (i : Int)))], junk ++ [o2], rfl, ?_, rfl⟩
    have e0 : (0 + (i : Int)) = i := by omega
    rw [e0]
    simp only [q_call, q_cons, q_var, q_nil, List.getElem?_cons_succ, List.getElem?_cons_zero, lkD_some, R.bind_ok, List.length_cons, List.length_nil, if_true, e1, e2]
    simp
  unfold m_law
  rw [fn_rt (d := .bl true) (st' := [])]
  · rfl
  · have al := all_true (st := []) (List.range m)
    have e0 : startM 2 [D.lst (ns.map .int)] = [some (.lst (ns.map .int)), none] := rfl
    rw [b_law, e0, q_ret, q_bi, q_cons, hl]
    simp only [q_nil, R.bind_ok, al]
    rfl
end K79

end

section
set_option maxRecDepth 100000
set_option Elab.async false
set_option linter.all false
set_option maxHeartbeats 2000000
namespace K79
open PySem PySem.Spec PyProof.Rows L2 DM
section
variable {st : Sto}
theorem told_shaped (c : CP) : ∀ s ∈ told3 c, SeqAt.shaped (.str s) = true := by
  intro s hs
  have h := (List.mem_filter.mp hs).1
  simp only [List.mem_cons, List.not_mem_nil, or_false] at h
  rcases h with rfl | rfl | rfl
  · exact sh_mean
  · exact sh_surely
  · exact sh_first
theorem told_nil (c : CP) : dEq (.tup ((told3 c).map .str)) (.tup []) st = .ok (.bl (decide (told3 c = []))) st := by
  rw [dEq_pd (p := .tuple ((told3 c).map PyData.str)) (q := .tuple []) (by rw [pdOf, pdL_strs]; rfl) rfl (shaped_strs (told_shaped c)).1 (shaped_strs (l := []) (fun _ h => nomatch h)).1]
  cases told3 c <;> simp [PyData.eqv, PyData.eqvAll]
theorem plain_told (c : CP) (n : Nat) : plainD (n + 2) (.tup ((told3 c).map .str)) = true := by
  have h := told_shaped c
  have hl : (told3 c).length ≤ 3 := by unfold told3; exact List.length_filter_le _ _
  rw [plainD, Bool.and_eq_true]
  refine ⟨?_, decide_eq_true (by simp; omega)⟩
  revert h
  generalize told3 c = l
  intro h
  induction l with
  | nil => rfl
  | cons s l ih =>
    rw [List.map_cons, plainL, Bool.and_eq_true]
    exact ⟨h s List.mem_cons_self, ih fun x hx => h x (List.mem_cons_of_mem _ hx)⟩
end
end K79

end

section
set_option maxRecDepth 100000
set_option Elab.async false
set_option linter.all false
set_option maxHeartbeats 2000000
namespace K79
open PySem PySem.Spec PyProof.Rows L2 DM
/-! the law's own fractions and equations -/
def eu : Nat → Nat → Nat → Bool
  | 0, _, _ => false
  | n + 1, a, b => if b = 0 then true else eu n b (a % b)
theorem while_eu {t u : Option D} {st : Sto} : ∀ (n a b : Nat), eu n a b = true → whileM (mTst (mOp dGt (mVar 3) (mC (.int 0)))) (mPar 2 3 (mCons (mVar 3) (mCons (mOp dMod (mBi dInt (mCons (mVar 2) mNil)) (mVar 3)) mNil))) n [t, u, some (.int a), some (.int b)] st = .ok (.nx [t, u, some (.int (Nat.gcd a b : Nat)), some (.int 0)]) st
  | 0, _, _, h => by cases h
  | n + 1, a, b, h => by
    rw [whileM]
    by_cases hb : b = 0
    · subst hb
      simp
    · have h0 : (0 : Int) < b := by omega
      have hm : dMod (.int a) (.int b) st = .ok (.int ((a % b : Nat) : Int)) st := by rw [dMod_pos h0]; simp
      rw [eu, if_neg hb] at h
      have ih := while_eu (t := t) (u := u) (st := st) n b (a % b) h
      have e : (mTst (mOp dGt (mVar 3) (mC (.int 0)))) [t, u, some (.int a), some (.int b)] st = .ok true st := by simp; omega
      have e2 : (mPar 2 3 (mCons (mVar 3) (mCons (mOp dMod (mBi dInt (mCons (mVar 2) mNil)) (mVar 3)) mNil))) [t, u, some (.int a), some (.int b)] st = .ok (.nx [t, u, some (.int b), some (.int ((a % b : Nat) : Int))]) st := by simp [hm]
      rw [e]
      simp only [R.bindS_ok, if_true]
      rw [e2]
      dsimp only
      rw [ih, Nat.gcd_comm a b, Nat.gcd_rec b a, Nat.gcd_comm]
def cLow (a b : Int) : Bool := decide (0 < b) && (eu 100 a.natAbs b.natAbs && decide ((gz a b).log2 < 9000))
abbrev QQ := Int × Int
def lowO (a b : Int) : Option QQ := if cLow a b = true then some (lowQ a b) else none
section
variable {st : Sto}
theorem dAbs_eq {a : Int} : dAbs [.int a] st = .ok (.int (a.natAbs : Int)) st := by
  show R.ok (D.int (if a < 0 then -a else a)) st = _
  have : (if a < 0 then -a else a) = (a.natAbs : Int) := by split <;> omega
  rw [this]
theorem law_low_ok {a b : Int} {q : QQ} (h : lowO a b = some q) : m__law_low [.int a, .int b] st = .ok (Q2 q) st := by
  unfold lowO at h
  split at h
  · rename_i c
    cases h
    simp only [cLow, Bool.and_eq_true, decide_eq_true_eq] at c
    obtain ⟨c1, c2, c3⟩ := c
    have g0 : 0 < gz a b := Nat.gcd_pos_of_pos_right _ (by omega)
    have hd : ∀ c : Int, dDiv (.int c) (.int (gz a b : Int)) st = .ok (.int (c / (gz a b : Int))) st := fun c => dDivP (decide_eq_true ⟨by omega, by simpa using c3⟩)
    unfold m__law_low
    rw [fn_rt (d := Q2 (lowQ a b)) (st' := st)]
    · simp [seal_tup, lowL, lowD]
    · have w := while_eu (t := some (.int a)) (u := some (.int b)) (st := st) 100 a.natAbs b.natAbs c2
      have p : mPar 2 3 (mCons (mBi dAbs (mCons (mVar 0) mNil)) (mCons (mBi dAbs (mCons (mVar 1) mNil)) mNil)) (startM 4 [.int a, .int b]) st = .ok (.nx [some (.int a), some (.int b), some (.int a.natAbs), some (.int b.natAbs)]) st := by
        simp [startM, dAbs_eq]
      rw [b__law_low, q_seq, p, seqK_nx, q_seq, w, seqK_nx]
      have e : ((a.natAbs.gcd b.natAbs : Nat) : Int) = (gz a b : Int) := rfl
      rw [e]
      simp [c1, hd, lowQ]
  · cases h
theorem q0 {q : QQ} : dIx (Q2 q) (.int 0) st = .ok (.int q.1) st := rfl
theorem q1 {q : QQ} : dIx (Q2 q) (.int 1) st = .ok (.int q.2) st := rfl
def mulL (p q : QQ) : Option QQ := if (okM p.1 q.1 && okM p.2 q.2) = true then lowO (p.1 * q.1) (p.2 * q.2) else none
theorem law_times_ok {p q r : QQ} (h : mulL p q = some r) : m__law_times [Q2 p, Q2 q] st = .ok (Q2 r) st := by
  unfold mulL at h
  split at h
  · rename_i c
    rw [Bool.and_eq_true] at c
    unfold m__law_times
    rw [fn_rt (d := Q2 r) (st' := st)]
    · simp [seal_tup, lowL, lowD]
    · simp [b__law_times, startM, q0, q1, dMul_ok c.1, dMul_ok c.2, law_low_ok h]
  · cases h
def addL (p q : QQ) : Option QQ := if (okM p.1 q.2 && (okM q.1 p.2 && okM p.2 q.2)) = true then lowO (p.1 * q.2 + q.1 * p.2) (p.2 * q.2) else none
theorem law_plus_ok {p q r : QQ} (h : addL p q = some r) : m__law_plus [Q2 p, Q2 q] st = .ok (Q2 r) st := by
  unfold addL at h
  split at h
  · rename_i c
    rw [Bool.and_eq_true, Bool.and_eq_true] at c
    unfold m__law_plus
    rw [fn_rt (d := Q2 r) (st' := st)]
    · simp [seal_tup, lowL, lowD]
    · simp [b__law_plus, startM, q0, q1, dMul_ok c.1, dMul_ok c.2.1, dMul_ok c.2.2, law_low_ok h]
  · cases h
def subL (p q : QQ) : Option QQ := if (okM p.1 q.2 && (okM q.1 p.2 && okM p.2 q.2)) = true then lowO (p.1 * q.2 - q.1 * p.2) (p.2 * q.2) else none
theorem law_less_ok {p q r : QQ} (h : subL p q = some r) : m__law_less [Q2 p, Q2 q] st = .ok (Q2 r) st := by
  unfold subL at h
  split at h
  · rename_i c
    rw [Bool.and_eq_true, Bool.and_eq_true] at c
    unfold m__law_less
    rw [fn_rt (d := Q2 r) (st' := st)]
    · simp [seal_tup, lowL, lowD]
    · simp [b__law_less, startM, q0, q1, dMul_ok c.1, dMul_ok c.2.1, dMul_ok c.2.2, law_low_ok h]
  · cases h
def upL (p q : QQ) : Option Bool := if (okM p.1 q.2 && okM q.1 p.2) = true then some (decide (p.1 * q.2 ≤ q.1 * p.2)) else none
theorem law_up_ok {p q : QQ} {r : Bool} (h : upL p q = some r) : m__law_up_to [Q2 p, Q2 q] st = .ok (.bl r) st := by
  unfold upL at h
  split at h
  · rename_i c
    rw [Bool.and_eq_true] at c
    cases h
    unfold m__law_up_to
    rw [fn_rt (d := .bl (decide (p.1 * q.2 ≤ q.1 * p.2))) (st' := st)]
    · simp
    · simp [b__law_up_to, startM, q0, q1, dMul_ok c.1, dMul_ok c.2]
  · cases h
def brL (s h : Int) : Option (QQ × QQ × QQ) := if (okM 2 h && okM 2 (h - 1)) = true then (lowO 1 (s + 2 * h - 1)).bind fun a => (lowO s (s + 2 * h - 1)).bind fun b => (lowO (2 * (h - 1)) (s + 2 * h - 1)).bind fun c => some (a, b, c) else none
theorem law_branches_ok {s h : Int} {r : QQ × QQ × QQ} (e : brL s h = some r) : m__law_branches [.int s, .int h] st = .ok (.tup [Q2 r.1, Q2 r.2.1, Q2 r.2.2]) st := by
  unfold brL at e
  split at e
  · rename_i c
    rw [Bool.and_eq_true] at c
    simp only [Option.bind_eq_some_iff] at e
    obtain ⟨x, hx, y, hy, z, hz, e⟩ := e
    cases e
    unfold m__law_branches
    rw [fn_rt (d := .tup [Q2 x, Q2 y, Q2 z]) (st' := st)]
    · simp [seal_tup, lowL, lowD]
    · simp [b__law_branches, startM, dMul_ok c.1, dMul_ok c.2, law_low_ok hx, law_low_ok hy, law_low_ok hz]
  · cases e
def wordL (hb : Str) (s h : Int) : Str := if s = 0 then "shut" else if hb = "open" then "open" else if hb = "turns" then (if (s + 2 * h - 1) % 2 = 1 then "open" else "shut") else "shut"
theorem law_word_ok {hb : Str} {s h : Int} (hs : SeqAt.shaped (.str hb) = true) (c : okM 2 h = true) : m__law_word [.str hb, .int s, .int h] st = .ok (.str (wordL hb s h)) st := by
  have m2 : ∀ a st, dMod (.int a) (.int 2) st = .ok (.int (a % 2)) st := fun a st => dMod_pos (by decide)
  unfold m__law_word
  rw [fn_rt (d := .str (wordL hb s h)) (st' := st)]
  · simp
  · unfold wordL
    by_cases h1 : s = 0 <;> by_cases h2 : hb = "open" <;> by_cases h3 : hb = "turns" <;> by_cases h4 : (s + 2 * h - 1) % 2 = 1 <;> simp [b__law_word, startM, h1, h2, h3, h4, dEq_str hs sh_open, dEq_str hs sh_turns, dEq_str sh_open sh_open, dEq_str sh_turns sh_turns, dEq_str sh_turns sh_open, dEq_str sh_open sh_turns, m2, dMul_ok c] <;> simp_all
theorem wordL_shaped {hb : Str} {s h : Int} : SeqAt.shaped (.str (wordL hb s h)) = true := by
  unfold wordL
  split
  · exact sh_shut
  · split
    · exact sh_open
    · split
      · split
        · exact sh_open
        · exact sh_shut
      · exact sh_shut
abbrev FQ := List ((Int × Int) × QQ)
/-! means -/
def mnShut (found : FQ) (s h : Int) (lu fe ot : QQ) : Option QQ := (lookG found (s, h - 1)).bind fun a => (mulL lu a).bind fun t1 => (addL (1, 1) a).bind fun t2 => (mulL fe t2).bind fun t3 => addL t1 t3
def mnShut2 (found : FQ) (s h : Int) (ot sh : QQ) : Option QQ := if 1 < h then (lookG found (s + 2, h - 2)).bind fun o => (mulL ot o).bind fun t => addL sh t else some sh
def mnLast (found : FQ) (s h : Int) (b : QQ) : Option QQ := if 0 < s then (lowO s (s + 2 * h)).bind fun q => (lookG found (s - 1, h)).bind fun z => (mulL q z).bind fun t => addL b t else some b
def mnL (hb : Str) (found : FQ) (s h : Int) : Option QQ := if okM 2 h = true then (brL s h).bind fun r => (mnShut found s h r.1 r.2.1 r.2.2).bind fun s1 => (mnShut2 found s h r.2.2 s1).bind fun sh => (lookG found (s + 1, h - 1)).bind fun op =>
  (lowO (2 * h) (s + 2 * h)).bind fun q => (mulL q (if wordL hb s h = "open" then op else sh)).bind fun b1 => (mnLast found s h b1).bind fun b2 => addL (1, 1) b2 else none
def mnS (hb : Str) (h : Int) (found : FQ) (s : Nat) : Option FQ := if found.length < 1000 then (if h = 0 then some (putG found ((s : Int), 0) ((s : Int), 1)) else (mnL hb found s h).bind fun q => some (putG found ((s : Int), h) q)) else none
abbrev xm1 : MS := (mAsg mDNewX (gN 2))
abbrev xm2bbt : MS := (mDPut (mVar 2) (mTup (mCons (mVar 4) (mCons (mC (.int 0)) mNil))) (mTup (mCons (mVar 4) (mCons (mC (.int 1)) mNil))))
abbrev xm2bbe1 : MS := (mAsg (mOp dAdd (mVar 4) (mOp dMul (mC (.int 2)) (mVar 3))) (gN 5))
abbrev xm2bbe2 : MS := (mAsg (mCall 2 m__law_branches (mCons (mVar 4) (mCons (mVar 3) mNil))) (gTupM 3 (gConsM (gN 6) (gConsM (gN 7) (gConsM (gN 8) gNilM)))))
abbrev xm2bbe3 : MS := (mAsg (mCall 2 m__law_plus (mCons (mCall 2 m__law_times (mCons (mVar 6) (mCons (mDGet (mVar 2) (mTup (mCons (mVar 4) (mCons (mOp dSub (mVar 3) (mC (.int 1))) mNil)))) mNil))) (mCons (mCall 2 m__law_times (mCons (mVar 7) (mCons (mCall 2 m__law_plus (mCons (mTup (mCons (mC (.int 1)) (mCons (mC (.int 1)) mNil))) (mCons (mDGet (mVar 2) (mTup (mCons (mVar 4) (mCons (mOp dSub (mVar 3) (mC (.int 1))) mNil)))) mNil))) mNil))) mNil))) (gN 9))
abbrev xm2bbe4 : MS := (mAsg (mIf (mTst (mOp dGt (mVar 3) (mC (.int 1)))) (mCall 2 m__law_plus (mCons (mVar 9) (mCons (mCall 2 m__law_times (mCons (mVar 8) (mCons (mDGet (mVar 2) (mTup (mCons (mOp dAdd (mVar 4) (mC (.int 2))) (mCons (mOp dSub (mVar 3) (mC (.int 2))) mNil)))) mNil))) mNil))) (mVar 9)) (gN 9))
abbrev xm2bbe5 : MS := (mAsg (mDGet (mVar 2) (mTup (mCons (mOp dAdd (mVar 4) (mC (.int 1))) (mCons (mOp dSub (mVar 3) (mC (.int 1))) mNil)))) (gN 10))
abbrev xm2bbe6 : MS := (mIfS (mTst (mOp dIsN (mVar 1) (mC .non))) (mAsg (mIf (mAnd (mTst (mOp dGt (mVar 4) (mC (.int 0)))) (mTst (mCall 2 m__law_up_to (mCons (mVar 10) (mCons (mVar 9) mNil))))) (mVar 10) (mVar 9)) (gN 11)) (mAsg (mIf (mTst (mOp dEq (mCall 3 m__law_word (mCons (mVar 1) (mCons (mVar 4) (mCons (mVar 3) mNil)))) (mC (.str "open")))) (mVar 10) (mVar 9)) (gN 11)))
abbrev xm2bbe7 : MS := (mAsg (mCall 2 m__law_times (mCons (mCall 2 m__law_low (mCons (mOp dMul (mC (.int 2)) (mVar 3)) (mCons (mVar 5) mNil))) (mCons (mVar 11) mNil))) (gN 11))
abbrev xm2bbe8 : MS := (mIfS (mTst (mOp dGt (mVar 4) (mC (.int 0)))) (mAsg (mCall 2 m__law_plus (mCons (mVar 11) (mCons (mCall 2 m__law_times (mCons (mCall 2 m__law_low (mCons (mVar 4) (mCons (mVar 5) mNil))) (mCons (mDGet (mVar 2) (mTup (mCons (mOp dSub (mVar 4) (mC (.int 1))) (mCons (mVar 3) mNil)))) mNil))) mNil))) (gN 11)) mNext)
abbrev xm2bbe9 : MS := (mDPut (mVar 2) (mTup (mCons (mVar 4) (mCons (mVar 3) mNil))) (mCall 2 m__law_plus (mCons (mTup (mCons (mC (.int 1)) (mCons (mC (.int 1)) mNil))) (mCons (mVar 11) mNil))))
abbrev xm2bbe : MS := (mSeq xm2bbe1 (mSeq xm2bbe2 (mSeq xm2bbe3 (mSeq xm2bbe4 (mSeq xm2bbe5 (mSeq xm2bbe6 (mSeq xm2bbe7 (mSeq xm2bbe8 xm2bbe9))))))))
abbrev xm2bb : MS := mIfS (mTst (mOp dEq (mVar 3) (mC (.int 0)))) xm2bbt xm2bbe
abbrev xm2b : MS := mFor (mRng1 (mCons (mOp dAdd (mOp dSub (mVar 0) (mVar 3)) (mC (.int 1))) mNil)) (gN 4) xm2bb
abbrev xm2 : MS := mFor (mRng1 (mCons (mOp dAdd (mVar 0) (mC (.int 1))) mNil)) (gN 3) xm2b
abbrev xm3 : MS := (mRet (mVar 2))
abbrev xm : MS := (mSeq xm1 (mSeq xm2 xm3))
theorem xm_eq : b__law_means = xm := rfl

theorem low_Q2' (q : QQ) (n : Nat) : lowD n (Q2 q) = true := rfl
theorem bindS_ok' {α : Type} {r : R α} {a : α} {st' : Sto} {ρ : En} {f : α → Sto → RS} (h : r = .ok a st') : r.bindS ρ f = f a st' := by rw [h]; rfl
theorem mn_step {hb : Str} (hs : SeqAt.shaped (.str hb) = true) {found found' : FQ} {s : Nat} {h : Int} {x0 x5 x6 x7 x8 x9 x10 x11 : Option D} (e : mnS hb h found s = some found') :
    ∃ y5 y6 y7 y8 y9 y10 y11, xm2bb [x0, some (.str hb), some (.ref st.length), some (.int h), some (.int s), x5, x6, x7, x8, x9, x10, x11] (stP Q2 st found) = .ok (.nx [x0, some (.str hb), some (.ref st.length), some (.int h), some (.int s), y5, y6, y7, y8, y9, y10, y11]) (stP Q2 st found') := by
  unfold mnS at e
  split at e
  · rename_i hl
    by_cases h0 : h = 0
    · rw [if_pos h0] at e
      cases e
      subst h0
      have p := putP (ρ := [x0, some (.str hb), some (.ref st.length), some (.int 0), some (.int s), x5, x6, x7, x8, x9, x10, x11]) (st := st) (f := Q2) (l := found) (a := s) (b := 0) (v := ((s : Int), 1)) hl low_Q2'
      exact ⟨x5, x6, x7, x8, x9, x10, x11, by
        simp only [xm2bb, q_ifS, q_tst, q_op, q_var, q_c, q_dput, q_tup, q_cons, q_nil, List.getElem?_cons_succ, List.getElem?_cons_zero, lkD_some, R.bind_ok, R.bindS_ok, dEq_int, decide_true, tsB_bl, ifKS_ok, if_true, szOk2]
        exact p⟩
    · rw [if_neg h0] at e
      simp only [Option.bind_eq_some_iff] at e
      obtain ⟨q, em, e⟩ := e
      cases e
      unfold mnL at em
      split at em
      · rename_i c2
        simp only [Option.bind_eq_some_iff] at em
        obtain ⟨⟨lu, fe, ot⟩, h1, s1, h2, sh, h3, op, h4, q', h5, b1, h6, b2, h7, h8⟩ := em
        simp only [mnShut, Option.bind_eq_some_iff] at h2
        obtain ⟨a, ga, t1, m1, t2, m2, t3, m3, m4⟩ := h2
        have GA := getP (f := Q2) (st := st) ga
        have GO := getP (f := Q2) (st := st) h4
        have M2 := law_plus_ok (st := stP Q2 st found) m2
        have M2 : m__law_plus [.tup [.int 1, .int 1], Q2 a] (stP Q2 st found) = .ok (Q2 t2) (stP Q2 st found) := M2
        have M8 := law_plus_ok (st := stP Q2 st found) h8
        have M8 : m__law_plus [.tup [.int 1, .int 1], Q2 b2] (stP Q2 st found) = .ok (Q2 q) (stP Q2 st found) := M8
        have wd := law_word_ok (st := stP Q2 st found) (s := s) (h := h) hs c2
        have dm : ∀ st, dMul (.int 2) (.int h) st = .ok (.int (2 * h)) st := fun st => dMul_ok c2
        refine ⟨some (.int (s + 2 * h)), some (Q2 lu), some (Q2 fe), some (Q2 ot), some (Q2 sh), some (Q2 op), some (Q2 b2), ?_⟩
        have e1 : xm2bbe1 [x0, some (.str hb), some (.ref st.length), some (.int h), some (.int s), x5, x6, x7, x8, x9, x10, x11] (stP Q2 st found) = .ok (.nx [x0, some (.str hb), some (.ref st.length), some (.int h), some (.int s), some (.int (s + 2 * h)), x6, x7, x8, x9, x10, x11]) (stP Q2 st found) := by
          simp [xm2bbe1, dm]
        have e2 : xm2bbe2 [x0, some (.str hb), some (.ref st.length), some (.int h), some (.int s), some (.int (s + 2 * h)), x6, x7, x8, x9, x10, x11] (stP Q2 st found) = .ok (.nx [x0, some (.str hb), some (.ref st.length), some (.int h), some (.int s), some (.int (s + 2 * h)), some (Q2 lu), some (Q2 fe), some (Q2 ot), x9, x10, x11]) (stP Q2 st found) := by
          simp [xm2bbe2, law_branches_ok h1]
        have e3 : xm2bbe3 [x0, some (.str hb), some (.ref st.length), some (.int h), some (.int s), some (.int (s + 2 * h)), some (Q2 lu), some (Q2 fe), some (Q2 ot), x9, x10, x11] (stP Q2 st found) = .ok (.nx [x0, some (.str hb), some (.ref st.length), some (.int h), some (.int s), some (.int (s + 2 * h)), some (Q2 lu), some (Q2 fe), some (Q2 ot), some (Q2 s1), x10, x11]) (stP Q2 st found) := by
          simp [xm2bbe3, GA, law_times_ok m1, M2, law_times_ok m3, law_plus_ok m4]
        have e4 : xm2bbe4 [x0, some (.str hb), some (.ref st.length), some (.int h), some (.int s), some (.int (s + 2 * h)), some (Q2 lu), some (Q2 fe), some (Q2 ot), some (Q2 s1), x10, x11] (stP Q2 st found) = .ok (.nx [x0, some (.str hb), some (.ref st.length), some (.int h), some (.int s), some (.int (s + 2 * h)), some (Q2 lu), some (Q2 fe), some (Q2 ot), some (Q2 sh), x10, x11]) (stP Q2 st found) := by
          unfold mnShut2 at h3
          by_cases hh : 1 < h
          · rw [if_pos hh] at h3
            simp only [Option.bind_eq_some_iff] at h3
            obtain ⟨o, g1, t, g2, g3⟩ := h3
            have G1 := getP (f := Q2) (st := st) g1
            simp [xm2bbe4, hh, G1, law_times_ok g2, law_plus_ok g3]
          · rw [if_neg hh] at h3
            cases h3
            simp [xm2bbe4, hh]
        have e5 : xm2bbe5 [x0, some (.str hb), some (.ref st.length), some (.int h), some (.int s), some (.int (s + 2 * h)), some (Q2 lu), some (Q2 fe), some (Q2 ot), some (Q2 sh), x10, x11] (stP Q2 st found) = .ok (.nx [x0, some (.str hb), some (.ref st.length), some (.int h), some (.int s), some (.int (s + 2 * h)), some (Q2 lu), some (Q2 fe), some (Q2 ot), some (Q2 sh), some (Q2 op), x11]) (stP Q2 st found) := by
          simp [xm2bbe5, GO]
        have e6 : xm2bbe6 [x0, some (.str hb), some (.ref st.length), some (.int h), some (.int s), some (.int (s + 2 * h)), some (Q2 lu), some (Q2 fe), some (Q2 ot), some (Q2 sh), some (Q2 op), x11] (stP Q2 st found) = .ok (.nx [x0, some (.str hb), some (.ref st.length), some (.int h), some (.int s), some (.int (s + 2 * h)), some (Q2 lu), some (Q2 fe), some (Q2 ot), some (Q2 sh), some (Q2 op), some (Q2 (if wordL hb s h = "open" then op else sh))]) (stP Q2 st found) := by
          have nn : dIsN (.str hb) .non (stP Q2 st found) = .ok (.bl false) (stP Q2 st found) := rfl
          by_cases hw : wordL hb s h = "open" <;> simp [xm2bbe6, nn, wd, dEq_str wordL_shaped sh_open, hw, dEq_str sh_open sh_open]
        have e7 : xm2bbe7 [x0, some (.str hb), some (.ref st.length), some (.int h), some (.int s), some (.int (s + 2 * h)), some (Q2 lu), some (Q2 fe), some (Q2 ot), some (Q2 sh), some (Q2 op), some (Q2 (if wordL hb s h = "open" then op else sh))] (stP Q2 st found) = .ok (.nx [x0, some (.str hb), some (.ref st.length), some (.int h), some (.int s), some (.int (s + 2 * h)), some (Q2 lu), some (Q2 fe), some (Q2 ot), some (Q2 sh), some (Q2 op), some (Q2 b1)]) (stP Q2 st found) := by
          have z := law_times_ok (st := stP Q2 st found) h6
          simp only [xm2bbe7, q_asg, q_call, q_cons, q_op, q_var, q_c, q_nil, List.getElem?_cons_succ, List.getElem?_cons_zero, lkD_some, R.bind_ok, dm, List.length_cons, List.length_nil, if_true, law_low_ok h5, z, R.bindS_ok, q_gN, List.set_cons_succ, List.set_cons_zero, asgK_ok]
        have e8 : xm2bbe8 [x0, some (.str hb), some (.ref st.length), some (.int h), some (.int s), some (.int (s + 2 * h)), some (Q2 lu), some (Q2 fe), some (Q2 ot), some (Q2 sh), some (Q2 op), some (Q2 b1)] (stP Q2 st found) = .ok (.nx [x0, some (.str hb), some (.ref st.length), some (.int h), some (.int s), some (.int (s + 2 * h)), some (Q2 lu), some (Q2 fe), some (Q2 ot), some (Q2 sh), some (Q2 op), some (Q2 b2)]) (stP Q2 st found) := by
          unfold mnLast at h7
          by_cases hh : (0 : Int) < s
          · rw [if_pos hh] at h7
            simp only [Option.bind_eq_some_iff] at h7
            obtain ⟨q2, g0, z, g1, t, g2, g3⟩ := h7
            have G1 := getP (f := Q2) (st := st) g1
            have hh2 : 0 < s := by omega
            simp [xm2bbe8, hh2, G1, law_low_ok g0, law_times_ok g2, law_plus_ok g3]
          · rw [if_neg hh] at h7
            cases h7
            have hh2 : ¬ 0 < s := by omega
            simp [xm2bbe8, hh2]
        have e9 : xm2bbe9 [x0, some (.str hb), some (.ref st.length), some (.int h), some (.int s), some (.int (s + 2 * h)), some (Q2 lu), some (Q2 fe), some (Q2 ot), some (Q2 sh), some (Q2 op), some (Q2 b2)] (stP Q2 st found) = .ok (.nx [x0, some (.str hb), some (.ref st.length), some (.int h), some (.int s), some (.int (s + 2 * h)), some (Q2 lu), some (Q2 fe), some (Q2 ot), some (Q2 sh), some (Q2 op), some (Q2 b2)]) (stP Q2 st (putG found ((s : Int), h) q)) := by
          have p := putP (ρ := [x0, some (.str hb), some (.ref st.length), some (.int h), some (.int s), some (.int (s + 2 * h)), some (Q2 lu), some (Q2 fe), some (Q2 ot), some (Q2 sh), some (Q2 op), some (Q2 b2)]) (st := st) (f := Q2) (l := found) (a := s) (b := h) (v := q) hl low_Q2'
          simp [xm2bbe9, M8]
          simpa using p
        have ec : mTst (mOp dEq (mVar 3) (mC (.int 0))) [x0, some (.str hb), some (.ref st.length), some (.int h), some (.int s), x5, x6, x7, x8, x9, x10, x11] (stP Q2 st found) = .ok false (stP Q2 st found) := by simp [h0]
        rw [xm2bb, q_ifS, ec, ifKS_ok, if_neg (by decide), xm2bbe, q_seq, e1, seqK_nx, q_seq, e2, seqK_nx, q_seq, e3, seqK_nx, q_seq, e4, seqK_nx, q_seq, e5, seqK_nx, q_seq, e6, seqK_nx, q_seq, e7, seqK_nx, q_seq, e8, seqK_nx, e9]
      · cases em
  · cases e
end
end K79

end

section
set_option maxRecDepth 100000
set_option Elab.async false
set_option linter.all false
set_option maxHeartbeats 2000000
namespace K79
open PySem PySem.Spec PyProof.Rows L2 DM
section
variable {st : Sto}
theorem rng_ok {M h : Nat} (hM : M < 100) (hh : h ≤ M) : rng1K [.int ((M : Int) - h + 1)] st = .ok (rngD 0 (M - h + 1)) st := by
  rw [rng1K_ok (decide_eq_true ⟨by omega, by omega⟩)]
  have : ((M : Int) - h + 1).toNat = M - h + 1 := by omega
  rw [this]
theorem rng_ok1 {M : Nat} (hM : M < 100) : rng1K [.int ((M : Int) + 1)] st = .ok (rngD 0 (M + 1)) st := by
  rw [rng1K_ok (decide_eq_true ⟨by omega, by omega⟩)]
  have : ((M : Int) + 1).toNat = M + 1 := by omega
  rw [this]
theorem rng_M {M : Nat} {ρ : En} (hM : M < 100) : mRng1 (mCons (mOp dAdd (mVar 0) (mC (D.int 1))) mNil) (some (.int M) :: ρ) st = .ok (rngD 0 (M + 1)) st := by
  rw [q_rng1, q_cons, q_op, q_var, List.getElem?_cons_zero, lkD_some, R.bind_ok, q_c, R.bind_ok, dAdd_ok, R.bind_ok, q_nil, R.bind_ok, R.bind_ok, rng_ok1 hM]
/-! means -/
def mnR (hb : Str) (M : Nat) (found : FQ) (h : Nat) : Option FQ := if h ≤ M then (List.range (M - h + 1)).foldlM (mnS hb h) found else none
def mnT (M : Nat) (hb : Str) : Option FQ := (List.range (M + 1)).foldlM (mnR hb M) []
theorem mn_row {M h : Nat} {hb : Str} {s s' : FQ} (hM : M < 100) (hs : SeqAt.shaped (.str hb) = true) (hh : mnR hb M s h = some s') {y4 y5 y6 y7 y8 y9 y10 y11 : Option D} :
    ∃ z4 z5 z6 z7 z8 z9 z10 z11, xm2b [some (.int M), some (.str hb), some (.ref st.length), some (.int h), y4, y5, y6, y7, y8, y9, y10, y11] (stP Q2 st s) = .ok (.nx [some (.int M), some (.str hb), some (.ref st.length), some (.int h), z4, z5, z6, z7, z8, z9, z10, z11]) (stP Q2 st s') := by
  unfold mnR at hh
  split at hh
  · rename_i hle
    obtain ⟨ρ3, st3, q1, q2, z4, z5, z6, z7, z8, z9, z10, z11, q3⟩ := for_range (g := gN 4) (b := xm2bb)
      (fun s ρ st1 => st1 = stP Q2 st s ∧ ∃ y4 y5 y6 y7 y8 y9 y10 y11, ρ = [some (.int M), some (.str hb), some (.ref st.length), some (.int h), y4, y5, y6, y7, y8, y9, y10, y11]) (mnS hb h) (by
        rintro s x ρ st1 s' ⟨rfl, y4, y5, y6, y7, y8, y9, y10, y11, rfl⟩ hx
        obtain ⟨w5, w6, w7, w8, w9, w10, w11, hw⟩ := mn_step (st := st) hs hx (x0 := some (.int M)) (x5 := y5) (x6 := y6) (x7 := y7) (x8 := y8) (x9 := y9) (x10 := y10) (x11 := y11)
        exact ⟨_, _, _, _, rfl, hw, rfl, _, _, _, _, _, _, _, _, rfl⟩) (M - h + 1) s [some (.int M), some (.str hb), some (.ref st.length), some (.int h), y4, y5, y6, y7, y8, y9, y10, y11] _ s' ⟨rfl, _, _, _, _, _, _, _, _, rfl⟩ hh
    subst q2 q3
    refine ⟨z4, z5, z6, z7, z8, z9, z10, z11, ?_⟩
    rw [xm2b, q_for]
    simp only [q_rng1, q_cons, q_op, q_var, q_c, q_nil, List.set_cons_succ, List.set_cons_zero, List.getElem?_cons_succ, List.getElem?_cons_zero, lkD_some, R.bind_ok, dSub_ok, dAdd_ok, rng_ok hM hle, R.bindS_ok]
    exact q1
  · cases hh
theorem mn_rows {M : Nat} {hb : Str} {t : FQ} (hM : M < 100) (hs : SeqAt.shaped (.str hb) = true) (e : mnT M hb = some t) :
    ∃ z3 z4 z5 z6 z7 z8 z9 z10 z11, xm2 [some (.int M), some (.str hb), some (.ref st.length), none, none, none, none, none, none, none, none, none] (stP Q2 st []) = .ok (.nx [some (.int M), some (.str hb), some (.ref st.length), z3, z4, z5, z6, z7, z8, z9, z10, z11]) (stP Q2 st t) := by
  obtain ⟨ρ2, st2, h1, h2, y3, y4, y5, y6, y7, y8, y9, y10, y11, h3⟩ := for_range (g := gN 3) (b := xm2b)
    (fun s ρ st1 => st1 = stP Q2 st s ∧ ∃ y3 y4 y5 y6 y7 y8 y9 y10 y11, ρ = [some (.int M), some (.str hb), some (.ref st.length), y3, y4, y5, y6, y7, y8, y9, y10, y11]) (mnR hb M) (by
      rintro s h ρ st1 s' ⟨rfl, y3, y4, y5, y6, y7, y8, y9, y10, y11, rfl⟩ hh
      obtain ⟨z4, z5, z6, z7, z8, z9, z10, z11, q1⟩ := mn_row (st := st) hM hs hh (y4 := y4) (y5 := y5) (y6 := y6) (y7 := y7) (y8 := y8) (y9 := y9) (y10 := y10) (y11 := y11)
      exact ⟨_, _, _, _, rfl, q1, rfl, some (.int h), z4, z5, z6, z7, z8, z9, z10, z11, rfl⟩) (M + 1) [] [some (.int M), some (.str hb), some (.ref st.length), none, none, none, none, none, none, none, none, none] (stP Q2 st []) t ⟨rfl, _, _, _, _, _, _, _, _, _, rfl⟩ e
  subst h2 h3
  refine ⟨y3, y4, y5, y6, y7, y8, y9, y10, y11, ?_⟩
  rw [xm2, q_for, rng_M hM]
  exact h1
theorem law_means_ok {M : Nat} {hb : Str} {t : FQ} (hM : M < 100) (hs : SeqAt.shaped (.str hb) = true) (e : mnT M hb = some t) : m__law_means [.int M, .str hb] st = .ok (.dxt (dicG kP Q2 t)) st := by
  obtain ⟨y3, y4, y5, y6, y7, y8, y9, y10, y11, e2⟩ := mn_rows (st := st) hM hs e
  have e1 : xm1 (startM 12 [.int M, .str hb]) st = .ok (.nx [some (.int M), some (.str hb), some (.ref st.length), none, none, none, none, none, none, none, none, none]) (stP Q2 st []) := by
    simp [xm1, startM, mDNewX, stP]
  unfold m__law_means
  rw [fn_rt (d := .ref st.length) (st' := stP Q2 st t)]
  · unfold sealR
    simp [stP, low_dicG Q2 low_Q2']
  · rw [xm_eq, xm, q_seq, e1, seqK_nx, q_seq, e2, seqK_nx, xm3]
    simp
/-! worst -/
abbrev FI := List ((Int × Int) × Int)
def wsShut (found : FI) (s h : Int) : Option (List Int) := (lookG found (s, h - 1)).bind fun a => (if 1 < h then (lookG found (s + 2, h - 2)).bind fun o => some [o] else some []).bind fun l => some ((a :: if 0 < s then [a + 1] else []) ++ l)
def wsB (found : FI) (s h : Int) (l : List Int) : Option Int := if 0 < s then (lookG found (s + 1, h - 1)).bind fun o => some (if o < maxI l then o else maxI l) else some (maxI l)
def wsL (found : FI) (s h : Int) : Option Int := (wsShut found s h).bind fun l => (wsB found s h l).bind fun b => (if 0 < s then (lookG found (s - 1, h)).bind fun z => some [z] else some []).bind fun l2 => some (1 + maxI (b :: l2))
def wsS (h : Int) (found : FI) (s : Nat) : Option FI := if found.length < 1000 then (if h = 0 then some (putG found ((s : Int), 0) (s : Int)) else (wsL found s h).bind fun q => some (putG found ((s : Int), h) q)) else none
abbrev xw1 : MS := (mAsg mDNewX (gN 1))
abbrev xw2bbt : MS := (mDPut (mVar 1) (mTup (mCons (mVar 3) (mCons (mC (.int 0)) mNil))) (mVar 3))
abbrev xw2bbe1 : MS := (mAsg (mOp dAdd (mOp dAdd (mLst (mCons (mDGet (mVar 1) (mTup (mCons (mVar 3) (mCons (mOp dSub (mVar 2) (mC (.int 1))) mNil)))) mNil)) (mIf (mTst (mOp dGt (mVar 3) (mC (.int 0)))) (mLst (mCons (mOp dAdd (mDGet (mVar 1) (mTup (mCons (mVar 3) (mCons (mOp dSub (mVar 2) (mC (.int 1))) mNil)))) (mC (.int 1))) mNil)) (mLst mNil))) (mIf (mTst (mOp dGt (mVar 2) (mC (.int 1)))) (mLst (mCons (mDGet (mVar 1) (mTup (mCons (mOp dAdd (mVar 3) (mC (.int 2))) (mCons (mOp dSub (mVar 2) (mC (.int 2))) mNil)))) mNil)) (mLst mNil))) (gN 4))
abbrev xw2bbe2 : MS := (mAsg (mIf (mTst (mOp dGt (mVar 3) (mC (.int 0)))) (mBi dMin2 (mCons (mBi dMaxL (mCons (mVar 4) mNil)) (mCons (mDGet (mVar 1) (mTup (mCons (mOp dAdd (mVar 3) (mC (.int 1))) (mCons (mOp dSub (mVar 2) (mC (.int 1))) mNil)))) mNil))) (mBi dMaxL (mCons (mVar 4) mNil))) (gN 5))
abbrev xw2bbe3 : MS := (mDPut (mVar 1) (mTup (mCons (mVar 3) (mCons (mVar 2) mNil))) (mOp dAdd (mC (.int 1)) (mBi dMaxL (mCons (mOp dAdd (mLst (mCons (mVar 5) mNil)) (mIf (mTst (mOp dGt (mVar 3) (mC (.int 0)))) (mLst (mCons (mDGet (mVar 1) (mTup (mCons (mOp dSub (mVar 3) (mC (.int 1))) (mCons (mVar 2) mNil)))) mNil)) (mLst mNil))) mNil))))
abbrev xw2bbe : MS := (mSeq xw2bbe1 (mSeq xw2bbe2 xw2bbe3))
abbrev xw2bb : MS := mIfS (mTst (mOp dEq (mVar 2) (mC (.int 0)))) xw2bbt xw2bbe
abbrev xw2b : MS := mFor (mRng1 (mCons (mOp dAdd (mOp dSub (mVar 0) (mVar 2)) (mC (.int 1))) mNil)) (gN 3) xw2bb
abbrev xw2 : MS := mFor (mRng1 (mCons (mOp dAdd (mVar 0) (mC (.int 1))) mNil)) (gN 2) xw2b
abbrev xw3 : MS := (mRet (mVar 1))
abbrev xw : MS := (mSeq xw1 (mSeq xw2 xw3))
theorem xw_eq : b__law_worst = xw := rfl

theorem low_dI (q : Int) (n : Nat) : lowD n (dI q) = true := rfl
theorem add_ints {a b : List Int} (h : a.length + b.length < 1000) : dAdd (.lst (a.map D.int)) (.lst (b.map D.int)) st = .ok (.lst ((a ++ b).map D.int)) st := by
  rw [dAdd_lst2 (by simpa using h), List.map_append]
theorem ws_step {found found' : FI} {s : Nat} {h : Int} {x0 x4 x5 : Option D} (e : wsS h found s = some found') :
    ∃ y4 y5, xw2bb [x0, some (.ref st.length), some (.int h), some (.int s), x4, x5] (stP dI st found) = .ok (.nx [x0, some (.ref st.length), some (.int h), some (.int s), y4, y5]) (stP dI st found') := by
  unfold wsS at e
  split at e
  · rename_i hl
    by_cases h0 : h = 0
    · rw [if_pos h0] at e
      cases e
      subst h0
      have p := putP (ρ := [x0, some (.ref st.length), some (.int 0), some (.int s), x4, x5]) (st := st) (f := dI) (l := found) (a := s) (b := 0) (v := (s : Int)) hl low_dI
      exact ⟨x4, x5, by
        simp only [xw2bb, q_ifS, q_tst, q_op, q_var, q_c, q_dput, q_tup, q_cons, q_nil, List.getElem?_cons_succ, List.getElem?_cons_zero, lkD_some, R.bind_ok, R.bindS_ok, dEq_int, decide_true, tsB_bl, ifKS_ok, if_true, szOk2]
        exact p⟩
    · rw [if_neg h0] at e
      simp only [Option.bind_eq_some_iff] at e
      obtain ⟨q, em, e⟩ := e
      cases e
      simp only [wsL, Option.bind_eq_some_iff] at em
      obtain ⟨l, h1, b, h2, l2, h3, em⟩ := em
      cases em
      simp only [wsShut, Option.bind_eq_some_iff] at h1
      obtain ⟨a, ga, lo, go, h1⟩ := h1
      cases h1
      have GA := getP (f := dI) (st := st) ga
      have hlo : lo.length ≤ 1 := by
        split at go
        · simp only [Option.bind_eq_some_iff] at go
          obtain ⟨o, _, go⟩ := go
          cases go
          simp
        · cases go; simp
      have hl2 : l2.length ≤ 1 := by
        split at h3
        · simp only [Option.bind_eq_some_iff] at h3
          obtain ⟨o, _, h3⟩ := h3
          cases h3
          simp
        · cases h3; simp
      refine ⟨some (.lst (((a :: if (0 : Int) < s then [a + 1] else []) ++ lo).map D.int)), some (.int b), ?_⟩
      generalize hL : ((a :: if (0 : Int) < s then [a + 1] else []) ++ lo) = L at h2
      have hLn : L ≠ [] := by rw [← hL]; simp
      have hs0 : ∀ st, (mLst (mCons (mDGet (mVar 1) (mTup (mCons (mVar 3) (mCons (mOp dSub (mVar 2) (mC (.int 1))) mNil)))) mNil)) [x0, some (.ref st.length), some (.int h), some (.int s), x4, x5] (stP dI st found) = .ok (.lst ([a].map D.int)) (stP dI st found) := fun st => by
        have GA := getP (f := dI) (st := st) ga
        simp [GA]
      have e1 : xw2bbe1 [x0, some (.ref st.length), some (.int h), some (.int s), x4, x5] (stP dI st found) = .ok (.nx [x0, some (.ref st.length), some (.int h), some (.int s), some (.lst (L.map D.int)), x5]) (stP dI st found) := by
        have p2 : (mIf (mTst (mOp dGt (mVar 3) (mC (.int 0)))) (mLst (mCons (mOp dAdd (mDGet (mVar 1) (mTup (mCons (mVar 3) (mCons (mOp dSub (mVar 2) (mC (.int 1))) mNil)))) (mC (.int 1))) mNil)) (mLst mNil)) [x0, some (.ref st.length), some (.int h), some (.int s), x4, x5] (stP dI st found) = .ok (.lst ((if (0 : Int) < s then [a + 1] else []).map D.int)) (stP dI st found) := by
          by_cases hh : (0 : Int) < s
          · have hh2 : 0 < s := by omega
            simp [hh2, GA]
          · have hh2 : ¬ 0 < s := by omega
            simp [hh2]
        have p3 : (mIf (mTst (mOp dGt (mVar 2) (mC (.int 1)))) (mLst (mCons (mDGet (mVar 1) (mTup (mCons (mOp dAdd (mVar 3) (mC (.int 2))) (mCons (mOp dSub (mVar 2) (mC (.int 2))) mNil)))) mNil)) (mLst mNil)) [x0, some (.ref st.length), some (.int h), some (.int s), x4, x5] (stP dI st found) = .ok (.lst (lo.map D.int)) (stP dI st found) := by
          by_cases hh : 1 < h
          · rw [if_pos hh] at go
            simp only [Option.bind_eq_some_iff] at go
            obtain ⟨o, g1, go⟩ := go
            cases go
            have G1 := getP (f := dI) (st := st) g1
            simp [hh, G1]
          · rw [if_neg hh] at go
            cases go
            simp [hh]
        have a1 := add_ints (st := stP dI st found) (a := [a]) (b := if (0 : Int) < s then [a + 1] else []) (by split <;> simp)
        have a2 := add_ints (st := stP dI st found) (a := [a] ++ if (0 : Int) < s then [a + 1] else []) (b := lo) (by split <;> simp <;> omega)
        rw [xw2bbe1, q_asg, q_op, q_op, hs0 st]
        simp only [R.bind_ok]
        rw [p2]
        simp only [R.bind_ok]
        rw [a1]
        simp only [R.bind_ok]
        rw [p3]
        simp only [R.bind_ok]
        rw [a2, ← hL]
        rfl
      have mx : dMaxL [.lst (L.map D.int)] (stP dI st found) = .ok (.int (maxI L)) (stP dI st found) := ext_lst hLn
      have e2 : xw2bbe2 [x0, some (.ref st.length), some (.int h), some (.int s), some (.lst (L.map D.int)), x5] (stP dI st found) = .ok (.nx [x0, some (.ref st.length), some (.int h), some (.int s), some (.lst (L.map D.int)), some (.int b)]) (stP dI st found) := by
        unfold wsB at h2
        by_cases hh : (0 : Int) < s
        · rw [if_pos hh] at h2
          simp only [Option.bind_eq_some_iff] at h2
          obtain ⟨o, g1, h2⟩ := h2
          cases h2
          have G1 := getP (f := dI) (st := st) g1
          have hh2 : 0 < s := by omega
          have mn : dMin2 [.int (maxI L), .int o] (stP dI st found) = .ok (.int (if o < maxI L then o else maxI L)) (stP dI st found) := rfl
          simp [xw2bbe2, hh2, G1, mx, mn]
        · rw [if_neg hh] at h2
          cases h2
          have hh2 : ¬ 0 < s := by omega
          simp [xw2bbe2, hh2, mx]
      have e3 : xw2bbe3 [x0, some (.ref st.length), some (.int h), some (.int s), some (.lst (L.map D.int)), some (.int b)] (stP dI st found) = .ok (.nx [x0, some (.ref st.length), some (.int h), some (.int s), some (.lst (L.map D.int)), some (.int b)]) (stP dI st (putG found ((s : Int), h) (1 + maxI (b :: l2)))) := by
        have p3 : (mIf (mTst (mOp dGt (mVar 3) (mC (.int 0)))) (mLst (mCons (mDGet (mVar 1) (mTup (mCons (mOp dSub (mVar 3) (mC (.int 1))) (mCons (mVar 2) mNil)))) mNil)) (mLst mNil)) [x0, some (.ref st.length), some (.int h), some (.int s), some (.lst (L.map D.int)), some (.int b)] (stP dI st found) = .ok (.lst (l2.map D.int)) (stP dI st found) := by
          by_cases hh : (0 : Int) < s
          · rw [if_pos hh] at h3
            simp only [Option.bind_eq_some_iff] at h3
            obtain ⟨o, g1, h3⟩ := h3
            cases h3
            have G1 := getP (f := dI) (st := st) g1
            have hh2 : 0 < s := by omega
            simp [hh2, G1]
          · rw [if_neg hh] at h3
            cases h3
            have hh2 : ¬ 0 < s := by omega
            simp [hh2]
        have p := putP (ρ := [x0, some (.ref st.length), some (.int h), some (.int s), some (.lst (L.map D.int)), some (.int b)]) (st := st) (f := dI) (l := found) (a := s) (b := h) (v := 1 + maxI (b :: l2)) hl low_dI
        have a1 : dAdd (.lst [.int b]) (.lst (l2.map D.int)) (stP dI st found) = .ok (.lst ((b :: l2).map D.int)) (stP dI st found) := add_ints (a := [b]) (b := l2) (by simp; omega)
        have m2 : dMaxL [.lst ((b :: l2).map D.int)] (stP dI st found) = .ok (.int (maxI (b :: l2))) (stP dI st found) := ext_lst (by simp)
        rw [xw2bbe3, q_dput, q_op, q_c, R.bind_ok, q_bi, q_cons, q_op]
        simp only [q_lst, q_cons, q_nil, q_var, q_tup, q_c, List.getElem?_cons_succ, List.getElem?_cons_zero, lkD_some, R.bind_ok, szOk1, if_true]
        rw [p3]
        simp only [R.bind_ok]
        rw [a1]
        simp only [R.bind_ok]
        rw [m2]
        simp only [R.bind_ok, dAdd_ok, R.bindS_ok, szOk2, if_true]
        exact p
      have ec : mTst (mOp dEq (mVar 2) (mC (.int 0))) [x0, some (.ref st.length), some (.int h), some (.int s), x4, x5] (stP dI st found) = .ok false (stP dI st found) := by simp [h0]
      rw [xw2bb, q_ifS, ec, ifKS_ok, if_neg (by decide), xw2bbe, q_seq, e1, seqK_nx, q_seq, e2, seqK_nx, e3]
  · cases e
def wsR (M : Nat) (found : FI) (h : Nat) : Option FI := if h ≤ M then (List.range (M - h + 1)).foldlM (wsS h) found else none
def wsT (M : Nat) : Option FI := (List.range (M + 1)).foldlM (wsR M) []
theorem law_worst_ok {M : Nat} {t : FI} (hM : M < 100) (e : wsT M = some t) : m__law_worst [.int M] st = .ok (.dxt (dicG kP dI t)) st := by
  obtain ⟨ρ2, st2, h1, h2, y2, y3, y4, y5, rfl⟩ := for_range (g := gN 2) (b := xw2b)
    (fun s ρ st1 => st1 = stP dI st s ∧ ∃ y2 y3 y4 y5, ρ = [some (.int M), some (.ref st.length), y2, y3, y4, y5]) (wsR M) (by
      rintro s h ρ st1 s' ⟨rfl, y2, y3, y4, y5, rfl⟩ hh
      unfold wsR at hh
      split at hh
      · rename_i hle
        obtain ⟨ρ3, st3, q1, q2, z3, z4, z5, rfl⟩ := for_range (g := gN 3) (b := xw2bb)
          (fun s ρ st1 => st1 = stP dI st s ∧ ∃ y3 y4 y5, ρ = [some (.int M), some (.ref st.length), some (.int h), y3, y4, y5]) (wsS h) (by
            rintro s x ρ st1 s' ⟨rfl, y3, y4, y5, rfl⟩ hx
            obtain ⟨w4, w5, hw⟩ := ws_step (st := st) hx (x0 := some (.int M)) (x4 := y4) (x5 := y5)
            exact ⟨_, _, _, _, rfl, hw, rfl, _, _, _, rfl⟩) (M - h + 1) s [some (.int M), some (.ref st.length), some (.int h), y3, y4, y5] _ s' ⟨rfl, _, _, _, rfl⟩ hh
        subst q2
        refine ⟨_, _, _, _, rfl, ?_, rfl, some (.int h), z3, z4, z5, rfl⟩
        rw [xw2b, q_for]
        simp only [q_rng1, q_cons, q_op, q_var, q_c, q_nil, List.set_cons_succ, List.set_cons_zero, List.getElem?_cons_succ, List.getElem?_cons_zero, lkD_some, R.bind_ok, dSub_ok, dAdd_ok, rng_ok hM hle, R.bindS_ok]
        exact q1
      · cases hh) (M + 1) [] [some (.int M), some (.ref st.length), none, none, none, none] (stP dI st []) t ⟨rfl, _, _, _, _, rfl⟩ e
  subst h2
  have e1 : xw1 (startM 6 [.int M]) st = .ok (.nx [some (.int M), some (.ref st.length), none, none, none, none]) (stP dI st []) := by
    simp [xw1, startM, mDNewX, stP]
  have e2 : xw2 [some (.int M), some (.ref st.length), none, none, none, none] (stP dI st []) = .ok (.nx [some (.int M), some (.ref st.length), y2, y3, y4, y5]) (stP dI st t) := by
    rw [xw2, q_for, rng_M hM]
    exact h1
  unfold m__law_worst
  rw [fn_rt (d := .ref st.length) (st' := stP dI st t)]
  · unfold sealR
    simp [stP, low_dicG dI low_dI]
  · rw [xw_eq, xw, q_seq, e1, seqK_nx, q_seq, e2, seqK_nx, xw3]
    simp
end
end K79

end

section
set_option maxRecDepth 100000
set_option Elab.async false
set_option linter.all false
set_option maxHeartbeats 2000000
namespace K79
open PySem PySem.Spec PyProof.Rows L2 DM
section
variable {st : Sto}
/-! gains -/
def gnShut2 (found : FQ) (s h : Int) (ot sh : QQ) : Option QQ := if 1 < h then (lookG found (s + 2, h - 2)).bind fun o => (mulL ot o).bind fun t => subL sh t else some sh
def gnPick (s : Int) (sh op : QQ) : Option QQ := if 0 < s then (upL sh op).bind fun c => some (if c = true then op else sh) else some sh
def gnLast (found : FQ) (s h : Int) (b : QQ) : Option QQ := if 0 < s then (lowO s (s + 2 * h)).bind fun q => (lookG found (s - 1, h)).bind fun z => (addL (1, 1) z).bind fun w => (mulL q w).bind fun t => addL b t else some b
def gnL (found : FQ) (s h : Int) : Option QQ := if okM 2 h = true then (lookG found (s, h - 1)).bind fun a => (addL (1, 1) a).bind fun mo => (brL s h).bind fun r => (mulL r.1 mo).bind fun t1 => (mulL r.2.1 mo).bind fun t2 => (subL t1 t2).bind fun s1 =>
  (gnShut2 found s h r.2.2 s1).bind fun sh => (lookG found (s + 1, h - 1)).bind fun o0 => (subL (0, 1) o0).bind fun op => (lowO (2 * h) (s + 2 * h)).bind fun q => (gnPick s sh op).bind fun pk => (mulL q pk).bind fun b1 => gnLast found s h b1 else none
def gnS (h : Int) (found : FQ) (s : Nat) : Option FQ := if found.length < 1000 then (if h = 0 then some (putG found ((s : Int), 0) ((s : Int), 1)) else (gnL found s h).bind fun q => some (putG found ((s : Int), h) q)) else none
abbrev xg1 : MS := (mAsg mDNewX (gN 1))
abbrev xg2bbt : MS := (mDPut (mVar 1) (mTup (mCons (mVar 3) (mCons (mC (.int 0)) mNil))) (mTup (mCons (mVar 3) (mCons (mC (.int 1)) mNil))))
abbrev xg2bbe1 : MS := (mPar 4 5 (mCons (mOp dAdd (mVar 3) (mOp dMul (mC (.int 2)) (mVar 2))) (mCons (mCall 2 m__law_plus (mCons (mTup (mCons (mC (.int 1)) (mCons (mC (.int 1)) mNil))) (mCons (mDGet (mVar 1) (mTup (mCons (mVar 3) (mCons (mOp dSub (mVar 2) (mC (.int 1))) mNil)))) mNil))) mNil)))
abbrev xg2bbe2 : MS := (mAsg (mCall 2 m__law_branches (mCons (mVar 3) (mCons (mVar 2) mNil))) (gTupM 3 (gConsM (gN 6) (gConsM (gN 7) (gConsM (gN 8) gNilM)))))
abbrev xg2bbe3 : MS := (mAsg (mCall 2 m__law_less (mCons (mCall 2 m__law_times (mCons (mVar 6) (mCons (mVar 5) mNil))) (mCons (mCall 2 m__law_times (mCons (mVar 7) (mCons (mVar 5) mNil))) mNil))) (gN 9))
abbrev xg2bbe4 : MS := (mAsg (mIf (mTst (mOp dGt (mVar 2) (mC (.int 1)))) (mCall 2 m__law_less (mCons (mVar 9) (mCons (mCall 2 m__law_times (mCons (mVar 8) (mCons (mDGet (mVar 1) (mTup (mCons (mOp dAdd (mVar 3) (mC (.int 2))) (mCons (mOp dSub (mVar 2) (mC (.int 2))) mNil)))) mNil))) mNil))) (mVar 9)) (gN 9))
abbrev xg2bbe5 : MS := (mAsg (mCall 2 m__law_less (mCons (mTup (mCons (mC (.int 0)) (mCons (mC (.int 1)) mNil))) (mCons (mDGet (mVar 1) (mTup (mCons (mOp dAdd (mVar 3) (mC (.int 1))) (mCons (mOp dSub (mVar 2) (mC (.int 1))) mNil)))) mNil))) (gN 10))
abbrev xg2bbe6 : MS := (mAsg (mCall 2 m__law_times (mCons (mCall 2 m__law_low (mCons (mOp dMul (mC (.int 2)) (mVar 2)) (mCons (mVar 4) mNil))) (mCons (mIf (mAnd (mTst (mOp dGt (mVar 3) (mC (.int 0)))) (mTst (mCall 2 m__law_up_to (mCons (mVar 9) (mCons (mVar 10) mNil))))) (mVar 10) (mVar 9)) mNil))) (gN 11))
abbrev xg2bbe7 : MS := (mIfS (mTst (mOp dGt (mVar 3) (mC (.int 0)))) (mAsg (mCall 2 m__law_plus (mCons (mVar 11) (mCons (mCall 2 m__law_times (mCons (mCall 2 m__law_low (mCons (mVar 3) (mCons (mVar 4) mNil))) (mCons (mCall 2 m__law_plus (mCons (mTup (mCons (mC (.int 1)) (mCons (mC (.int 1)) mNil))) (mCons (mDGet (mVar 1) (mTup (mCons (mOp dSub (mVar 3) (mC (.int 1))) (mCons (mVar 2) mNil)))) mNil))) mNil))) mNil))) (gN 11)) mNext)
abbrev xg2bbe8 : MS := (mDPut (mVar 1) (mTup (mCons (mVar 3) (mCons (mVar 2) mNil))) (mVar 11))
abbrev xg2bbe : MS := (mSeq xg2bbe1 (mSeq xg2bbe2 (mSeq xg2bbe3 (mSeq xg2bbe4 (mSeq xg2bbe5 (mSeq xg2bbe6 (mSeq xg2bbe7 xg2bbe8)))))))
abbrev xg2bb : MS := mIfS (mTst (mOp dEq (mVar 2) (mC (.int 0)))) xg2bbt xg2bbe
abbrev xg2b : MS := mFor (mRng1 (mCons (mOp dAdd (mOp dSub (mVar 0) (mVar 2)) (mC (.int 1))) mNil)) (gN 3) xg2bb
abbrev xg2 : MS := mFor (mRng1 (mCons (mOp dAdd (mVar 0) (mC (.int 1))) mNil)) (gN 2) xg2b
abbrev xg3 : MS := (mRet (mVar 1))
abbrev xg : MS := (mSeq xg1 (mSeq xg2 xg3))
theorem xg_eq : b__law_gains = xg := rfl

theorem gn_step {found found' : FQ} {s : Nat} {h : Int} {x0 x4 x5 x6 x7 x8 x9 x10 x11 : Option D} (e : gnS h found s = some found') :
    ∃ y4 y5 y6 y7 y8 y9 y10 y11, xg2bb [x0, some (.ref st.length), some (.int h), some (.int s), x4, x5, x6, x7, x8, x9, x10, x11] (stP Q2 st found) = .ok (.nx [x0, some (.ref st.length), some (.int h), some (.int s), y4, y5, y6, y7, y8, y9, y10, y11]) (stP Q2 st found') := by
  unfold gnS at e
  split at e
  · rename_i hl
    by_cases h0 : h = 0
    · rw [if_pos h0] at e
      cases e
      subst h0
      have p := putP (ρ := [x0, some (.ref st.length), some (.int 0), some (.int s), x4, x5, x6, x7, x8, x9, x10, x11]) (st := st) (f := Q2) (l := found) (a := s) (b := 0) (v := ((s : Int), 1)) hl low_Q2'
      exact ⟨x4, x5, x6, x7, x8, x9, x10, x11, by
        simp only [xg2bb, q_ifS, q_tst, q_op, q_var, q_c, q_dput, q_tup, q_cons, q_nil, List.getElem?_cons_succ, List.getElem?_cons_zero, lkD_some, R.bind_ok, R.bindS_ok, dEq_int, decide_true, tsB_bl, ifKS_ok, if_true, szOk2]
        exact p⟩
    · rw [if_neg h0] at e
      simp only [Option.bind_eq_some_iff] at e
      obtain ⟨q, em, e⟩ := e
      cases e
      unfold gnL at em
      split at em
      · rename_i c2
        simp only [Option.bind_eq_some_iff] at em
        obtain ⟨a, ga, mo, h1, ⟨lu, fe, ot⟩, h2, t1, h3, t2, h4, s1, h5, sh, h6, o0, g7, op, h8, q', h9, pk, h10, b1, h11, h12⟩ := em
        have GA := getP (f := Q2) (st := st) ga
        have GO := getP (f := Q2) (st := st) g7
        have M1 : m__law_plus [.tup [.int 1, .int 1], Q2 a] (stP Q2 st found) = .ok (Q2 mo) (stP Q2 st found) := law_plus_ok (st := stP Q2 st found) h1
        have M8 : m__law_less [.tup [.int 0, .int 1], Q2 o0] (stP Q2 st found) = .ok (Q2 op) (stP Q2 st found) := law_less_ok (st := stP Q2 st found) h8
        have dm : ∀ st, dMul (.int 2) (.int h) st = .ok (.int (2 * h)) st := fun st => dMul_ok c2
        refine ⟨some (.int (s + 2 * h)), some (Q2 mo), some (Q2 lu), some (Q2 fe), some (Q2 ot), some (Q2 sh), some (Q2 op), some (Q2 q), ?_⟩
        have e1 : xg2bbe1 [x0, some (.ref st.length), some (.int h), some (.int s), x4, x5, x6, x7, x8, x9, x10, x11] (stP Q2 st found) = .ok (.nx [x0, some (.ref st.length), some (.int h), some (.int s), some (.int (s + 2 * h)), some (Q2 mo), x6, x7, x8, x9, x10, x11]) (stP Q2 st found) := by
          simp [xg2bbe1, dm, GA, M1]
        have e2 : xg2bbe2 [x0, some (.ref st.length), some (.int h), some (.int s), some (.int (s + 2 * h)), some (Q2 mo), x6, x7, x8, x9, x10, x11] (stP Q2 st found) = .ok (.nx [x0, some (.ref st.length), some (.int h), some (.int s), some (.int (s + 2 * h)), some (Q2 mo), some (Q2 lu), some (Q2 fe), some (Q2 ot), x9, x10, x11]) (stP Q2 st found) := by
          simp [xg2bbe2, law_branches_ok h2]
        have e3 : xg2bbe3 [x0, some (.ref st.length), some (.int h), some (.int s), some (.int (s + 2 * h)), some (Q2 mo), some (Q2 lu), some (Q2 fe), some (Q2 ot), x9, x10, x11] (stP Q2 st found) = .ok (.nx [x0, some (.ref st.length), some (.int h), some (.int s), some (.int (s + 2 * h)), some (Q2 mo), some (Q2 lu), some (Q2 fe), some (Q2 ot), some (Q2 s1), x10, x11]) (stP Q2 st found) := by
          simp [xg2bbe3, law_times_ok h3, law_times_ok h4, law_less_ok h5]
        have e4 : xg2bbe4 [x0, some (.ref st.length), some (.int h), some (.int s), some (.int (s + 2 * h)), some (Q2 mo), some (Q2 lu), some (Q2 fe), some (Q2 ot), some (Q2 s1), x10, x11] (stP Q2 st found) = .ok (.nx [x0, some (.ref st.length), some (.int h), some (.int s), some (.int (s + 2 * h)), some (Q2 mo), some (Q2 lu), some (Q2 fe), some (Q2 ot), some (Q2 sh), x10, x11]) (stP Q2 st found) := by
          unfold gnShut2 at h6
          by_cases hh : 1 < h
          · rw [if_pos hh] at h6
            simp only [Option.bind_eq_some_iff] at h6
            obtain ⟨o, g1, t, g2, g3⟩ := h6
            have G1 := getP (f := Q2) (st := st) g1
            simp [xg2bbe4, hh, G1, law_times_ok g2, law_less_ok g3]
          · rw [if_neg hh] at h6
            cases h6
            simp [xg2bbe4, hh]
        have e5 : xg2bbe5 [x0, some (.ref st.length), some (.int h), some (.int s), some (.int (s + 2 * h)), some (Q2 mo), some (Q2 lu), some (Q2 fe), some (Q2 ot), some (Q2 sh), x10, x11] (stP Q2 st found) = .ok (.nx [x0, some (.ref st.length), some (.int h), some (.int s), some (.int (s + 2 * h)), some (Q2 mo), some (Q2 lu), some (Q2 fe), some (Q2 ot), some (Q2 sh), some (Q2 op), x11]) (stP Q2 st found) := by
          simp [xg2bbe5, GO, M8]
        have e6 : xg2bbe6 [x0, some (.ref st.length), some (.int h), some (.int s), some (.int (s + 2 * h)), some (Q2 mo), some (Q2 lu), some (Q2 fe), some (Q2 ot), some (Q2 sh), some (Q2 op), x11] (stP Q2 st found) = .ok (.nx [x0, some (.ref st.length), some (.int h), some (.int s), some (.int (s + 2 * h)), some (Q2 mo), some (Q2 lu), some (Q2 fe), some (Q2 ot), some (Q2 sh), some (Q2 op), some (Q2 b1)]) (stP Q2 st found) := by
          have z := law_times_ok (st := stP Q2 st found) h11
          have pkE : (mIf (mAnd (mTst (mOp dGt (mVar 3) (mC (.int 0)))) (mTst (mCall 2 m__law_up_to (mCons (mVar 9) (mCons (mVar 10) mNil))))) (mVar 10) (mVar 9)) [x0, some (.ref st.length), some (.int h), some (.int s), some (.int (s + 2 * h)), some (Q2 mo), some (Q2 lu), some (Q2 fe), some (Q2 ot), some (Q2 sh), some (Q2 op), x11] (stP Q2 st found) = .ok (Q2 pk) (stP Q2 st found) := by
            unfold gnPick at h10
            by_cases hh : (0 : Int) < s
            · rw [if_pos hh] at h10
              simp only [Option.bind_eq_some_iff] at h10
              obtain ⟨cc, hc, h10⟩ := h10
              cases h10
              have hh2 : 0 < s := by omega
              cases cc <;> simp [hh2, law_up_ok hc]
            · rw [if_neg hh] at h10
              cases h10
              have hh2 : ¬ 0 < s := by omega
              simp [hh2]
          rw [xg2bbe6, q_asg, q_call, q_cons, q_call, q_cons, q_op]
          simp only [q_cons, q_op, q_var, q_c, q_nil, List.getElem?_cons_succ, List.getElem?_cons_zero, lkD_some, R.bind_ok, dm, List.length_cons, List.length_nil, if_true, law_low_ok h9]
          rw [pkE]
          simp only [R.bind_ok, List.length_cons, List.length_nil, if_true, z, R.bindS_ok, q_gN, List.set_cons_succ, List.set_cons_zero, asgK_ok]
        have e7 : xg2bbe7 [x0, some (.ref st.length), some (.int h), some (.int s), some (.int (s + 2 * h)), some (Q2 mo), some (Q2 lu), some (Q2 fe), some (Q2 ot), some (Q2 sh), some (Q2 op), some (Q2 b1)] (stP Q2 st found) = .ok (.nx [x0, some (.ref st.length), some (.int h), some (.int s), some (.int (s + 2 * h)), some (Q2 mo), some (Q2 lu), some (Q2 fe), some (Q2 ot), some (Q2 sh), some (Q2 op), some (Q2 q)]) (stP Q2 st found) := by
          unfold gnLast at h12
          by_cases hh : (0 : Int) < s
          · rw [if_pos hh] at h12
            simp only [Option.bind_eq_some_iff] at h12
            obtain ⟨q2, g0, z, g1, w, gw, t, g2, g3⟩ := h12
            have G1 := getP (f := Q2) (st := st) g1
            have GW : m__law_plus [.tup [.int 1, .int 1], Q2 z] (stP Q2 st found) = .ok (Q2 w) (stP Q2 st found) := law_plus_ok (st := stP Q2 st found) gw
            have hh2 : 0 < s := by omega
            simp [xg2bbe7, hh2, G1, GW, law_low_ok g0, law_times_ok g2, law_plus_ok g3]
          · rw [if_neg hh] at h12
            cases h12
            have hh2 : ¬ 0 < s := by omega
            simp [xg2bbe7, hh2]
        have e8 : xg2bbe8 [x0, some (.ref st.length), some (.int h), some (.int s), some (.int (s + 2 * h)), some (Q2 mo), some (Q2 lu), some (Q2 fe), some (Q2 ot), some (Q2 sh), some (Q2 op), some (Q2 q)] (stP Q2 st found) = .ok (.nx [x0, some (.ref st.length), some (.int h), some (.int s), some (.int (s + 2 * h)), some (Q2 mo), some (Q2 lu), some (Q2 fe), some (Q2 ot), some (Q2 sh), some (Q2 op), some (Q2 q)]) (stP Q2 st (putG found ((s : Int), h) q)) := by
          have p := putP (ρ := [x0, some (.ref st.length), some (.int h), some (.int s), some (.int (s + 2 * h)), some (Q2 mo), some (Q2 lu), some (Q2 fe), some (Q2 ot), some (Q2 sh), some (Q2 op), some (Q2 q)]) (st := st) (f := Q2) (l := found) (a := s) (b := h) (v := q) hl low_Q2'
          simp [xg2bbe8]
          simpa using p
        have ec : mTst (mOp dEq (mVar 2) (mC (.int 0))) [x0, some (.ref st.length), some (.int h), some (.int s), x4, x5, x6, x7, x8, x9, x10, x11] (stP Q2 st found) = .ok false (stP Q2 st found) := by simp [h0]
        rw [xg2bb, q_ifS, ec, ifKS_ok, if_neg (by decide), xg2bbe, q_seq, e1, seqK_nx, q_seq, e2, seqK_nx, q_seq, e3, seqK_nx, q_seq, e4, seqK_nx, q_seq, e5, seqK_nx, q_seq, e6, seqK_nx, q_seq, e7, seqK_nx, e8]
      · cases em
  · cases e
def gnR (M : Nat) (found : FQ) (h : Nat) : Option FQ := if h ≤ M then (List.range (M - h + 1)).foldlM (gnS h) found else none
def gnT (M : Nat) : Option FQ := (List.range (M + 1)).foldlM (gnR M) []
theorem gn_row {M h : Nat} {s s' : FQ} (hM : M < 100) (hh : gnR M s h = some s') {y3 y4 y5 y6 y7 y8 y9 y10 y11 : Option D} :
    ∃ z3 z4 z5 z6 z7 z8 z9 z10 z11, xg2b [some (.int M), some (.ref st.length), some (.int h), y3, y4, y5, y6, y7, y8, y9, y10, y11] (stP Q2 st s) = .ok (.nx [some (.int M), some (.ref st.length), some (.int h), z3, z4, z5, z6, z7, z8, z9, z10, z11]) (stP Q2 st s') := by
  unfold gnR at hh
  split at hh
  · rename_i hle
    obtain ⟨ρ3, st3, q1, q2, z3, z4, z5, z6, z7, z8, z9, z10, z11, q3⟩ := for_range (g := gN 3) (b := xg2bb)
      (fun s ρ st1 => st1 = stP Q2 st s ∧ ∃ y3 y4 y5 y6 y7 y8 y9 y10 y11, ρ = [some (.int M), some (.ref st.length), some (.int h), y3, y4, y5, y6, y7, y8, y9, y10, y11]) (gnS h) (by
        rintro s x ρ st1 s' ⟨rfl, y3, y4, y5, y6, y7, y8, y9, y10, y11, rfl⟩ hx
        obtain ⟨w4, w5, w6, w7, w8, w9, w10, w11, hw⟩ := gn_step (st := st) hx (x0 := some (.int M)) (x4 := y4) (x5 := y5) (x6 := y6) (x7 := y7) (x8 := y8) (x9 := y9) (x10 := y10) (x11 := y11)
        exact ⟨_, _, _, _, rfl, hw, rfl, _, _, _, _, _, _, _, _, _, rfl⟩) (M - h + 1) s [some (.int M), some (.ref st.length), some (.int h), y3, y4, y5, y6, y7, y8, y9, y10, y11] _ s' ⟨rfl, _, _, _, _, _, _, _, _, _, rfl⟩ hh
    subst q2 q3
    refine ⟨z3, z4, z5, z6, z7, z8, z9, z10, z11, ?_⟩
    rw [xg2b, q_for]
    simp only [q_rng1, q_cons, q_op, q_var, q_c, q_nil, List.set_cons_succ, List.set_cons_zero, List.getElem?_cons_succ, List.getElem?_cons_zero, lkD_some, R.bind_ok, dSub_ok, dAdd_ok, rng_ok hM hle, R.bindS_ok]
    exact q1
  · cases hh
theorem gn_rows {M : Nat} {t : FQ} (hM : M < 100) (e : gnT M = some t) :
    ∃ z2 z3 z4 z5 z6 z7 z8 z9 z10 z11, xg2 [some (.int M), some (.ref st.length), none, none, none, none, none, none, none, none, none, none] (stP Q2 st []) = .ok (.nx [some (.int M), some (.ref st.length), z2, z3, z4, z5, z6, z7, z8, z9, z10, z11]) (stP Q2 st t) := by
  obtain ⟨ρ2, st2, h1, h2, y2, y3, y4, y5, y6, y7, y8, y9, y10, y11, h3⟩ := for_range (g := gN 2) (b := xg2b)
    (fun s ρ st1 => st1 = stP Q2 st s ∧ ∃ y2 y3 y4 y5 y6 y7 y8 y9 y10 y11, ρ = [some (.int M), some (.ref st.length), y2, y3, y4, y5, y6, y7, y8, y9, y10, y11]) (gnR M) (by
      rintro s h ρ st1 s' ⟨rfl, y2, y3, y4, y5, y6, y7, y8, y9, y10, y11, rfl⟩ hh
      obtain ⟨z3, z4, z5, z6, z7, z8, z9, z10, z11, q1⟩ := gn_row (st := st) hM hh (y3 := y3) (y4 := y4) (y5 := y5) (y6 := y6) (y7 := y7) (y8 := y8) (y9 := y9) (y10 := y10) (y11 := y11)
      exact ⟨_, _, _, _, rfl, q1, rfl, some (.int h), z3, z4, z5, z6, z7, z8, z9, z10, z11, rfl⟩) (M + 1) [] [some (.int M), some (.ref st.length), none, none, none, none, none, none, none, none, none, none] (stP Q2 st []) t ⟨rfl, _, _, _, _, _, _, _, _, _, _, rfl⟩ e
  subst h2 h3
  refine ⟨y2, y3, y4, y5, y6, y7, y8, y9, y10, y11, ?_⟩
  rw [xg2, q_for, rng_M hM]
  exact h1
theorem law_gains_ok {M : Nat} {t : FQ} (hM : M < 100) (e : gnT M = some t) : m__law_gains [.int M] st = .ok (.dxt (dicG kP Q2 t)) st := by
  obtain ⟨y2, y3, y4, y5, y6, y7, y8, y9, y10, y11, e2⟩ := gn_rows (st := st) hM e
  have e1 : xg1 (startM 12 [.int M]) st = .ok (.nx [some (.int M), some (.ref st.length), none, none, none, none, none, none, none, none, none, none]) (stP Q2 st []) := by
    simp [xg1, startM, mDNewX, stP]
  unfold m__law_gains
  rw [fn_rt (d := .ref st.length) (st' := stP Q2 st t)]
  · unfold sealR
    simp [stP, low_dicG Q2 low_Q2']
  · rw [xg_eq, xg, q_seq, e1, seqK_nx, q_seq, e2, seqK_nx, xg3]
    simp
/-! outs -/
def outM (p : T3) (hb : Str) : Option QQ := (mnT (p.2.1 + p.2.2).toNat hb).bind fun t => (lookG t (p.2.1, p.2.2)).bind fun q => addL (p.1, 1) q
def outW (p : T3) : Option Int := (wsT (p.2.1 + p.2.2).toNat).bind fun t => (lookG t (p.2.1, p.2.2)).bind fun q => some (p.1 + q)
def outG (p : T3) : Option QQ := (gnT (p.2.1 + p.2.2).toNat).bind fun t => (lookG t (p.2.1, p.2.2)).bind fun q => addL (p.1, 1) q
abbrev xo1 : MS := (mAsg (mVar 0) (gTupM 4 (gConsM (gTupM 3 (gConsM (gN 1) (gConsM (gN 2) (gConsM (gN 3) gNilM)))) (gConsM (gN 4) (gConsM (gN 5) (gConsM (gN 6) gNilM))))))
abbrev xo2 : MS := (mAsg (mCall 2 m__law_plus (mCons (mTup (mCons (mVar 1) (mCons (mC (.int 1)) mNil))) (mCons (mDGet (mCall 2 m__law_means (mCons (mOp dAdd (mVar 2) (mVar 3)) (mCons (mVar 4) mNil))) (mTup (mCons (mVar 2) (mCons (mVar 3) mNil)))) mNil))) (gN 7))
abbrev xo3 : MS := (mAsg (mOp dAdd (mVar 1) (mDGet (mCall 1 m__law_worst (mCons (mOp dAdd (mVar 2) (mVar 3)) mNil)) (mTup (mCons (mVar 2) (mCons (mVar 3) mNil))))) (gN 8))
abbrev xo4 : MS := (mAsg (mCall 2 m__law_plus (mCons (mTup (mCons (mVar 1) (mCons (mC (.int 1)) mNil))) (mCons (mDGet (mCall 1 m__law_gains (mCons (mOp dAdd (mVar 2) (mVar 3)) mNil)) (mTup (mCons (mVar 2) (mCons (mVar 3) mNil)))) mNil))) (gN 9))
abbrev xo5 : MS := (mRet (mLst (mCons (mTup (mCons (mC (.str "mean")) (mCons (mVar 7) (mCons (mNotV (mCall 2 m__law_up_to (mCons (mVar 7) (mCons (mVar 6) mNil)))) mNil)))) (mCons (mTup (mCons (mC (.str "surely")) (mCons (mVar 8) (mCons (mOp dGt (mVar 8) (mVar 5)) mNil)))) (mCons (mTup (mCons (mC (.str "first")) (mCons (mVar 9) (mCons (mOp dLt (mOp dIx (mVar 9) (mC (.int 0))) (mC (.int 0))) mNil)))) mNil)))))
abbrev xo : MS := (mSeq xo1 (mSeq xo2 (mSeq xo3 (mSeq xo4 xo5))))
theorem xo_eq : b__law_outs = xo := rfl

abbrev dOuts (m : QQ) (w : Int) (g : QQ) (b1 b2 b3 : Bool) : D := .lst [.tup [.str "mean", Q2 m, .bl b1], .tup [.str "surely", .int w, .bl b2], .tup [.str "first", Q2 g, .bl b3]]
theorem law_outs_ok {c : CP} (k : OkC c) {m g : QQ} {w : Int} {u : Bool} (hm : outM c.1 c.2.1 = some m) (hw : outW c.1 = some w) (hg : outG c.1 = some g) (hu : upL m c.2.2.2 = some u) :
    m__law_outs [P4 c] st = .ok (dOuts m w g (!u) (decide (c.2.2.1 < w)) (decide (g.1 < 0))) st := by
  obtain ⟨⟨r, s, h⟩, hb, n, q⟩ := c
  have k1 := k.a1
  have k2 := k.a2
  have kz := k.az
  have k0 := k.a0
  dsimp only at k0 k1 k2 kz hm hw hg hu
  obtain ⟨M, hM⟩ := Int.eq_ofNat_of_zero_le (show 0 ≤ s + h by omega)
  have hM1 : M < 100 := by omega
  simp only [outM, Option.bind_eq_some_iff] at hm
  simp only [outW, Option.bind_eq_some_iff] at hw
  simp only [outG, Option.bind_eq_some_iff] at hg
  obtain ⟨tm, hm1, vm, hm2, hm3⟩ := hm
  obtain ⟨tw, hw1, vw, hw2, hw3⟩ := hw
  obtain ⟨tg, hg1, vg, hg2, hg3⟩ := hg
  cases hw3
  have eM : (s + h).toNat = M := by omega
  rw [eM] at hm1 hw1 hg1
  have A1 := law_means_ok (st := st) hM1 (shaped_hb k.hb) hm1
  have A2 := law_worst_ok (st := st) hM1 hw1
  have A3 := law_gains_ok (st := st) hM1 hg1
  rw [← hM] at A1 A2 A3
  dsimp only at A1
  have B1 := getP0 (f := Q2) (st := st) hm2
  have B2 := getP0 (f := dI) (st := st) hw2
  have B3 := getP0 (f := Q2) (st := st) hg2
  have C1 : m__law_plus [.tup [.int r, .int 1], Q2 vm] st = .ok (Q2 m) st := law_plus_ok (st := st) hm3
  have C3 : m__law_plus [.tup [.int r, .int 1], Q2 vg] st = .ok (Q2 g) st := law_plus_ok (st := st) hg3
  have e1 : xo1 (startM 10 [P4 ((r, s, h), hb, n, q)]) st = .ok (.nx [some (P4 ((r, s, h), hb, n, q)), some (.int r), some (.int s), some (.int h), some (.str hb), some (.int n), some (Q2 q), none, none, none]) st := by
    simp [xo1, startM]
  have e2 : xo2 [some (P4 ((r, s, h), hb, n, q)), some (.int r), some (.int s), some (.int h), some (.str hb), some (.int n), some (Q2 q), none, none, none] st = .ok (.nx [some (P4 ((r, s, h), hb, n, q)), some (.int r), some (.int s), some (.int h), some (.str hb), some (.int n), some (Q2 q), some (Q2 m), none, none]) st := by
    simp [xo2, A1, B1, C1, -List.map_map]
  have e3 : xo3 [some (P4 ((r, s, h), hb, n, q)), some (.int r), some (.int s), some (.int h), some (.str hb), some (.int n), some (Q2 q), some (Q2 m), none, none] st = .ok (.nx [some (P4 ((r, s, h), hb, n, q)), some (.int r), some (.int s), some (.int h), some (.str hb), some (.int n), some (Q2 q), some (Q2 m), some (.int (r + vw)), none]) st := by
    simp [xo3, A2, B2, -List.map_map]
  have e4 : xo4 [some (P4 ((r, s, h), hb, n, q)), some (.int r), some (.int s), some (.int h), some (.str hb), some (.int n), some (Q2 q), some (Q2 m), some (.int (r + vw)), none] st = .ok (.nx [some (P4 ((r, s, h), hb, n, q)), some (.int r), some (.int s), some (.int h), some (.str hb), some (.int n), some (Q2 q), some (Q2 m), some (.int (r + vw)), some (Q2 g)]) st := by
    simp [xo4, A3, B3, C3, -List.map_map]
  unfold m__law_outs
  rw [fn_rt (d := dOuts m (r + vw) g (!u) (decide (n < r + vw)) (decide (g.1 < 0))) (st' := st)]
  · simp [seal_lst, lowL, lowD]
  · rw [xo_eq, xo, q_seq, e1, seqK_nx, q_seq, e2, seqK_nx, q_seq, e3, seqK_nx, q_seq, e4, seqK_nx]
    simp [xo5, law_up_ok hu, q0]
end
end K79

end

section
set_option maxRecDepth 100000
set_option Elab.async false
set_option linter.all false
set_option maxHeartbeats 2000000
namespace K79
open PySem PySem.Spec PyProof.Rows L2 DM
section
variable {st : Sto}
/-! stories told, the program's answers about them -/
structure Same3 (c : CP) (m : QQ) (w : Int) (g : QQ) : Prop where
  m1 : hmean c.1 c.2.1 = some m
  m2 : outM c.1 c.2.1 = some m
  ms : small m = true
  w1 : worstO c.1 = some w
  w2 : outW c.1 = some w
  g1 : gainO1 c.1 = some g
  g2 : outG c.1 = some g
  gs : small g = true
theorem Same3.good {c : CP} {m g : QQ} {w : Int} (s : Same3 c m w g) : Good3 c := by
  refine ⟨?_, ?_, ?_⟩
  · unfold goodM; rw [s.m1]; exact s.ms
  · rw [s.w1]; rfl
  · unfold goodG; rw [s.g1]; exact s.gs
def upB (c : CP) (m : QQ) : Bool := decide (m.1 * c.2.2.2.2 ≤ c.2.2.2.1 * m.2)
theorem up_small {c : CP} (k : OkC c) {m : QQ} (h : small m = true) : upL m c.2.2.2 = some (upB c m) := by
  have z := okc_small k
  simp only [small, Bool.and_eq_true, decide_eq_true_eq] at h
  unfold upL
  rw [if_pos]
  · rfl
  · unfold okM
    rw [Bool.and_eq_true]
    exact ⟨decide_eq_true (by omega), decide_eq_true (by omega)⟩
theorem tells_m {c : CP} {m g : QQ} {w : Int} (s : Same3 c m w g) : tells c "mean" = !(upB c m) := by
  unfold tells
  rw [if_pos rfl, s.m1]
  show decide _ = !decide _
  rw [← decide_not]
  congr 1
  rw [Int.not_le]
theorem tells_w {c : CP} {m g : QQ} {w : Int} (s : Same3 c m w g) : tells c "surely" = decide (c.2.2.1 < w) := by
  unfold tells
  rw [if_neg w21, if_pos rfl, s.w1]
theorem tells_g {c : CP} {m g : QQ} {w : Int} (s : Same3 c m w g) : tells c "first" = decide (g.1 < 0) := by
  unfold tells
  rw [if_neg w31, if_neg w32, s.g1]
  show decide (g.1 * 1 < 0 * g.2) = _
  congr 1
  rw [Int.mul_one, Int.zero_mul]
theorem story_m {c : CP} {m g : QQ} {w : Int} (s : Same3 c m w g) : storyOf c "mean" = .tup [.str "mean", Q2 m] := by
  unfold storyOf
  rw [if_pos rfl, s.m1]
  rfl
theorem story_w {c : CP} {m g : QQ} {w : Int} (s : Same3 c m w g) : storyOf c "surely" = .tup [.str "surely", .int w] := by
  unfold storyOf
  rw [if_neg w21, if_pos rfl, s.w1]
  rfl
theorem story_g {c : CP} {m g : QQ} {w : Int} (s : Same3 c m w g) : storyOf c "first" = .tup [.str "first", Q2 g] := by
  unfold storyOf
  rw [if_neg w31, if_neg w32, s.g1]
  rfl
theorem tuple2_eq {a b : D} : m_is_tuple_of [.tup [a, b], .int 2] st = .ok (.bl true) st := by
  unfold m_is_tuple_of
  rw [fn_rt (d := .bl true) (st' := st)]
  · simp
  · have e : dLen [.tup [a, b]] st = .ok (.int 2) st := rfl
    simp [b_is_tuple_of, startM, isB, e]
theorem pair2_eq {a b : D} : m_is_pair [.tup [a, b]] st = .ok (.bl true) st := by
  unfold m_is_pair
  rw [fn_rt (d := .bl true) (st' := st)]
  · simp
  · simp [b_is_pair, startM, tuple2_eq]
theorem one_of_word {w : Str} (h : w ∈ words) : m_is_one_of [.str w, .tup [.str "mean", .str "surely", .str "first"]] st = .ok (.bl true) st := by
  unfold m_is_one_of
  rw [fn_rt (d := .bl true) (st' := st)]
  · simp
  · have e : dIn false (.str w) (.tup [.str "mean", .str "surely", .str "first"]) st = .ok (.bl true) st := by
      simp only [List.mem_cons, List.not_mem_nil, or_false] at h
      rcases h with rfl | rfl | rfl <;> rfl
    simp [b_is_one_of, startM, isB, e]
theorem same_q {q : QQ} : m_is_same [Q2 q, Q2 q] st = .ok (.bl true) st := by
  have e : dEq (Q2 q) (Q2 q) st = .ok (.bl true) st := by
    rw [dEq_pd (p := .tuple [.int q.1, .int q.2]) (q := .tuple [.int q.1, .int q.2]) rfl rfl rfl rfl]
    simp [PyData.eqv, PyData.eqvAll]
  unfold m_is_same
  rw [fn_rt (d := .bl true) (st' := st)]
  · simp
  · simp [b_is_same, startM, isB, pair_eq, q0, q1, whole_eq, e]
theorem same_i {i : Int} : m_is_same [.int i, .int i] st = .ok (.bl true) st := by
  unfold m_is_same
  rw [fn_rt (d := .bl true) (st' := st)]
  · simp
  · simp [b_is_same, startM, isB, whole_eq]
def isVal (v : D) : Prop := (∃ q : QQ, v = Q2 q) ∨ ∃ i : Int, v = .int i
theorem same_v {v : D} (h : isVal v) : m_is_same [v, v] st = .ok (.bl true) st := by
  rcases h with ⟨q, rfl⟩ | ⟨i, rfl⟩
  · exact same_q
  · exact same_i
theorem ix2 {a b : D} : dIx (.tup [a, b]) (.int 0) st = .ok a st ∧ dIx (.tup [a, b]) (.int 1) st = .ok b st := ⟨rfl, rfl⟩
theorem break_by_eq {c : CP} (k : OkC c) (g : Good3 c) {w : Str} (hw : w ∈ words) {v : D} (hv : isVal v) (hs : storyOf c w = .tup [.str w, v]) (ht : tells c w = true) : m_does_break_by [dCa c, .tup [.str w, v]] st = .ok (.bl true) st := by
  have so := stories_eq (st := st) k g hw
  rw [ht, hs] at so
  have so : m_stories_by [dCa c, .str w] st = .ok (.lst [.tup [.str w, v]]) st := so
  have i0 := (ix2 (a := .str w) (b := v) (st := st)).1
  have i1 : ∀ st, dIx (.tup [.str w, v]) (.int 1) st = .ok v st := fun _ => rfl
  have hl : mLc (mIter (mCall 2 m_stories_by (mCons (mVar 0) (mCons (mOp dIx (mVar 1) (mC (.int 0))) mNil)))) (.tp [(.nm 2), (.nm 3)]) mYes (mCall 2 m_is_same (mCons (mOp dIx (mVar 1) (mC (.int 1))) (mCons (mVar 3) mNil))) [2, 3] [some (dCa c), some (.tup [.str w, v]), none, none] st = .ok (.lst [.bl true]) st := by
    rw [q_lc1 (fun x : D => .tup [.str w, x]) (fun _ => .bl true) [v] (by simp [i0, so]) (by
      intro x hx acc
      have hx : x = v := by simpa using hx
      subst hx
      have sv := same_v (st := st ++ [.lst acc]) hv
      exact ⟨[some (dCa c), some (.tup [.str w, x]), some (.str w), some x], rfl, by simp [i1, sv], rfl⟩) (by simp)]
    rfl
  have an : dAny [.lst [.bl true]] st = .ok (.bl true) st := rfl
  unfold m_does_break_by
  rw [fn_rt (d := .bl true) (st' := st)]
  · simp
  · simp [b_does_break_by, startM, pair2_eq, i0, one_of_word hw, hl, an]
theorem does_break_eq {c : CP} (k : OkC c) (g : Good3 c) {w : Str} (hw : w ∈ words) {v : D} (hv : isVal v) (hs : storyOf c w = .tup [.str w, v]) (ht : tells c w = true) : m_does_break [dCa c, .tup [.str w, v]] st = .ok (.bl true) st := by
  unfold m_does_break
  rw [fn_rt (d := .bl true) (st' := st)]
  · simp
  · simp [b_does_break, startM, check_case_eq, break_by_eq k g hw hv hs ht]
def toldD (c : CP) (w : Str) : D := if tells c w = true then storyOf c w else .non
theorem low_val {v : D} (h : isVal v) (n : Nat) (w : Str) : lowL n [.str w, v] = true := by
  rcases h with ⟨q, rfl⟩ | ⟨i, rfl⟩ <;> rfl
theorem breaking_eq {c : CP} (k : OkC c) (g : Good3 c) {w : Str} (hw : w ∈ words) {v : D} (hv : isVal v) (hs : storyOf c w = .tup [.str w, v]) : m_breaking [dCa c, .str w] st = .ok (toldD c w) st := by
  have so := stories_eq (st := st) k g hw
  unfold m_breaking
  rw [fn_rt (d := toldD c w) (st' := st)]
  · unfold toldD
    split
    · rw [hs, seal_tup (low_val hv _ _), take_self]
    · simp
  · have nr := ne_rows (c := c) (w := w) (st := st) (tells c w)
    have ix : tells c w = true → dIx (.lst (rowsOf (tells c w) (storyOf c w))) (.int 0) st = .ok (storyOf c w) st := fun h => by rw [h]; rfl
    unfold toldD
    by_cases h : tells c w = true
    · simp only [h] at so nr ix
      simp [b_breaking, startM, check_case_eq, one_of_word hw, so, nr, ix, h]
    · have h' : tells c w = false := by simpa using h
      simp only [h'] at so nr
      simp [b_breaking, startM, check_case_eq, one_of_word hw, so, nr, h']
theorem sound_eq {c : CP} (k : OkC c) (g : Good3 c) : m_is_sound [dCa c] st = .ok (.bl (decide (told3 c = []))) st := by
  unfold m_is_sound
  rw [fn_rt (d := .bl (decide (told3 c = []))) (st' := st)]
  · simp
  · simp [b_is_sound, startM, faults_eq k g, told_nil]
abbrev rr1b1 : MS := (mAsg (mCall 2 m__law_case_parts (mCons (mVar 0) (mCons (mC (.int 6)) mNil))) (gN 2))
abbrev rr1b2 : MS := (mPar 3 4 (mCons (mCall 1 m__law_case (mCons (mVar 2) mNil)) (mCons (mCall 1 m__law_outs (mCons (mVar 2) mNil)) mNil)))
abbrev rr1b3 : MS := (mAsg (mBi dTupOf (mCons (mLc (mIter (mVar 4)) (.tp [(.nm 6), (.nm 7), (.nm 8)]) (mTst (mVar 8)) (mVar 6) [6, 7, 8]) mNil)) (gN 5))
abbrev rr1b4 : MS := (mIfS (mNot (mTst (mCall 2 m__law_same (mCons (mLst (mCons (mCall 1 m_faults (mCons (mVar 3) mNil)) (mCons (mCallK 1 1 [0] m_faults (mCons (mVar 3) mNil)) (mCons (mCall 1 m_is_sound (mCons (mVar 3) mNil)) (mCons (mCallK 1 1 [0] m_is_sound (mCons (mVar 3) mNil)) mNil))))) (mCons (mLst (mCons (mVar 5) (mCons (mVar 5) (mCons (mOp dEq (mVar 5) (mTup mNil)) (mCons (mOp dEq (mVar 5) (mTup mNil)) mNil))))) mNil))))) (mRet (mC (.bl false))) mNext)
abbrev rr1b5b1 : MS := (mAsg (mIf (mTst (mVar 8)) (mTup (mCons (mVar 6) (mCons (mVar 7) mNil))) (mC .non)) (gN 9))
abbrev rr1b5b2 : MS := (mIfS (mNot (mTst (mCall 2 m__law_same (mCons (mLst (mCons (mCall 2 m_breaking (mCons (mVar 3) (mCons (mVar 6) mNil))) (mCons (mCallK 2 2 [1, 0] m_breaking (mCons (mVar 6) (mCons (mVar 3) mNil))) mNil))) (mCons (mLst (mCons (mVar 9) (mCons (mVar 9) mNil))) mNil))))) (mRet (mC (.bl false))) mNext)
abbrev rr1b5b3 : MS := (mIfS (mAnd (mTst (mVar 8)) (mTst (mOp dNotB (mCall 2 m_does_break (mCons (mVar 3) (mCons (mVar 9) mNil))) (mC (.bl true))))) (mRet (mC (.bl false))) mNext)
abbrev rr1b5b : MS := (mSeq rr1b5b1 (mSeq rr1b5b2 rr1b5b3))
abbrev rr1b5 : MS := mFor (mIter (mVar 4)) (gTupM 3 (gConsM (gN 6) (gConsM (gN 7) (gConsM (gN 8) gNilM)))) rr1b5b
abbrev rr1b : MS := (mSeq rr1b1 (mSeq rr1b2 (mSeq rr1b3 (mSeq rr1b4 rr1b5))))
abbrev rr1 : MS := mFor (mRng1 (mCons (mC (.int 4)) mNil)) (gN 1) rr1b
abbrev rr2 : MS := (mRet (mC (.bl true)))
abbrev rr : MS := (mSeq rr1 rr2)
theorem rr_eq : b__law_right = rr := rfl

theorem shaped_word {w : Str} (h : w ∈ words) : SeqAt.shaped (.str w) = true := by
  simp only [List.mem_cons, List.not_mem_nil, or_false] at h
  rcases h with rfl | rfl | rfl
  · exact sh_mean
  · exact sh_surely
  · exact sh_first
theorem plain_toldD {c : CP} {w : Str} (hw : w ∈ words) {v : D} (hv : isVal v) (hs : storyOf c w = .tup [.str w, v]) : plainD 5 (toldD c w) = true := by
  have sw := shaped_word hw
  unfold toldD
  split
  · rw [hs]
    rcases hv with ⟨q, rfl⟩ | ⟨i, rfl⟩ <;> simp [plainD, plainL, sw]
  · rfl
theorem out_step {c : CP} (k : OkC c) (g : Good3 c) {w : Str} (hw : w ∈ words) {v : D} (hv : isVal v) (hs : storyOf c w = .tup [.str w, v]) {b : Bool} (hb : tells c w = b) {x0 x1 x2 x4 x5 x9 : Option D} :
    ∃ y9, rr1b5b [x0, x1, x2, some (dCa c), x4, x5, some (.str w), some v, some (.bl b), x9] st = .ok (.nx [x0, x1, x2, some (dCa c), x4, x5, some (.str w), some v, some (.bl b), y9]) st := by
  refine ⟨some (toldD c w), ?_⟩
  have e1 : rr1b5b1 [x0, x1, x2, some (dCa c), x4, x5, some (.str w), some v, some (.bl b), x9] st = .ok (.nx [x0, x1, x2, some (dCa c), x4, x5, some (.str w), some v, some (.bl b), some (toldD c w)]) st := by
    unfold toldD
    rw [hb]
    cases b <;> simp [rr1b5b1, hs]
  have sm : m__law_same [.lst [toldD c w, toldD c w], .lst [toldD c w, toldD c w]] st = .ok (.bl true) st :=
    same_self 6 _ (by
      have p := plain_toldD hw hv hs
      rw [plainD, plainL, plainL, plainL, p]
      rfl)
  have e2 : rr1b5b2 [x0, x1, x2, some (dCa c), x4, x5, some (.str w), some v, some (.bl b), some (toldD c w)] st = .ok (.nx [x0, x1, x2, some (dCa c), x4, x5, some (.str w), some v, some (.bl b), some (toldD c w)]) st := by
    simp [rr1b5b2, permD, breaking_eq k g hw hv hs, sm]
  have e3 : rr1b5b3 [x0, x1, x2, some (dCa c), x4, x5, some (.str w), some v, some (.bl b), some (toldD c w)] st = .ok (.nx [x0, x1, x2, some (dCa c), x4, x5, some (.str w), some v, some (.bl b), some (toldD c w)]) st := by
    cases b with
    | false => simp [rr1b5b3]
    | true =>
      have ht : toldD c w = .tup [.str w, v] := by unfold toldD; rw [if_pos hb, hs]
      have db := does_break_eq (st := st) k g hw hv hs hb
      rw [ht]
      simp [rr1b5b3, db]
  rw [rr1b5b, q_seq, e1, seqK_nx, q_seq, e2, seqK_nx, e3]
theorem outs_loop {c : CP} (k : OkC c) {m g : QQ} {w : Int} (s : Same3 c m w g) {x0 x1 x2 x5 x6 x7 x8 x9 : Option D} :
    ∃ y6 y7 y8 y9, rr1b5 [x0, x1, x2, some (dCa c), some (dOuts m w g (!(upB c m)) (decide (c.2.2.1 < w)) (decide (g.1 < 0))), x5, x6, x7, x8, x9] st = .ok (.nx [x0, x1, x2, some (dCa c), some (dOuts m w g (!(upB c m)) (decide (c.2.2.1 < w)) (decide (g.1 < 0))), x5, y6, y7, y8, y9]) st := by
  have gd := s.good
  generalize hO : some (dOuts m w g (!(upB c m)) (decide (c.2.2.1 < w)) (decide (g.1 < 0))) = O
  obtain ⟨a9, ea⟩ := out_step (st := st) k gd (w := "mean") (by simp) (.inl ⟨m, rfl⟩) (story_m s) (tells_m s) (x0 := x0) (x1 := x1) (x2 := x2) (x4 := O) (x5 := x5) (x9 := x9)
  obtain ⟨b9, eb⟩ := out_step (st := st) k gd (w := "surely") (by simp) (.inr ⟨w, rfl⟩) (story_w s) (tells_w s) (x0 := x0) (x1 := x1) (x2 := x2) (x4 := O) (x5 := x5) (x9 := a9)
  obtain ⟨c9, ec⟩ := out_step (st := st) k gd (w := "first") (by simp) (.inl ⟨g, rfl⟩) (story_g s) (tells_g s) (x0 := x0) (x1 := x1) (x2 := x2) (x4 := O) (x5 := x5) (x9 := b9)
  refine ⟨some (.str "first"), some (Q2 g), some (.bl (decide (g.1 < 0))), c9, ?_⟩
  have it : mIter (mVar 4) [x0, x1, x2, some (dCa c), O, x5, x6, x7, x8, x9] st = .ok [.tup [.str "mean", Q2 m, .bl (!(upB c m))], .tup [.str "surely", .int w, .bl (decide (c.2.2.1 < w))], .tup [.str "first", Q2 g, .bl (decide (g.1 < 0))]] st := by
    rw [← hO]
    rfl
  have l3 : ∀ a b c : D, [a, b, c].length = 3 := fun _ _ _ => rfl
  rw [rr1b5, q_for, it]
  simp only [R.bindS_ok, forM_cons, q_gTup, l3, if_true, q_gCons, q_gN, grK_ok, q_gNil, List.set_cons_succ, List.set_cons_zero, fmK_ok]
  rw [ea]
  simp only [fmK2_nx, forM_cons, q_gTup, l3, if_true, q_gCons, q_gN, grK_ok, q_gNil, List.set_cons_succ, List.set_cons_zero, fmK_ok]
  rw [eb]
  simp only [fmK2_nx, forM_cons, q_gTup, l3, if_true, q_gCons, q_gN, grK_ok, q_gNil, List.set_cons_succ, List.set_cons_zero, fmK_ok]
  rw [ec]
  simp only [fmK2_nx, forM_nil]
theorem right_body (G3 : ∀ c, OkC c → ∃ m w g, Same3 c m w g) {k n : Nat} (h : Dk k n st) (hn : n < 800000) {x1 x2 x3 x4 x5 x6 x7 x8 x9 : Option D} :
    ∃ o y1 y2 y3 y4 y5 y6 y7 y8 y9, rr1b [some (.ref k), x1, x2, x3, x4, x5, x6, x7, x8, x9] st = .ok (.nx [some (.ref k), y1, y2, y3, y4, y5, y6, y7, y8, y9]) (st.set k o) ∧ Dk k (n + 7) (st.set k o) := by
  obtain ⟨c, o1, e1, kc, h1⟩ := case_parts_law h (by omega)
  refine ⟨o1, ?_⟩
  generalize hs : st.set k o1 = s at e1 h1 ⊢
  obtain ⟨m, w, g, sm⟩ := G3 c kc
  have gd := sm.good
  have ou := law_outs_ok (st := s) kc sm.m2 sm.w2 sm.g2 (up_small kc sm.ms)
  generalize hO : dOuts m w g (!(upB c m)) (decide (c.2.2.1 < w)) (decide (g.1 < 0)) = O at ou
  obtain ⟨y6, y7, y8, y9, e5⟩ := outs_loop (st := s) kc sm (x0 := some (.ref k)) (x1 := x1) (x2 := some (P4 c)) (x5 := some (.tup ((told3 c).map .str))) (x6 := x6) (x7 := x7) (x8 := x8) (x9 := x9)
  rw [hO] at e5
  refine ⟨x1, some (P4 c), some (dCa c), some O, some (.tup ((told3 c).map .str)), y6, y7, y8, y9, ?_, h1⟩
  have s1 : rr1b1 [some (.ref k), x1, x2, x3, x4, x5, x6, x7, x8, x9] st = .ok (.nx [some (.ref k), x1, some (P4 c), x3, x4, x5, x6, x7, x8, x9]) s := by
    simp [rr1b1, e1]
  have s2 : rr1b2 [some (.ref k), x1, some (P4 c), x3, x4, x5, x6, x7, x8, x9] s = .ok (.nx [some (.ref k), x1, some (P4 c), some (dCa c), some O, x5, x6, x7, x8, x9]) s := by
    simp [rr1b2, law_case_eq kc, ou]
  have s3 : rr1b3 [some (.ref k), x1, some (P4 c), some (dCa c), some O, x5, x6, x7, x8, x9] s = .ok (.nx [some (.ref k), x1, some (P4 c), some (dCa c), some O, some (.tup ((told3 c).map .str)), x6, x7, x8, x9]) s := by
    have hl : mLc (mIter (mVar 4)) (.tp [(.nm 6), (.nm 7), (.nm 8)]) (mTst (mVar 8)) (mVar 6) [6, 7, 8] [some (.ref k), x1, some (P4 c), some (dCa c), some O, x5, x6, x7, x8, x9] s = .ok (.lst ((told3 c).map .str)) s := by
      have z := q_lc (mi := mIter (mVar 4)) (p := .tp [(.nm 6), (.nm 7), (.nm 8)]) (t := mTst (mVar 8)) (e := mVar 6) (vs := [6, 7, 8]) (ρ := [some (.ref k), x1, some (P4 c), some (dCa c), some O, x5, x6, x7, x8, x9]) (st := s)
        (fun x : Str × D × Bool => .tup [.str x.1, x.2.1, .bl x.2.2]) (fun x => .str x.1) (fun x => x.2.2) [("mean", Q2 m, !(upB c m)), ("surely", .int w, decide (c.2.2.1 < w)), ("first", Q2 g, decide (g.1 < 0))]
        (by rw [← hO]; rfl) (by
          intro x hx acc
          exact ⟨[some (.ref k), x1, some (P4 c), some (dCa c), some O, x5, some (.str x.1), some x.2.1, some (.bl x.2.2), x9], rfl, rfl, fun _ => ⟨rfl, rfl⟩⟩) (by simp)
      rw [z]
      congr 1
      have t1 := tells_m sm
      have t2 := tells_w sm
      have t3 := tells_g sm
      unfold told3
      generalize upB c m = b1 at *
      generalize decide (c.2.2.1 < w) = b2 at *
      generalize decide (g.1 < 0) = b3 at *
      cases b1 <;> cases b2 <;> cases b3 <;> simp [List.filter, t1, t2, t3]
    have ht : dTupOf [.lst ((told3 c).map .str)] s = .ok (.tup ((told3 c).map .str)) s := rfl
    rw [rr1b3, q_asg, q_bi, q_cons, hl]
    simp [ht]
  have fe := faults_eq (st := s) kc gd
  have se := sound_eq (st := s) kc gd
  have tn := told_nil (st := s) c
  have sa : m__law_same [.lst [.tup ((told3 c).map .str), .tup ((told3 c).map .str), .bl (decide (told3 c = [])), .bl (decide (told3 c = []))], .lst [.tup ((told3 c).map .str), .tup ((told3 c).map .str), .bl (decide (told3 c = [])), .bl (decide (told3 c = []))]] s = .ok (.bl true) s :=
    same_self 6 _ (by
      have p1 := plain_told c 3
      rw [plainD, plainL, plainL, plainL, plainL, plainL, p1]
      rfl)
  have s4 : rr1b4 [some (.ref k), x1, some (P4 c), some (dCa c), some O, some (.tup ((told3 c).map .str)), x6, x7, x8, x9] s = .ok (.nx [some (.ref k), x1, some (P4 c), some (dCa c), some O, some (.tup ((told3 c).map .str)), x6, x7, x8, x9]) s := by
    simp [rr1b4, permD, fe, se, tn, sa]
  rw [rr1b, q_seq, s1, seqK_nx, q_seq, s2, seqK_nx, q_seq, s3, seqK_nx, q_seq, s4, seqK_nx, e5]
theorem set_self {st : Sto} {k : Nat} {o : Ob} (h : st[k]? = some o) : st.set k o = st := by
  apply List.ext_getElem?
  intro j
  by_cases e : k = j
  · subst e
    rw [List.getElem?_set_self (List.getElem?_eq_some_iff.mp h).1, h]
  · rw [List.getElem?_set_ne e]
theorem right_eq (G3 : ∀ c, OkC c → ∃ m w g, Same3 c m w g) {k n : Nat} (h : Dk k n st) (hn : n < 700000) : ∃ o, m__law_right [.ref k] st = .ok (.bl true) (st.set k o) := by
  have start : ∃ o, st = st.set k o := by
    obtain ⟨a, b, c, e, _⟩ := h
    exact ⟨_, (set_self e).symm⟩
  obtain ⟨ρ2, st2, e, ⟨y1, y2, y3, y4, y5, y6, y7, y8, y9, rfl⟩, ⟨o, rfl⟩, h2⟩ := for_inv (enc := fun i : Nat => D.int (0 + (i : Int))) (g := gN 1) (b := rr1b)
    4 (fun i ρ s => (∃ y1 y2 y3 y4 y5 y6 y7 y8 y9, ρ = [some (.ref k), y1, y2, y3, y4, y5, y6, y7, y8, y9]) ∧ (∃ o, s = st.set k o) ∧ Dk k (n + 7 * i) s) (by
      rintro i x ρ s hi ⟨⟨y1, y2, y3, y4, y5, y6, y7, y8, y9, rfl⟩, ⟨o, rfl⟩, hd⟩
      obtain ⟨o', z1, z2, z3, z4, z5, z6, z7, z8, z9, eb, hb⟩ := right_body G3 hd (by omega) (x1 := some (.int (0 + (x : Int)))) (x2 := y2) (x3 := y3) (x4 := y4) (x5 := y5) (x6 := y6) (x7 := y7) (x8 := y8) (x9 := y9)
      exact ⟨_, _, _, _, rfl, eb, ⟨_, _, _, _, _, _, _, _, _, rfl⟩, ⟨o', by rw [List.set_set]⟩, hb.mono (by omega)⟩) (List.range 4) 0 [some (.ref k), none, none, none, none, none, none, none, none, none] st (by simp) ⟨⟨_, _, _, _, _, _, _, _, _, rfl⟩, start, h.mono (by omega)⟩
  refine ⟨o, ?_⟩
  have hr : mRng1 (mCons (mC (.int 4)) mNil) [some (.ref k), none, none, none, none, none, none, none, none, none] st = .ok ((List.range 4).map fun i : Nat => D.int (0 + (i : Int))) st := rfl
  unfold m__law_right
  rw [fn_rt (d := .bl true) (st' := st.set k o)]
  · simp [take_set]
  · have e0 : startM 10 [D.ref k] = [some (.ref k), none, none, none, none, none, none, none, none, none] := rfl
    rw [rr_eq, rr, q_seq, rr1, q_for, e0, hr, R.bindS_ok, e]
    rfl
def chkM (p : T3) (hb : Str) : Bool := match hmean p hb with
  | some q => (match outM p hb with
    | some r => decide (q = r) && small q
    | none => false)
  | none => false
def chkW (p : T3) : Bool := match worstO p with
  | some q => (match outW p with
    | some r => decide (q = r)
    | none => false)
  | none => false
def chkG (p : T3) : Bool := match gainO1 p with
  | some q => (match outG p with
    | some r => decide (q = r) && small q
    | none => false)
  | none => false
theorem chkM_ok {p : T3} {hb : Str} (h : chkM p hb = true) : ∃ m, hmean p hb = some m ∧ outM p hb = some m ∧ small m = true := by
  unfold chkM at h
  cases e1 : hmean p hb with
  | none => rw [e1] at h; cases h
  | some q =>
    rw [e1] at h
    dsimp only at h
    cases e2 : outM p hb with
    | none => rw [e2] at h; cases h
    | some r =>
      rw [e2] at h
      simp only [Bool.and_eq_true, decide_eq_true_eq] at h
      obtain ⟨rfl, hs⟩ := h
      exact ⟨q, rfl, rfl, hs⟩
theorem chkG_ok {p : T3} (h : chkG p = true) : ∃ m, gainO1 p = some m ∧ outG p = some m ∧ small m = true := by
  unfold chkG at h
  cases e1 : gainO1 p with
  | none => rw [e1] at h; cases h
  | some q =>
    rw [e1] at h
    dsimp only at h
    cases e2 : outG p with
    | none => rw [e2] at h; cases h
    | some r =>
      rw [e2] at h
      simp only [Bool.and_eq_true, decide_eq_true_eq] at h
      obtain ⟨rfl, hs⟩ := h
      exact ⟨q, rfl, rfl, hs⟩
theorem chkW_ok {p : T3} (h : chkW p = true) : ∃ m, worstO p = some m ∧ outW p = some m := by
  unfold chkW at h
  cases e1 : worstO p with
  | none => rw [e1] at h; cases h
  | some q =>
    rw [e1] at h
    dsimp only at h
    cases e2 : outW p with
    | none => rw [e2] at h; cases h
    | some r =>
      rw [e2] at h
      simp only [decide_eq_true_eq] at h
      subst h
      exact ⟨q, rfl, rfl⟩
end
end K79

end

section
set_option maxRecDepth 100000
set_option Elab.async false
set_option linter.all false
set_option maxHeartbeats 2000000
namespace K79
open PySem PySem.Spec PyProof.Rows L2 DM
def some6 : List T3 := (statesUp 6).filter fun p => decide (p ≠ d0)
theorem ev_m1 : (some6.all fun p => chkM p "shut") = true := by decide +kernel
theorem ev_m2 : (some6.all fun p => chkM p "open") = true := by decide +kernel
theorem ev_m3 : (some6.all fun p => chkM p "turns") = true := by decide +kernel
theorem ev_g : (some6.all chkG) = true := by decide +kernel
theorem ev_w : (some6.all chkW) = true := by decide +kernel
theorem same3 (c : CP) (k : OkC c) : ∃ m w g, Same3 c m w g := by
  have hm := mem_states (p := c.1) (n := 6) k.a0 k.a1 k.a2 k.az
  have hm : c.1 ∈ some6 := List.mem_filter.mpr ⟨hm, decide_eq_true (fun e => by
    have := k.ap
    rw [e] at this
    exact absurd this (by decide))⟩
  obtain ⟨w, w1, w2⟩ := chkW_ok (List.all_eq_true.mp ev_w _ hm)
  obtain ⟨g, g1, g2, gs⟩ := chkG_ok (List.all_eq_true.mp ev_g _ hm)
  have hb : chkM c.1 c.2.1 = true := by
    have hb := k.hb
    simp only [List.mem_cons, List.not_mem_nil, or_false] at hb
    rcases hb with e | e | e <;> rw [e]
    · exact List.all_eq_true.mp ev_m1 _ hm
    · exact List.all_eq_true.mp ev_m2 _ hm
    · exact List.all_eq_true.mp ev_m3 _ hm
  obtain ⟨m, m1, m2, ms⟩ := chkM_ok hb
  exact ⟨m, w, g, m1, m2, ms, w1, w2, g1, g2, gs⟩
theorem law_plain : LawM m_law := law_of_right fun k st h => right_eq same3 h (by omega)
end K79

end

section
set_option Elab.async false
set_option linter.all false
set_option maxRecDepth 100000
set_option maxHeartbeats 4000000
namespace K79
open PySem PySem.Spec PyProof.Rows L2 DM
section
variable {w : World} {K : PySem.W.Frag} {mg : Str → Option Value} {h : Heap}
theorem law_at {fa : Addr} (KX : K.In h) (G : h.Ns mainGlobals mg) (c : SaysZ facts defs_ tabs_ tfs w h K) (hmg : mg "law" = some (.ref fa)) : LamX.LawAtS PySem.Challenge.rw_turnedpairs_k79_whole_faults_of_cases w K (L2.CX PySem.Challenge.pw_turnedpairs_k79_whole_faults_of_cases w) 14 63 "script" mg fa h := by
  have e := hmg.symm.trans (fa116 KX G c)
  cases e
  obtain ⟨fd, F⟩ := c.def_ 76
  have hb : ∀ (s : Shared) (u : Value), BindsTo s fd ⟨[u], []⟩ [("script", u)] := by
    intro s u
    obtain ⟨oc, od, kV, doc, pm, an, cdv, ct, osl, rfl, lk, hcd⟩ := F.ex
    exact .of_eq rfl
  refine ⟨fd, css K, spM ⟨K, mg, tbs K, w⟩ 1 m_law, fun p hp => ?_, fun p hp => ?_, fun p hp => ?_, hb, law_end (P := PySem.Challenge.pw_turnedpairs_k79_whole_faults_of_cases) law_plain ?_, fun base KB GB TB => fn_M F sc_law sealR_ok (body_law KX G c TB)⟩
  · obtain ⟨d, hd, rfl⟩ := List.mem_map.mp hp
    exact c.empty d hd
  · obtain ⟨d, hd, rfl⟩ := List.mem_map.mp hp
    exact c.out d hd
  · obtain ⟨d, hd, rfl⟩ := List.mem_map.mp hp
    exact PySem.W.codeHd_of_K KX (c.hd d hd)
  · intro p hp
    obtain ⟨d, hd, rfl⟩ := List.mem_map.mp hp
    exact ⟨_, List.mem_map.mpr ⟨d, hd, rfl⟩, rfl⟩
end
abbrev RR : PySem.W.OpenRow := PySem.W.OpenLaw.row PySem.Challenge.rw_turnedpairs_k79_whole_faults_of_cases
def adrs : List Addr := [3, 49, 56, 63, 70, 77, 78, 79, 86, 91, 98, 105, 112, 119, 126, 127, 128, 129, 136, 143, 216, 150, 157, 164, 171, 176, 183, 190, 195, 202, 209, 223, 228, 235, 242, 247, 254, 259, 266, 271, 276, 277, 284, 291, 298, 299, 306, 313, 318, 513, 524, 531, 538, 545, 609, 620, 625, 632, 639, 646, 653, 660, 667, 672, 679, 686, 693, 700, 707, 714, 721, 728, 735, 742, 749, 756, 763, 770, 775, 780, 48, 55, 62, 69, 76, 85, 90, 97, 104, 111, 118, 125, 135, 142, 215, 149, 156, 163, 170, 175, 182, 189, 194, 201, 208, 222, 227, 234, 241, 246, 253, 258, 265, 270, 275, 283, 290, 297, 305, 312, 317, 512, 523, 530, 537, 544, 608, 619, 624, 631, 638, 645, 652, 659, 666, 671, 678, 685, 692, 699, 706, 713, 720, 727, 734, 741, 748, 755, 762, 769, 774, 779, 471, 503, 559, 567, 575, 583, 591, 470, 502, 558, 566, 574, 582, 590, 501, 565, 573, 581, 589]
abbrev hk : PySem.W.Hook := hookA adrs facts defs_ tabs_ tfs
def ob (s : PySem.W.SharedT) : AlZ := obsA adrs facts defs_ tabs_ tfs (HandSHeadRun.getT s)
theorem ob_eq (s : PySem.W.SharedT) : ob s = hk.obs s.abs := obsA_eq (HandSHeadRun.getT_eq s)
def loose0 : List Str := ["is_whole", "is_between", "is_one_of", "is_tuple_of", "is_pair", "NOTHING", "WHOLE", "lowest", "is_fraction", "plus", "minus", "times", "is_less", "total", "SHUT_statework", "OPEN_statework", "TURNS", "HABITS", "CHOICES", "MOST_KINDS", "DONE", "is_number", "shut_in", "has_choice", "has_choice_statework", "choices_in", "choice_for", "second_by", "turned", "order_of"]
def loose1 : List Str := ["reached", "mean_with", "habit_means", "habit_mean", "SHUT_outcomework", "OPEN_outcomework", "has_choice_outcomework", "second_shut", "outcomes", "height_of", "all_behind", "gain_behind", "choices_of", "best_gain", "gains_of", "worst_with", "worst_by", "MEAN", "SURELY", "FIRST", "WORDS", "mean_stories", "surely_stories", "first_stories", "STORIES", "stories_by", "is_same", "does_break_by", "TurnError", "InvalidNumber"]
def loose2 : List Str := ["InvalidFraction", "InvalidWord", "NotAState", "NotACase", "TooMany", "State", "check_state", "check_habit", "check_state_habit", "check_number", "MOST_NUMBER", "Case", "check_case", "faults", "is_sound", "does_break", "breaking", "_law_desk", "_law_slot", "_law_of", "_law_same", "_law_low", "_law_plus", "_law_less", "_law_times", "_law_up_to", "_law_parts", "_law_branches", "_law_word", "_law_means"]
def loose3 : List Str := ["_law_worst", "_law_gains", "_law_case_parts", "_law_case", "_law_outs", "_law_right"]
def loose : List Str := loose0 ++ loose1 ++ loose2 ++ loose3
abbrev vw : Program := PySem.W.view RR.prog [0, 110]
theorem run0 (w : World) : HandSHeadRun.RunEqI RR vw hk ob 6000 loose (w.withFollow "special-get-raises" false) := by
  delta HandSHeadRun.RunEqI
  kernel_rfl
theorem run1 (w : World) : HandSHeadRun.RunEqI RR vw hk ob 6000 loose (w.withFollow "special-get-raises" true) := by
  delta HandSHeadRun.RunEqI
  kernel_rfl
theorem run (w : World) : HandSHeadRun.RunEqI RR vw hk ob 6000 loose w := PySem.W.byRow2 (P := fun w => HandSHeadRun.RunEqI RR vw hk ob 6000 loose w) "special-get-raises" run0 run1 w
end K79
open PySem PySem.W PySem.Calls PyProof.Rows L2 DM
theorem PySem.Challenge.cw_turnedpairs_k79_whole_faults_of_cases_holds : PySem.Challenge.rw_turnedpairs_k79_whole_faults_of_cases.Holds := by
  w_on; o_law
  refine HandSHeadRun.head_imp (r := K79.RR) (q := K79.vw) (H := K79.hk) (ob := K79.ob) (M := 6000) (loose := K79.loose) (d := HandSHeadRun.topDef K79.RR.prog 110) (kwd := []) K79.ob_eq
    K79.run (by kernel_rfl) (by kernel_rfl) (by kernel_rfl) (by rfl) (by first | assumption | decide +kernel) (by decide +kernel) ⟨rfl, rfl, rfl, rfl, rfl, by decide +kernel⟩ ?hw ?hc
  case hw => w_witness2
  case hc =>
    refine LamX.walk_ofTsE (l := PySem.Challenge.rw_turnedpairs_k79_whole_faults_of_cases) (n := 63) (k := 14) (x := "script") (CX := fun w => L2.CX PySem.Challenge.pw_turnedpairs_k79_whole_faults_of_cases w) rfl (by decide) (by kernel_rfl) ⟨rfl, by decide, by decide⟩ ?F ?X
    case X =>
      intro w H s e s2 z
      obtain ⟨_, _, _, _, _, _, _, _, _, _, _, _, z⟩ := z
      exact z.elim
    intro w mg fa h Y G hmg0
    obtain ⟨K, KX, c⟩ := Y
    have hmg : mg ("law" : PySem.Str) = some (.ref fa) := by
      have e : (HandSHeadRun.topDef K79.RR.prog 110).name = ("law" : PySem.Str) := by kernel_rfl
      rw [← e]
      exact hmg0
    exact ⟨K, KX, K79.law_at KX G c hmg⟩

end
