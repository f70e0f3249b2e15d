import PyProof.Rows.All
import Wide.All
import OpenK.AllK
import Wide.FinOn
import HandS.ForMost
import HandS.ForExc
import HandS.Flow
import HandS.TupAny
import HandS.IsInst
import HandS.Zip
import HandS.Conv
import HandS.Deep
import HandS.FStr
import HandS.TupSets
import KE.KDictDisplayH
import HandS.Style
import KE.GoesMore
import HandS.Iter
import HandS.ExcOwn
import KE.SortData
import HandS.Strs
import PyProof.Rows.SetFrom
import HandS.ExcIs
import HandS.SetFor
import HandS.TupMul
import HandS.Text
import HandS.RaiseMore
import PySem.Challenge.RW_cellstories_k06_whole_roads
set_option Elab.async false
set_option linter.all false
set_option maxRecDepth 100000
/-! D0: tuples that are known to have no dict: made, joined, cut. -/
namespace CS
open PySem L2 PyProof.Rows
/-- a tuple of which its object is known, without a dict of its own -/
def TupF (H : Hp) (a : Addr) (xs : List V) : Prop := ∃ o : Obj, H a = some (.frz o (.tup xs)) ∧ o.dict = none
def TupK (K : PySem.W.Frag) (a : Addr) (xs : List V) : Prop := ∃ (o : Obj) (its : Array Value) (n : Nat), K.lookup a = some o ∧ o.cls = .type "tuple" ∧ o.data = .seq its n ∧ its.size ≤ sizeLine ∧ Vals xs its.toList ∧ o.dict = none
def TupOk (K : PySem.W.Frag) (H : Hp) (a : Addr) (xs : List V) : Prop := TupF H a xs ∨ TupK K a xs
theorem TupOk.sq {K : PySem.W.Frag} {H : Hp} {a : Addr} {xs : List V} (h : TupOk K H a xs) : SqT K H a xs := by
  rcases h with ⟨o, h, _⟩ | ⟨o, its, n, h1, h2, h3, h4, h5, _⟩
  · exact .inl (.inr ⟨o, h⟩)
  · exact .inr ⟨o, its, n, h1, h2, h3, h4, h5⟩
/-- the object of a new tuple -/
abbrev tupO (us : List Value) : Obj := { cls := .type "tuple", data := .seq us.toArray }
section
variable {X : Cx} {pins : List (Addr × Obj)} {σ : L2.St} {H : Hp} {s : Shared}
theorem tnew {ys : List V} {us : List Value} (I : Inv X pins σ H s) (t : Nat) (hv : Vals ys us) (hz : ys.length ≤ sizeLine) :
    Inv X pins σ (upd H s.heap.objs.size (.frz (tupO us) (.tup ys))) { s with heap := s.heap.push (tupO us), toks := t } :=
  I.laid (t' := t) (fun _ _ q => Heap.get?_push_of_some _ q) (Nat.le_refl _) ⟨Heap.get?_push_size _ rfl, hz, us, hv, ⟨_, Heap.get?_push_size _ rfl, rfl, _, rfl⟩⟩
/-- at a new address, whatever the new object is -/
def NewT (H : Hp) (xs : List V) (Q : VK) : Prop := ∀ (p : Addr) (o : Obj), H p = none → o.dict = none → Q (.ref p) (upd H p (.frz o (.tup xs)))
def tTupF (t : TA) : TE := fun σ H Q => t σ H fun xs H1 => xs.length ≤ sizeLine ∧ NewT H1 xs Q
theorem pe_tupF {es : List Expr} {t : TA} {x1 : Nat} {pos : Pos} (h : PA X es t) : PE X (.Tuple es x1 pos) (tTupF t) := by
  refine ⟨fun pins s σ H Q I hq => ?_⟩
  refine wpAny_Tuple_spliced (thn (h.run pos pins s σ H _ I hq) fun us s1 ⟨xs, H1, I1, r, z, q⟩ => ⟨by rw [← r.length]; exact z, ?_⟩)
  exact ⟨.ref s1.heap.objs.size, _, tnew I1 s1.toks r z, rfl, q _ _ (I1.hok.fresh (Nat.le_refl _)) rfl⟩
def rCatF (K : PySem.W.Frag) : R2 := fun x y H Q => ∃ a b xs ys, x = .ref a ∧ y = .ref b ∧ SqT K H a xs ∧ SqT K H b ys ∧ xs.length + ys.length ≤ sizeLine ∧
  (xs = [] → Q (.ref b) H) ∧ (xs ≠ [] → ys = [] → Q (.ref a) H) ∧ (xs ≠ [] → ys ≠ [] → NewT H (xs ++ ys) Q)
theorem op_catF : OpR X (binaryOp .Add) (rCatF X.K) := by
  intro pins s σ H x y v u Q I rx ry h
  obtain ⟨a, b, xs, ys, rfl, rfl, ha, hb, hz, q0, q1, q2⟩ := h
  cases rx
  cases ry
  obtain ⟨its, r1, p1, _⟩ := I.tuple ha
  obtain ⟨its2, r2, p2, _⟩ := I.tuple hb
  by_cases hx : xs = []
  · subst hx
    cases r1
    exact cat_tup0 p1 p2 ⟨.ref b, H, I, rfl, q0 rfl⟩
  · refine HT.cat_tup p1 p2 (fun z => hx (r1.nil_iff.mp z)) (fun z => ⟨.ref a, H, I, rfl, q1 hx (r2.nil_iff.mp z)⟩) (fun z => ?_) (by rw [← r1.length, ← r2.length]; exact hz)
    exact ⟨.ref s.heap.objs.size, _, tnew I s.toks (r1.append r2) (by rw [List.length_append]; exact hz), rfl, q2 hx (fun w => z (r2.nil_iff.mpr w)) _ _ (I.hok.fresh (Nat.le_refl _)) rfl⟩
def rSlF (K : PySem.W.Frag) : V → Option Int → Option Int → Hp → VK → Prop := fun x lo hi H Q => ∃ a xs, x = .ref a ∧ SqT K H a xs ∧
  (HT.sIx xs.length 0 lo = 0 ∧ HT.sIx xs.length xs.length hi = xs.length → Q (.ref a) H) ∧ (¬ (HT.sIx xs.length 0 lo = 0 ∧ HT.sIx xs.length xs.length hi = xs.length) → NewT H (cutV xs lo hi) Q)
theorem sl_tupF : SlR X (rSlF X.K) := by
  intro pins s σ H x v vl vu lo hi sl Q I rx hs pl pu h
  obtain ⟨a, xs, rfl, hx, q1, q2⟩ := h
  cases rx
  obtain ⟨its, r, ht, hz⟩ := I.tuple hx
  have hlen : its.toArray.size = xs.length := by rw [List.size_toArray]; exact r.length.symm
  refine ⟨"tuple", _, PyProof.Rows.slot_tuple_getitem.lookup, ht.typeIs, ?_⟩
  by_cases hw : HT.sIx xs.length 0 lo = 0 ∧ HT.sIx xs.length xs.length hi = xs.length
  · exact getItem_tuple_whole ht hs pl pu (by rw [hlen]; exact hw) ⟨.ref a, H, I, rfl, q1 hw⟩
  · refine HT.getItem_tuple_cut ht hs pl pu (by rw [hlen]; exact hw) ?_ (by rw [hlen]; exact hz)
    rw [hlen]
    exact ⟨.ref s.heap.objs.size, _, tnew I s.toks ((r.drop (HT.sIx xs.length 0 lo)).take (HT.sIx xs.length xs.length hi - HT.sIx xs.length 0 lo)) (Nat.le_trans (cutV_length xs lo hi) hz), rfl, q2 hw _ _ (I.hok.fresh (Nat.le_refl _)) rfl⟩
def rTupleF (K : PySem.W.Frag) : List V → Hp → VK → Prop := fun xs H Q => ∃ p ys, xs = [.ref p] ∧ ((SqL K H p ys ∧ NewT H ys Q) ∨ (SqT K H p ys ∧ Q (.ref p) H))
theorem call_tupleF : CallR X (.type "tuple") (rTupleF X.K) := by
  intro pins s σ H xs us Q I r h
  obtain ⟨p, ys, rfl, h⟩ := h
  obtain ⟨u, rfl, rx⟩ := vals1 r
  cases rx
  rcases h with ⟨hq, q⟩ | ⟨hq, q⟩
  · obtain ⟨its, r', pl, hz⟩ := I.list hq
    have hlen := r'.length
    refine call_tuple_list pl.isList (fun h' kp => ?_) (by simp only [List.size_toArray] <;> omega)
    have I1 : Inv X pins σ H { s with heap := h' } := I.kept (t' := s.toks) kp
    exact ⟨.ref h'.objs.size, _, tnew I1 s.toks r' hz, rfl, q _ _ (I1.hok.fresh (Nat.le_refl _)) rfl⟩
  · obtain ⟨its, r', pl, hz⟩ := I.tuple hq
    exact call_tuple_same pl ⟨.ref p, H, I, rfl, q⟩
end
end CS
/-! D0d: dicts whose keys are tuples of ints, wherever the tuples come from. -/
namespace CS
open PySem PySem.Spec L2 PyProof.Rows
abbrev IK (P : Program) (w : World) := tupleKind (intKind P w)
def ihash (k : List Int) : Int := reduceHash (Builtin.Tuple.tupleHashOf (k.map hashInt))
theorem ihash_eq (P : Program) (w : World) (k : List Int) : (IK P w).hash k = ihash k := rfl
def entI (x : List Int × Addr × Value) : DictEntry := ⟨ihash x.1, .ref x.2.1, x.2.2⟩
theorem entI_eq (P : Program) (w : World) : entryOfKey (IK P w) = entI := rfl
abbrev Ads := List (List Int × Addr × V)
abbrev KI : Ads → List (List Int × Addr × Value) → Prop := Paired fun p q => p.1 = q.1 ∧ p.2.1 = q.2.1 ∧ RelV p.2.2 q.2.2
def DcH (h : Heap) (a : Addr) (ads : Ads) : Prop := ads.length ≤ sizeLine ∧ (a == sysModules) = false ∧ ∃ xs, KI ads xs ∧ ∃ o es ep, h.get? a = some o ∧ o.ExactDict ∧ o.data = .dict es ep ∧ es.toList = xs.map entI ∧ (xs.map (·.1)).Nodup
def dcO (a : Addr) (ads : Ads) : HO := .ext fun h => DcH h a ads
theorem dcO_new {P : Program} {w : World} {H : Hp} {h : Heap} {a : Addr} {ads : Ads} (R : DcH h a ads) : ObjOk P w H h a (dcO a ads) := by
  have R0 := R
  obtain ⟨_, _, xs, _, o, es, ep, ho, _⟩ := R0
  refine ⟨R, ⟨o, ho⟩, fun h1 h2 p k => ?_⟩
  obtain ⟨z, y, xs', r', o', es', ep', ho', q'⟩ := (show DcH h1 a ads from p)
  exact (show DcH h2 a ads from ⟨z, y, xs', r', o', es', ep', k o' ho', q'⟩)
def valI (ads : Ads) (k : List Int) : Option V := (ads.find? fun e => decide (e.1 = k)).map (·.2.2)
def putI (ads : Ads) (k : List Int) (b : Addr) (v : V) : Ads :=
  if (ads.any fun e => decide (e.1 = k)) = true then ads.map (fun e => if e.1 = k then (e.1, e.2.1, v) else e) else ads ++ [(k, b, v)]
theorem putI_len (ads : Ads) (k : List Int) (b : Addr) (v : V) : (putI ads k b v).length ≤ ads.length + 1 := by
  unfold putI
  split
  · rw [List.length_map]; omega
  · rw [List.length_append]; simp
theorem KI.val {ads : Ads} {xs : List (List Int × Addr × Value)} (r : KI ads xs) (k : List Int) : RelO (valI ads k) ((atKey xs k).map (·.2)) := by
  induction r with
  | nil => exact True.intro
  | @cons p q ps qs h t ih =>
    obtain ⟨h1, _, h2⟩ := h
    by_cases e : p.1 = k
    · have e' : q.1 = k := h1.symm.trans e
      have b : atKey (q :: qs) k = some q.2 := by simp [atKey, List.find?_cons, e']
      have b' : valI (p :: ps) k = some p.2.2 := by simp [valI, List.find?_cons, e]
      rw [b', b]; exact h2
    · have e' : ¬ q.1 = k := fun z => e (h1.trans z)
      have b : atKey (q :: qs) k = atKey qs k := by simp [atKey, List.find?_cons, e']
      have b' : valI (p :: ps) k = valI ps k := by simp [valI, List.find?_cons, e]
      rw [b', b]; exact ih
theorem valI_any (k : List Int) : ∀ ads : Ads, (ads.any fun e => decide (e.1 = k)) = (valI ads k).isSome
  | [] => rfl
  | p :: r => by
    rw [List.any_cons, valI_any k r]
    by_cases e : p.1 = k
    · simp [valI, List.find?_cons, e]
    · simp [valI, List.find?_cons, e]
theorem KI.put {ads : Ads} {xs : List (List Int × Addr × Value)} (r : KI ads xs) (k : List Int) {b : Addr} {y : V} {u : Value} (ry : RelV y u) : KI (putI ads k b y) (storedH xs k b u) := by
  have e : (ads.any fun e => decide (e.1 = k)) = (atKey xs k).isSome := by
    rw [valI_any, (r.val k).isSome_eq, Option.isSome_map]
  unfold putI storedH
  rw [e]
  by_cases q : (atKey xs k).isSome = true
  · rw [if_pos q, if_pos q]
    clear e q
    induction r with
    | nil => exact .nil
    | @cons p q ps qs h t ih =>
      rw [List.map_cons, List.map_cons]
      refine .cons ?_ ih
      obtain ⟨h1, h2, h3⟩ := h
      unfold putAt
      by_cases e : p.1 = k
      · rw [if_pos e, if_pos (h1.symm.trans e)]; exact ⟨h1, h2, ry⟩
      · rw [if_neg e, if_neg (fun z => e (h1.trans z))]; exact ⟨h1, h2, h3⟩
  · rw [if_neg q, if_neg q]; exact Paired.snoc r ⟨rfl, rfl, ry⟩
/-- the dict, its keys' tuples -/
def DcA (K : PySem.W.Frag) (H : Hp) (a : Addr) (ads : Ads) : Prop := H a = some (dcO a ads) ∧ ∀ e ∈ ads, SqT K H e.2.1 (e.1.map V.int)
section
variable {X : Cx} {pins : List (Addr × Obj)} {σ : L2.St} {H : Hp} {s : Shared} {a : Addr} {ads : Ads} {A : Around} {E : Value → Shared → Prop}
theorem dc_of (I : Inv X pins σ H s) (h : DcA X.K H a ads) : ads.length ≤ sizeLine ∧ (a == sysModules) = false ∧ ∃ xs, KI ads xs ∧ s.heap.DictOfH (IK X.prog X.w) a xs := by
  obtain ⟨h1, h2⟩ := h
  obtain ⟨z, y, xs, r, o, es, ep, ho, hx, hd, he, hn⟩ := (show DcH s.heap a ads from (I.hok a _ h1).1)
  refine ⟨z, y, xs, r, o, es, ep, ho, hx, hd, he, ?_, hn⟩
  have all : ∀ {l : Ads} {m : List (List Int × Addr × Value)}, KI l m → (∀ e ∈ l, SqT X.K H e.2.1 (e.1.map V.int)) → ∀ x ∈ m, (IK X.prog X.w).is s.heap x.1 x.2.1 := by
    intro l m q
    induction q with
    | nil => intro _ x hx; exact nomatch hx
    | @cons p q ps qs hq t ih =>
      intro hl x hx
      rcases List.mem_cons.mp hx with e | hx
      · subst e
        have := I.isT (hl p List.mem_cons_self)
        rw [hq.1, hq.2.1] at this
        exact this
      · exact ih (fun e he => hl e (List.mem_cons_of_mem _ he)) x hx
  exact all r h2
theorem dc_new {H' : Hp} {h' : Heap} {xs : List (List Int × Addr × Value)} (z : ads.length ≤ sizeLine) (hd : (a == sysModules) = false) (r : KI ads xs) (dd : h'.DictOfH (IK X.prog X.w) a xs) : ObjOk X.prog X.w H' h' a (dcO a ads) := by
  obtain ⟨o, es, ep, h1, h2, h3, h4, _, h5⟩ := dd
  exact dcO_new ⟨z, hd, xs, r, o, es, ep, h1, h2, h3, h4, h5⟩
end
def tDGetI (K : PySem.W.Frag) (td ty : TE) : TE := fun σ H Q => td σ H fun x H1 => ty σ H1 fun y H2 => ∃ a ads k b v, x = .ref a ∧ DcA K H2 a ads ∧ y = .ref b ∧ SqT K H2 b (k.map V.int) ∧ valI ads k = some v ∧ Q v H2
def tDNotInI (K : PySem.W.Frag) (ty td : TE) : TE := fun σ H Q => ty σ H fun y H1 => td σ H1 fun x H2 => ∃ a ads k b, x = .ref a ∧ DcA K H2 a ads ∧ y = .ref b ∧ SqT K H2 b (k.map V.int) ∧ Q (.bl (!(valI ads k).isSome)) H2
def sDPutI (K : PySem.W.Frag) (td ty tv : TE) : TS := fun D σ H => tv σ H fun v H1 => td σ H1 fun x H2 => ty σ H2 fun y H3 => ∃ a ads k b, x = .ref a ∧ DcA K H3 a ads ∧ y = .ref b ∧ SqT K H3 b (k.map V.int) ∧ ads.length < sizeLine ∧ D.nx σ (upd H3 a (dcO a (putI ads k b v)))
def tDNewI : TE := fun _ H Q => ∀ p, H p = none → Q (.ref p) (upd H p (dcO p []))
section
variable {X : Cx} {o i e value : Expr} {pos pos' tpos : Pos} {td ty tv : TE}
theorem pe_dgetI (hu : X.A.units + 1 < cLine) (ho : PE X o td) (hi : PE X i ty) (hs : NoSl i) : PE X (.Subscript o i pos) (tDGetI X.K td ty) := by
  refine ⟨fun pins s σ H Q I h => ?_⟩
  refine subD_of PySem.F.slot_dict_getitem.lookup hs (thn (ho.run pins s σ H _ I h) fun u s1 ⟨x, H1, I1, rx, q1⟩ => thn (hi.run pins s1 σ H1 _ I1 q1) fun iv s2 ⟨y, H2, I2, ry, a, ads, k, b, v, ex, g, ey, eb, l, q2⟩ => ?_)
  subst ex ey
  obtain rfl : u = Value.ref a := rx
  cases (show iv = Value.ref b from ry)
  obtain ⟨z, hd, xs, rel, dd⟩ := dc_of I2 g
  obtain ⟨w', hw, rw'⟩ := RelO.some_of (v := v) (o := (atKey xs k).map (·.2)) (by rw [← l]; exact rel.val k)
  obtain ⟨p, hp, hp2⟩ := Option.map_eq_some_iff.mp hw
  refine ⟨dd.typeIs, wpAny_getItem_heap (knd := IK X.prog X.w) (tupleKind_room_in1 hu) (I2.isT eb) dd hp ?_⟩
  rw [hp2]
  exact ⟨v, H2, I2.tok _, rw', q2⟩
theorem pc_dnotinI (hu : X.A.units + 1 < cLine) (hi : PE X i ty) (ho : PE X o td) : PC X .NotIn i o (tDNotInI X.K ty td) := by
  refine ⟨fun pins s σ H Q I h => ?_⟩
  refine thn (hi.run pins s σ H _ I h) fun iv s1 ⟨y, H1, I1, ry, q1⟩ => thn (ho.run pins s1 σ H1 _ I1 q1) fun u s2 ⟨x, H2, I2, rx, a, ads, k, b, ex, g, ey, eb, q2⟩ => ?_
  subst ex ey
  obtain rfl : u = Value.ref a := rx
  cases (show iv = Value.ref b from ry)
  obtain ⟨z, hd, xs, rel, dd⟩ := dc_of I2 g
  refine wpAny_notIn_heap (knd := IK X.prog X.w) (tupleKind_room_in1 hu) (I2.isT eb) hd dd ?_
  have q := (rel.val k).isSome_eq
  rw [Option.isSome_map] at q
  rw [← q]
  exact ⟨.bl (!(valI ads k).isSome), H2, I2.tok _, rfl, q2⟩
theorem ps_dputI (hu : X.A.units + 1 < cLine) (ho : PE X o td) (hi : PE X i ty) (hv : PE X value tv) (hs : swapsWith value (some (.Subscript o i pos')) pos.line X.env = pure false) :
    PS X (.Assign [.Subscript o i pos'] value pos) (sDPutI X.K td ty tv) := by
  refine ⟨fun pins s σ H D I h => ?_⟩
  refine wpAny_Assign_Subscript (thn (hv.run pins s σ H _ I h) fun r s1 ⟨v, H1, I1, rv, q1⟩ => thn (ho.run pins s1 σ H1 _ I1 q1) fun u s2 ⟨x, H2, I2, rx, q2⟩ => thn (hi.run pins s2 σ H2 _ I2 q2) fun iv s3 ⟨y, H3, I3, ry, a, ads, k, b, ex, g, ey, eb, l, q3⟩ => ?_) hs
  subst ex ey
  obtain rfl : u = Value.ref a := rx
  cases (show iv = Value.ref b from ry)
  obtain ⟨z, hd, xs, rel, dd⟩ := dc_of I3 g
  have hz : xs.length ≤ sizeLine := by rw [← Paired.length rel]; exact z
  have hl : (putI ads k b v).length ≤ sizeLine := by have := putI_len ads k b v; omega
  refine wpAny_setItem_heap (knd := IK X.prog X.w) (hsz := hz) (tupleKind_room_in1 hu) (I3.isT eb) dd fun h' dd' hs => ?_
  obtain ⟨q, es, ep, hq, _⟩ := id dd'
  exact ⟨σ, _, d_write I3 (by rw [g.1]; exact True.intro) hs ⟨q, hq⟩ (dc_new hl hd (rel.put k rv) dd'), q3⟩
theorem pe_dnewI : PE X (.Dict [] [] pos) tDNewI := ⟨fun pins s σ H Q I h =>
  wpAny_Dict_empty ⟨.ref s.heap.objs.size, _, I.laid (a := s.heap.objs.size) (o := dcO s.heap.objs.size []) (t' := s.toks) (fun _ _ q => Heap.get?_push_of_some _ q) (Nat.le_refl _)
    (dcO_new ⟨Nat.zero_le _, beq_eq_false_iff_ne.mpr (Ne.symm (Nat.ne_of_lt I.big)), [], .nil, _, #[], 0, Heap.get?_push_size _ rfl, ⟨rfl, rfl, rfl⟩, rfl, rfl, List.nodup_nil⟩), rfl, h _ (I.hok.fresh (Nat.le_refl _))⟩⟩
/-- {k: v} -/
def tDisp1 (K : PySem.W.Frag) (tk tv : TE) : TE := fun σ H Q => ∀ p, H p = none → tk σ (upd H p (dcO p [])) fun y H1 => tv σ H1 fun v H2 => H2 p = some (dcO p []) ∧ ∃ k b, y = .ref b ∧ SqT K H2 b (k.map V.int) ∧ Q (.ref p) (upd H2 p (dcO p [(k, b, v)]))
theorem pe_disp1 (hu : X.A.units + 1 < cLine) (hk : PE X i ty) (hv : PE X value tv) : PE X (.Dict [some i] [value] pos) (tDisp1 X.K ty tv) := by
  refine ⟨fun pins s σ H Q I h => ?_⟩
  have hn := I.hok.fresh (Nat.le_refl s.heap.objs.size)
  have I1 := I.laid (a := s.heap.objs.size) (o := dcO s.heap.objs.size []) (h' := s.heap.push { cls := .type "dict", data := .dict #[] }) (t' := s.toks) (fun _ _ q => Heap.get?_push_of_some _ q) (Nat.le_refl _)
    (dcO_new ⟨Nat.zero_le _, beq_eq_false_iff_ne.mpr (Ne.symm (Nat.ne_of_lt I.big)), [], .nil, _, #[], 0, Heap.get?_push_size _ rfl, ⟨rfl, rfl, rfl⟩, rfl, rfl, List.nodup_nil⟩)
  have hsh := zip_pairTrees [some i] [value] X.env pos rfl rfl
  rw [arm_eval_Dict, hsh, dictDisplay_pairs (pairTrees [some i] [value] X.env pos) (by simp [pairTrees]) (by simp [pairTrees])]
  refine wpAny_bind (wpAny_standAt (wpAny_bind (wpAny_subDictH (knd := IK X.prog X.w) (by show X.A.units < cLine; omega) (by simp [pairTrees]) ?_)))
  refine pairTrees_cons_walk (thn (hk.run pins _ σ _ _ I1 (h _ hn)) fun u s1 ⟨y, H1, I2, ry, q1⟩ => thn (hv.run pins s1 σ H1 _ I2 q1) fun w2 s2 ⟨v, H2, I3, rv, e, k, b, ey, eb, q2⟩ => pairTrees_nil_walk ?_)
  subst ey
  cases (show u = Value.ref b from ry)
  obtain ⟨z, hd, xs, rel, dd⟩ := dc_of I3 (⟨e, fun _ hx => nomatch hx⟩ : DcA X.K H2 _ [])
  cases rel
  refine ⟨[(k, b, w2)], ⟨rfl, rfl, I3.isT eb, trivial⟩, dd, fun h' tk dk hs => wpAny_pure ?_⟩
  obtain ⟨q, es, ep, hq, _⟩ := id dk
  have I4 : Inv X pins σ (upd H2 s.heap.objs.size (dcO s.heap.objs.size [(k, b, v)])) { s2 with heap := h', toks := tk } :=
    d_write I3 (by rw [e]; exact True.intro) hs ⟨q, hq⟩ (dc_new (by rw [sizeLine_eq]; simp) hd (.cons ⟨rfl, rfl, rv⟩ .nil) dk)
  exact ⟨.ref s.heap.objs.size, _, I4, rfl, q2⟩
/-- sorted(d), fewer than 64 keys of one length, each number in [0, 64) -/
def rSortDc (K : PySem.W.Frag) : List V → Hp → VK → Prop := fun vs H Q => ∃ (a : Addr) (ads : Ads) (d : Nat), vs = [.ref a] ∧ DcA K H a ads ∧ ads.length < 64 ∧ 1 ≤ d ∧ (∀ e ∈ ads, e.1.length = d ∧ TS.Bd 64 e.1) ∧
  ∀ (L : Ads) (p : Addr), L.Perm ads → (L.map (·.1)).Nodup → L.Pairwise (fun q r => TS.code 64 q.1 ≤ TS.code 64 r.1) → H p = none → Q (.ref p) (upd H p (.lst (L.map fun e => V.ref e.2.1)))
theorem pick_addr {ads : Ads} : ∀ vs : List Value, (∀ v ∈ vs, v ∈ ads.map fun e => Value.ref e.2.1) → ∃ L : Ads, vs = L.map (fun e => Value.ref e.2.1) ∧ ∀ e ∈ L, e ∈ ads
  | [], _ => ⟨[], rfl, fun e he => nomatch he⟩
  | v :: vs, h => by
    obtain ⟨e, he, ev⟩ := List.mem_map.mp (h v List.mem_cons_self)
    obtain ⟨L, h1, h2⟩ := pick_addr (ads := ads) vs fun u hu => h u (List.mem_cons_of_mem _ hu)
    refine ⟨e :: L, by rw [List.map_cons, ev, h1], fun r hr => ?_⟩
    rcases List.mem_cons.mp hr with z | z
    · rw [z]; exact he
    · exact h2 r z
theorem pick_perm {ads L : Ads} (inj : ∀ e ∈ ads, ∀ f ∈ ads, e.2.1 = f.2.1 → e = f) (sub : ∀ e ∈ L, e ∈ ads) (nd : (ads.map (·.1)).Nodup) (p : (L.map (fun e => Value.ref e.2.1)).Perm (ads.map fun e => Value.ref e.2.1)) : L.Perm ads := by
  have nA : ads.Nodup := nodup_of_map nd
  have nref : (ads.map fun e => Value.ref e.2.1).Nodup := by
    refine List.pairwise_map.mpr (List.Pairwise.imp_of_mem (fun {q r} hq hr hne e => ?_) nA)
    injection e with e
    exact hne (inj q hq r hr e)
  have n1 : L.Nodup := nodup_of_map (p.nodup_iff.mpr nref)
  refine (List.perm_ext_iff_of_nodup n1 nA).mpr fun q => ⟨sub q, fun hq => ?_⟩
  have hm : Value.ref q.2.1 ∈ L.map (fun e => Value.ref e.2.1) := p.mem_iff.mpr (List.mem_map.mpr ⟨q, hq, rfl⟩)
  obtain ⟨r, hr, e⟩ := List.mem_map.mp hm
  injection e with e
  rw [← inj r (sub r hr) q hq e]
  exact hr
theorem cr_sortDc (hc : X.calm = true) : CallR X (.builtin "sorted") (rSortDc X.K) := by
  intro pins s σ H vs us Q I r h
  obtain ⟨a, ads, d, rfl, g, h64, hd1, hB, q⟩ := h
  rw [Vals.ref1 r]
  obtain ⟨z, lo, xs, rel, o, es, ep, ho, hx, hdt, he, his, hn⟩ := dc_of I g
  have l1 : es.size = xs.length := size_of_entries he
  have l2 : ads.length = xs.length := Paired.length rel
  have keys : ∀ {l : Ads} {m : List (List Int × Addr × Value)}, KI l m → m.map (·.1) = l.map (·.1) ∧ (m.map fun x => Value.ref x.2.1) = l.map fun e => Value.ref e.2.1 := by
    intro l m q
    induction q with
    | nil => exact ⟨rfl, rfl⟩
    | cons h t ih => exact ⟨by rw [List.map_cons, List.map_cons, ih.1, h.1], by rw [List.map_cons, List.map_cons, ih.2, h.2.1]⟩
  obtain ⟨k1, k2⟩ := keys rel
  have nd : (ads.map (·.1)).Nodup := by rw [← k1]; exact hn
  refine Calls.call_function_entry kind_sorted plain_sorted entry_sorted (args_sorted1 _) ?_
  unfold Builtin.«sorted»
  refine wpAny_bind (m := checkCount "sorted" 1 1 _) (wpAny_pure ?_)
  refine wpAny_bind (PySem.W.kdu_collect (A := X.A.in1) (kdl_raw lo hx hdt) (I.ok.hd hc) ho (by rw [l1, ← l2, sizeLine_eq]; omega) fun h' tk acc hk hacc => ?_)
  have ea : acc.toList = xs.map fun x => Value.ref x.2.1 := by
    have hl : acc.toList.length = xs.length := by rw [Array.length_toList, hacc.1]; exact l1
    apply List.ext_getElem?
    intro j
    rw [List.getElem?_map]
    cases hj : acc.toList[j]? with
    | none =>
      have h1 := List.getElem?_eq_none_iff.mp hj
      rw [List.getElem?_eq_none (by omega)]
      all_goals rfl
    | some v =>
      obtain ⟨en, hen, hv⟩ := hacc.2 j v (by rw [← Array.getElem?_toList]; exact hj)
      have qe := entry_at he j
      rw [hen] at qe
      cases hb : xs[j]? with
      | none =>
        rw [hb] at qe
        exact nomatch (show some en = none from qe)
      | some b =>
        rw [hb] at qe
        have e2 : en = entryOfKey (IK X.prog X.w) b := Option.some.inj qe
        rw [hv, e2]
        all_goals rfl
  have hv : acc.toList = ads.map fun e => Value.ref e.2.1 := ea.trans k2
  have hvl : acc.toList.length < 64 := by rw [hv, List.length_map]; exact h64
  have I1 : Inv X pins σ H { s with heap := h', toks := tk } := I.kept hk
  refine wpAny_bind (wpAny_newList ?_ (by rw [sizeLine_eq]; omega))
  have hoL : (h'.push (seqObj "list" acc.toList.toArray 0)).get? h'.objs.size = some (seqObj "list" acc.toList.toArray 0) := Heap.get?_push_size _ rfl
  have tk1 : ∀ e ∈ ads, TS.TupInts (h'.push (seqObj "list" acc.toList.toArray 0)) (.ref e.2.1) e.1 := fun e he => tupInts_of (P := X.prog) (w := X.w) (isT_keep (I.isT (g.2 e he)) fun b u q => Heap.get?_push_of_some _ (hk b u q))
  have x : TS.TupsOk (h'.push (seqObj "list" acc.toList.toArray 0)) d 64 acc.toList := fun v hvm => by
    rw [hv] at hvm
    obtain ⟨e, he, ev⟩ := List.mem_map.mp hvm
    rw [← ev]
    exact ⟨e.1, tk1 e he, (hB e he).1, (hB e he).2⟩
  have inj : ∀ e ∈ ads, ∀ f ∈ ads, e.2.1 = f.2.1 → e = f := fun e he f hf z2 => by
    have a1 := (tk1 e he).ints
    have a2 := (tk1 f hf).ints
    rw [z2] at a1
    have e3 : e.1 = f.1 := a1.symm.trans a2
    obtain ⟨i, hi⟩ := List.mem_iff_getElem?.mp he
    obtain ⟨j, hj⟩ := List.mem_iff_getElem?.mp hf
    have hi' : (ads.map (·.1))[i]? = some e.1 := by rw [List.getElem?_map, hi]; rfl
    have hj' : (ads.map (·.1))[j]? = some f.1 := by rw [List.getElem?_map, hj]; rfl
    have : i = j := (List.getElem?_inj (List.getElem?_eq_some_iff.mp hi').1 nd).mp (by rw [hi', hj', e3])
    subst this
    exact Option.some.inj (hi.symm.trans hj)
  show wpAny _ _ _ _ _ { s with heap := h'.push (seqObj "list" acc.toList.toArray 0), toks := tk }
  refine wpAny_bind (wpAny_holding (TS.call_sort_tups (s := { s with heap := h'.push (seqObj "list" acc.toList.toArray 0), toks := tk }) hoL hvl hd1 x fun out a1 a2 => ?_))
  obtain ⟨c, hcc⟩ := sortedHeap_at (vs := acc.toList) (out := out) hoL
  obtain ⟨L, e', hs'⟩ := pick_addr (ads := ads) out.toList fun v hvm => by
    rw [← hv]
    exact a1.mem_iff.mp hvm
  have pL : L.Perm ads := pick_perm inj hs' nd (by rw [← e', ← hv]; exact a1)
  have pw : L.Pairwise (fun q r => TS.code 64 q.1 ≤ TS.code 64 r.1) := by
    rw [e'] at a2
    refine List.Pairwise.imp_of_mem (fun {q r} hq hr hle => ?_) (List.pairwise_map.mp a2)
    rw [← (tk1 q (hs' q hq)).ints, ← (tk1 r (hs' r hr)).ints]
    exact hle
  have hlen : (L.map fun e => V.ref e.2.1).length ≤ sizeLine := by
    rw [List.length_map, pL.length_eq, sizeLine_eq]; omega
  have hvv : ∀ M : Ads, Vals (M.map fun e => V.ref e.2.1) (M.map fun e => Value.ref e.2.1) := fun M => by
    induction M with
    | nil => exact .nil
    | cons e M ih => exact .cons rfl ih
  refine wpAny_pure ⟨_, rfl, .ref h'.objs.size, upd H h'.objs.size (.lst (L.map fun e => V.ref e.2.1)), I1.laid (t' := tk) (fun b u e => ?_) (Nat.le_refl _)
    (show ObjOk X.prog X.w _ _ _ (.lst _) from ⟨hlen, out.toList, c, by rw [e']; exact hvv L, by rw [Array.toArray_toList]; exact hcc⟩), rfl, q L _ pL ((pL.map (·.1)).nodup_iff.mpr nd) pw (I1.hok.fresh (Nat.le_refl _))⟩
  have hb : b < h'.objs.size := Heap.lt_size e
  show (sortedHeap (h'.push (seqObj "list" acc.toList.toArray 0)) h'.objs.size acc.toList out).get? b = some u
  rw [sortedHeap_old (Nat.ne_of_lt hb) (by rw [size_push']; exact Nat.lt_succ_of_lt hb)]
  exact Heap.get?_push_of_some _ e
end
end CS
/-! D1: values as data over the abstract heap; readings that give data. -/
namespace CS
open PySem L2

/-- the heap without what is owned -/
def hid (O : List Addr) (H : Hp) : Hp := fun b => if b ∈ O then none else H b
theorem hid_out {O : List Addr} {H : Hp} {b : Addr} (h : b ∉ O) : hid O H b = H b := by unfold hid; rw [if_neg h]
theorem hid_some {O : List Addr} {H : Hp} {b : Addr} {o : HO} (h : hid O H b = some o) : b ∉ O ∧ H b = some o := by
  unfold hid at h
  split at h
  · cases h
  · rename_i hn; exact ⟨hn, h⟩
theorem hid_sub (O : List Addr) (H : Hp) : Same (hid O H) H := fun b o h => (hid_some h).2
theorem hid_same {O : List Addr} {H H' : Hp} (s : Same H H') : Same (hid O H) (hid O H') := fun b o h => by
  obtain ⟨h1, h2⟩ := hid_some h
  rw [hid_out h1]; exact s b o h2
theorem hid_le {O O' : List Addr} {H : Hp} (s : ∀ b ∈ O, b ∈ O') : Same (hid O' H) (hid O H) := fun b o h => by
  obtain ⟨h1, h2⟩ := hid_some h
  rw [hid_out fun z => h1 (s b z)]; exact h2
theorem hid_nil {H : Hp} : hid [] H = H := by funext b; unfold hid; simp
/-- what is owned stands in the heap -/
def Trk (O : List Addr) (H : Hp) : Prop := ∀ l ∈ O, ∃ o, H l = some o ∧ Mut (some o)
theorem Trk.same {O : List Addr} {H H' : Hp} (t : Trk O H) (s : Same H H') : Trk O H' := fun l hl => let ⟨o, h, m⟩ := t l hl; ⟨o, s l o h, m⟩
theorem Trk.new {O : List Addr} {H : Hp} (t : Trk O H) {p : Addr} (h : H p = none) : p ∉ O := fun hp => by
  obtain ⟨o, e, _⟩ := t p hp
  rw [h] at e; cases e
theorem Trk.nil {H : Hp} : Trk [] H := fun _ h => nomatch h
theorem same_new {H : Hp} {p : Addr} {o : HO} (h : H p = none) : Same H (upd H p o) := fun b u e => by rw [upd_ne (ne_of_none e h)]; exact e
theorem Same.sqT {K : PySem.W.Frag} {H H' : Hp} {a : Addr} {xs : List V} (e : Same H H') (h : SqT K H a xs) : SqT K H' a xs := by
  rcases h with (h | ⟨o, h⟩) | h
  · exact .inl (.inl (e _ _ h))
  · exact .inl (.inr ⟨o, e _ _ h⟩)
  · exact .inr h

theorem TupOk.same {K : PySem.W.Frag} {H H' : Hp} {a : Addr} {xs : List V} (e : Same H H') (h : TupOk K H a xs) : TupOk K H' a xs := by
  rcases h with ⟨o, h, d⟩ | h
  · exact .inl ⟨o, e _ _ h, d⟩
  · exact .inr h
mutual
/-- the value stands for the data -/
inductive Dt (K : PySem.W.Frag) (H : Hp) : V → PyData → Prop
  | non : Dt K H .non .none
  | bl (b : Bool) : Dt K H (.bl b) (.bool b)
  | int (i : Int) : Dt K H (.int i) (.int i)
  | str (x : Str) : x.length ≤ 65536 → Dt K H (.str x) (.str x)
  | lst {a : Addr} {xs : List V} {ds : List PyData} : H a = some (.lst xs) → xs.length ≤ 65536 → DtAll K H xs ds → Dt K H (.ref a) (.list ds)
  | tup {a : Addr} {xs : List V} {ds : List PyData} : TupOk K H a xs → xs.length ≤ 65536 → DtAll K H xs ds → Dt K H (.ref a) (.tuple ds)
  | scr {a : Addr} {xs : List V} {ds : List PyData} : SqL K H a xs → xs.length ≤ 65536 → DtAll K H xs ds → Dt K H (.ref a) (.dict [(.list ds, .none)])
  | exc (a k : Nat) : Dt K H (.ref a) (.dict [(.int a, .int k)])
inductive DtAll (K : PySem.W.Frag) (H : Hp) : List V → List PyData → Prop
  | nil : DtAll K H [] []
  | cons {v : V} {vs : List V} {d : PyData} {ds : List PyData} : Dt K H v d → DtAll K H vs ds → DtAll K H (v :: vs) (d :: ds)
end

mutual
theorem Dt.same {K : PySem.W.Frag} {H H' : Hp} (s : Same H H') : ∀ {v : V} {d : PyData}, Dt K H v d → Dt K H' v d
  | _, _, .non => .non
  | _, _, .bl b => .bl b
  | _, _, .int i => .int i
  | _, _, .str x h => .str x h
  | _, _, .lst h1 h2 h3 => .lst (s _ _ h1) h2 (DtAll.same s h3)
  | _, _, .tup h1 h2 h3 => .tup (TupOk.same s h1) h2 (DtAll.same s h3)
  | _, _, .scr h1 h2 h3 => .scr (Same.seq s h1) h2 (DtAll.same s h3)
  | _, _, .exc a k => .exc a k
theorem DtAll.same {K : PySem.W.Frag} {H H' : Hp} (s : Same H H') : ∀ {vs : List V} {ds : List PyData}, DtAll K H vs ds → DtAll K H' vs ds
  | _, _, .nil => .nil
  | _, _, .cons h t => .cons (Dt.same s h) (DtAll.same s t)
end
theorem DtAll.length {K : PySem.W.Frag} {H : Hp} : ∀ {vs : List V} {ds : List PyData}, DtAll K H vs ds → vs.length = ds.length
  | _, _, .nil => rfl
  | _, _, .cons _ t => by rw [List.length_cons, List.length_cons, DtAll.length t]
theorem DtAll.append {K : PySem.W.Frag} {H : Hp} : ∀ {vs ws : List V} {ds es : List PyData}, DtAll K H vs ds → DtAll K H ws es → DtAll K H (vs ++ ws) (ds ++ es)
  | _, _, _, _, .nil, h => h
  | _, _, _, _, .cons h t, q => .cons h (DtAll.append t q)
theorem DtAll.get {K : PySem.W.Frag} {H : Hp} : ∀ {vs : List V} {ds : List PyData} {i : Nat} {d : PyData}, DtAll K H vs ds → ds[i]? = some d → ∃ v, vs[i]? = some v ∧ Dt K H v d
  | _, _, 0, _, .cons h _, e => by simp at e; subst e; exact ⟨_, rfl, h⟩
  | _, _, i + 1, _, .cons _ t, e => by
    obtain ⟨v, h1, h2⟩ := DtAll.get (i := i) t (by simpa using e)
    exact ⟨v, by simpa using h1, h2⟩
theorem DtAll.getV {K : PySem.W.Frag} {H : Hp} : ∀ {vs : List V} {ds : List PyData} {i : Nat} {v : V}, DtAll K H vs ds → vs[i]? = some v → ∃ d, ds[i]? = some d ∧ Dt K H v d
  | _, _, 0, _, .cons h _, e => by simp at e; subst e; exact ⟨_, rfl, h⟩
  | _, _, i + 1, _, .cons _ t, e => by
    obtain ⟨d, h1, h2⟩ := DtAll.getV (i := i) t (by simpa using e)
    exact ⟨d, by simpa using h1, h2⟩
theorem DtAll.take {K : PySem.W.Frag} {H : Hp} : ∀ {vs : List V} {ds : List PyData} (n : Nat), DtAll K H vs ds → DtAll K H (vs.take n) (ds.take n)
  | _, _, 0, _ => by simp; exact .nil
  | _, _, n + 1, .nil => by simp; exact .nil
  | _, _, n + 1, .cons h t => by simp; exact .cons h (DtAll.take n t)
theorem DtAll.drop {K : PySem.W.Frag} {H : Hp} : ∀ {vs : List V} {ds : List PyData} (n : Nat), DtAll K H vs ds → DtAll K H (vs.drop n) (ds.drop n)
  | _, _, 0, h => by simp; exact h
  | _, _, n + 1, .nil => by simp; exact .nil
  | _, _, n + 1, .cons h t => by simp; exact DtAll.drop n t
theorem DtAll.reverse {K : PySem.W.Frag} {H : Hp} : ∀ {vs : List V} {ds : List PyData}, DtAll K H vs ds → DtAll K H vs.reverse ds.reverse
  | _, _, .nil => .nil
  | _, _, .cons h t => by
    rw [List.reverse_cons, List.reverse_cons]
    exact DtAll.append (DtAll.reverse t) (.cons h .nil)
theorem DtAll.eraseIdx {K : PySem.W.Frag} {H : Hp} : ∀ {vs : List V} {ds : List PyData} (n : Nat), DtAll K H vs ds → DtAll K H (vs.eraseIdx n) (ds.eraseIdx n)
  | _, _, 0, .nil => .nil
  | _, _, n + 1, .nil => .nil
  | _, _, 0, .cons _ t => t
  | _, _, n + 1, .cons h t => .cons h (DtAll.eraseIdx n t)
theorem DtAll.ints {K : PySem.W.Frag} {H : Hp} : ∀ ns : List Int, DtAll K H (ns.map V.int) (ns.map PyData.int)
  | [] => .nil
  | n :: ns => .cons (.int n) (DtAll.ints ns)
theorem DtAll.strs {K : PySem.W.Frag} {H : Hp} : ∀ ns : List Str, (∀ x ∈ ns, x.length ≤ 65536) → DtAll K H (ns.map V.str) (ns.map PyData.str)
  | [], _ => .nil
  | n :: ns, h => .cons (.str n (h n List.mem_cons_self)) (DtAll.strs ns fun x hx => h x (List.mem_cons_of_mem _ hx))
/-- ints stand for ints alone -/
theorem DtAll.asInts {K : PySem.W.Frag} {H : Hp} : ∀ {vs : List V} {ns : List Int}, DtAll K H vs (ns.map PyData.int) → vs = ns.map V.int
  | [], [], _ => rfl
  | [], _ :: _, h => by cases h
  | _ :: _, [], h => by cases h
  | v :: vs, n :: ns, h => by
    cases h with
    | cons h t =>
      cases h
      rw [DtAll.asInts (ns := ns) t]; rfl

mutual
/-- data of the library's kind -/
theorem Dt.dp {K : PySem.W.Frag} {H : Hp} : ∀ {v : V} {d : PyData}, d.canLay0 = true → Dt K H v d → Dp K H v d
  | _, _, _, .non => .non
  | _, _, _, .bl b => .bl b
  | _, _, _, .int i => .int i
  | _, _, _, .str x _ => .str x
  | _, _, hl, .lst h1 h2 h3 => .lst (SqL.of h1) (DtAll.dp (by simpa [PyData.canLay0] using hl) h3)
  | _, _, hl, .tup h1 h2 h3 => .tup h1.sq (DtAll.dp (by simpa [PyData.canLay0] using hl) h3)
  | _, _, hl, .scr _ _ _ => by simp [PyData.canLay0] at hl
  | _, _, hl, .exc _ _ => by simp [PyData.canLay0] at hl
theorem DtAll.dp {K : PySem.W.Frag} {H : Hp} : ∀ {vs : List V} {ds : List PyData}, PyData.canLayAll0 ds = true → DtAll K H vs ds → DpAll K H vs ds
  | _, _, _, .nil => .nil
  | _, _, hl, .cons h t => by
    rw [PyData.canLayAll0, Bool.and_eq_true] at hl
    exact .cons (Dt.dp hl.1 h) (DtAll.dp hl.2 t)
end

/-! ### without lists -/
mutual
def flatD : PyData → Bool
  | .none => true | .bool _ => true | .int _ => true | .str _ => true
  | .tuple ds => flatDs ds
  | _ => false
def flatDs : List PyData → Bool
  | [] => true
  | d :: ds => flatD d && flatDs ds
end
mutual
theorem Dt.freed {K : PySem.W.Frag} {H : Hp} {O : List Addr} (t : Trk O H) : ∀ {v : V} {d : PyData}, flatD d = true → Dt K H v d → Dt K (hid O H) v d
  | _, _, _, .non => .non
  | _, _, _, .bl b => .bl b
  | _, _, _, .int i => .int i
  | _, _, _, .str x h => .str x h
  | _, _, hl, .lst h1 h2 h3 => by simp [flatD] at hl
  | _, _, hl, .tup (a := a) (xs := xs) h1 h2 h3 => by
    refine .tup ?_ h2 (DtAll.freed t (by simpa [flatD] using hl) h3)
    rcases h1 with ⟨o, h, d⟩ | h
    · refine .inl ⟨o, ?_, d⟩
      rw [hid_out]; exact h
      intro hm
      obtain ⟨o, e, m⟩ := t _ hm
      rw [h] at e; cases e; exact m
    · exact .inr h
  | _, _, hl, .scr _ _ _ => by simp [flatD] at hl
  | _, _, hl, .exc _ _ => by simp [flatD] at hl
theorem DtAll.freed {K : PySem.W.Frag} {H : Hp} {O : List Addr} (t : Trk O H) : ∀ {vs : List V} {ds : List PyData}, flatDs ds = true → DtAll K H vs ds → DtAll K (hid O H) vs ds
  | _, _, _, .nil => .nil
  | _, _, hl, .cons h q => by
    rw [flatDs, Bool.and_eq_true] at hl
    exact .cons (Dt.freed t hl.1 h) (DtAll.freed t hl.2 q)
end

/-! ### new objects -/
theorem hid_new {O : List Addr} {H : Hp} {p : Addr} {o : HO} (t : Trk O H) (h : H p = none) : hid O (upd H p o) p = some o := by
  rw [hid_out (t.new h), upd_same]
theorem Dt.newTup {K : PySem.W.Frag} {O : List Addr} {H : Hp} {p : Addr} {o : Obj} {xs : List V} {ds : List PyData} (t : Trk O H) (h : H p = none) (d : o.dict = none) (a : DtAll K (hid O H) xs ds) (hl : xs.length ≤ 65536) :
    Dt K (hid O (upd H p (.frz o (.tup xs)))) (.ref p) (.tuple ds) :=
  .tup (.inl ⟨o, hid_new t h, d⟩) hl (a.same (hid_same (same_new h)))
theorem Dt.newLst {K : PySem.W.Frag} {O : List Addr} {H : Hp} {p : Addr} {xs : List V} {ds : List PyData} (t : Trk O H) (h : H p = none) (a : DtAll K (hid O H) xs ds) (hl : xs.length ≤ 65536) :
    Dt K (hid O (upd H p (.lst xs))) (.ref p) (.list ds) :=
  .lst (hid_new t h) hl (a.same (hid_same (same_new h)))

/-! ### environments and readings -/
inductive Cell where
  | no
  | dat (d : PyData)
  | own (ds : List PyData)
  | dct (kvs : List (List Key × PyData))
abbrev Ev := List Cell
/-- a dict's pairs stand for data -/
def KvD (K : PySem.W.Frag) (H : Hp) : List (List Key × V) → List (List Key × PyData) → Prop := Paired fun p q => p.1 = q.1 ∧ Dt K H p.2 q.2
theorem pairedMap {α β : Type} {F G : α → β → Prop} : ∀ {l₁ : List α} {l₂ : List β}, Paired F l₁ l₂ → (∀ a b, F a b → G a b) → Paired G l₁ l₂
  | _, _, .nil, _ => .nil
  | _, _, .cons r t, f => .cons (f _ _ r) (pairedMap t f)
theorem KvD.same {K : PySem.W.Frag} {H H' : Hp} (s : Same H H') {a : List (List Key × V)} {b : List (List Key × PyData)} (h : KvD K H a b) : KvD K H' a b := pairedMap h fun _ _ q => ⟨q.1, q.2.same s⟩
def vsOf (ads : Ads) : List (List Key × V) := ads.map fun e => (e.1.map Sum.inl, e.2.2)
/-- a dict whose keys are tuples of ints -/
def DOb (K : PySem.W.Frag) (H : Hp) (l : Addr) (vs : List (List Key × V)) : Prop := ∃ ads : Ads, vs = vsOf ads ∧ H l = some (dcO l ads) ∧ ∀ e ∈ ads, TupOk K H e.2.1 (e.1.map V.int)
theorem DOb.same {K : PySem.W.Frag} {H H' : Hp} (s : Same H H') {l : Addr} {vs : List (List Key × V)} (h : DOb K H l vs) : DOb K H' l vs :=
  let ⟨ads, h1, h2, h3⟩ := h; ⟨ads, h1, s _ _ h2, fun e he => (h3 e he).same s⟩
theorem DOb.upd {K : PySem.W.Frag} {H : Hp} {l l' : Addr} {u : HO} {vs : List (List Key × V)} (h : DOb K H l vs) (ne : l ≠ l') (mu : Mut (H l')) : DOb K (upd H l' u) l vs := by
  obtain ⟨ads, h1, h2, h3⟩ := h
  refine ⟨ads, h1, by rw [upd_ne ne]; exact h2, fun e he => ?_⟩
  rcases h3 e he with ⟨o, g, d⟩ | g
  · refine .inl ⟨o, ?_, d⟩
    rw [upd_ne]; exact g
    intro z
    rw [← z, g] at mu
    exact mu
  · exact .inr g
theorem DOb.at_ {K : PySem.W.Frag} {H : Hp} {l : Addr} {vs : List (List Key × V)} (h : DOb K H l vs) : ∃ u, H l = some u := let ⟨_, _, h2, _⟩ := h; ⟨_, h2⟩
/-- the dicts among the slots -/
def DctD (K : PySem.W.Frag) (O : List Addr) (σ : St) (H : Hp) (ρ : Ev) : Prop := ∀ (i : Nat) (kvs : List (List Key × PyData)), ρ[i]? = some (.dct kvs) → ∃ (l : Addr) (vs : List (List Key × V)), σ[i]? = some (some (.ref l)) ∧ DOb K H l vs ∧ KvD K (hid O H) vs kvs
theorem DctD.same {K : PySem.W.Frag} {O : List Addr} {σ : St} {H H' : Hp} {ρ : Ev} (r : DctD K O σ H ρ) (s : Same H H') : DctD K O σ H' ρ := fun i kvs e => let ⟨l, vs, h1, h2, h3⟩ := r i kvs e; ⟨l, vs, h1, h2.same s, h3.same (hid_same s)⟩
def RepD (K : PySem.W.Frag) (O : List Addr) (σ : St) (H : Hp) (ρ : Ev) : Prop :=
  Trk O H ∧ (σ.length = ρ.length ∧ ∀ (i : Nat) (d : PyData), ρ[i]? = some (.dat d) → ∃ v, σ[i]? = some (some v) ∧ Dt K (hid O H) v d) ∧ DctD K O σ H ρ
theorem RepD.same {K : PySem.W.Frag} {O : List Addr} {σ : St} {H H' : Hp} {ρ : Ev} (r : RepD K O σ H ρ) (s : Same H H') : RepD K O σ H' ρ :=
  ⟨r.1.same s, ⟨r.2.1.1, fun i d h => let ⟨v, h1, h2⟩ := r.2.1.2 i d h; ⟨v, h1, h2.same (hid_same s)⟩⟩, r.2.2.same s⟩

/-- an expression's reading gives data -/
def EvE (K : PySem.W.Frag) (t : TE) (f : Ev → Option PyData) : Prop :=
  ∀ (O : List Addr) (σ : St) (H : Hp) (ρ : Ev) (d : PyData), RepD K O σ H ρ → f ρ = some d → ∀ Q : VK, (∀ v H', Same H H' → Dt K (hid O H') v d → Q v H') → t σ H Q
def EvA (K : PySem.W.Frag) (t : TA) (f : Ev → Option (List PyData)) : Prop :=
  ∀ (O : List Addr) (σ : St) (H : Hp) (ρ : Ev) (ds : List PyData), RepD K O σ H ρ → f ρ = some ds → ∀ Q : List V → Hp → Prop, (∀ vs H', Same H H' → DtAll K (hid O H') vs ds → Q vs H') → t σ H Q
def EvT (K : PySem.W.Frag) (t : TT) (f : Ev → Option Bool) : Prop :=
  ∀ (O : List Addr) (σ : St) (H : Hp) (ρ : Ev) (b : Bool), RepD K O σ H ρ → f ρ = some b → ∀ Q : Bool → Hp → Prop, (∀ H', Same H H' → Q b H') → t σ H Q
/-- an operator by values -/
def Ev2 (K : PySem.W.Frag) (r : R2) (op : PyData → PyData → Option PyData) : Prop :=
  ∀ (O : List Addr) (H : Hp) (x y : V) (a b d : PyData), Trk O H → Dt K (hid O H) x a → Dt K (hid O H) y b → op a b = some d → ∀ Q : VK, (∀ v H', Same H H' → Dt K (hid O H') v d → Q v H') → r x y H Q
def Ev1 (K : PySem.W.Frag) (r : V → Hp → VK → Prop) (op : PyData → Option PyData) : Prop :=
  ∀ (O : List Addr) (H : Hp) (x : V) (a d : PyData), Trk O H → Dt K (hid O H) x a → op a = some d → ∀ Q : VK, (∀ v H', Same H H' → Dt K (hid O H') v d → Q v H') → r x H Q
def EvL (K : PySem.W.Frag) (r : List V → Hp → VK → Prop) (op : List PyData → Option PyData) : Prop :=
  ∀ (O : List Addr) (H : Hp) (xs : List V) (as : List PyData) (d : PyData), Trk O H → DtAll K (hid O H) xs as → op as = some d → ∀ Q : VK, (∀ v H', Same H H' → Dt K (hid O H') v d → Q v H') → r xs H Q

section
variable {K : PySem.W.Frag}
def dVar (i : Nat) : Ev → Option PyData := fun ρ => match ρ[i]? with
  | some (.dat d) => some d
  | _ => none
theorem dVar_some {i : Nat} {ρ : Ev} {d : PyData} (h : dVar i ρ = some d) : ρ[i]? = some (.dat d) := by
  unfold dVar at h
  split at h
  · rename_i e; cases h; exact e
  · cases h
theorem ev_var (i : Nat) : EvE K (tVar i) (dVar i) := by
  intro O σ H ρ d r h Q q
  obtain ⟨v, h1, h2⟩ := r.2.1.2 i d (dVar_some h)
  exact ⟨v, h1, q v H (Same.refl H) h2⟩
def dC (d : PyData) : Ev → Option PyData := fun _ => some d
theorem ev_C {v : V} {d : PyData} (h : ∀ H, Dt K H v d) : EvE K (tC v) (dC d) := by
  intro O σ H ρ d' r e Q q
  cases e
  exact q v H (Same.refl H) (h _)
theorem ev_int (i : Int) : EvE K (tC (.int i)) (dC (.int i)) := ev_C fun _ => .int i
theorem ev_bl (i : Bool) : EvE K (tC (.bl i)) (dC (.bool i)) := ev_C fun _ => .bl i
theorem ev_non : EvE K (tC .non) (dC .none) := ev_C fun _ => .non
theorem ev_str (i : Str) (h : i.length ≤ 65536) : EvE K (tC (.str i)) (dC (.str i)) := ev_C fun _ => .str i h

def d2 (op : PyData → PyData → Option PyData) (f g : Ev → Option PyData) : Ev → Option PyData := fun ρ => (f ρ).bind fun a => (g ρ).bind fun b => op a b
theorem bind_some {α β : Type} {x : Option α} {f : α → Option β} {b : β} (h : x.bind f = some b) : ∃ a, x = some a ∧ f a = some b := by
  cases x with
  | none => cases h
  | some a => exact ⟨a, rfl, h⟩
theorem ev_op {r : R2} {ta tb : TE} {op : PyData → PyData → Option PyData} {f g : Ev → Option PyData} (ho : Ev2 K r op) (ha : EvE K ta f) (hb : EvE K tb g) : EvE K (tOp r ta tb) (d2 op f g) := by
  intro O σ H ρ d rp e Q q
  obtain ⟨a, e1, e⟩ := bind_some e
  obtain ⟨b, e2, e⟩ := bind_some e
  refine ha O σ H ρ a rp e1 _ fun x H1 s1 h1 => ?_
  refine hb O σ H1 ρ b (rp.same s1) e2 _ fun y H2 s2 h2 => ?_
  exact ho O H2 x y a b d ((rp.1.same s1).same s2) (h1.same (hid_same s2)) h2 e Q fun v H3 s3 h3 => q v H3 ((s1.trans s2).trans s3) h3
def d1 (op : PyData → Option PyData) (f : Ev → Option PyData) : Ev → Option PyData := fun ρ => (f ρ).bind op
theorem ev_un {r : V → Hp → VK → Prop} {ta : TE} {op : PyData → Option PyData} {f : Ev → Option PyData} (ho : Ev1 K r op) (ha : EvE K ta f) : EvE K (tUn r ta) (d1 op f) := by
  intro O σ H ρ d rp e Q q
  obtain ⟨a, e1, e⟩ := bind_some e
  refine ha O σ H ρ a rp e1 _ fun x H1 s1 h1 => ?_
  exact ho O H1 x a d (rp.1.same s1) h1 e Q fun v H3 s3 h3 => q v H3 (s1.trans s3) h3
theorem Ev2.or {r r' : R2} {op op' : PyData → PyData → Option PyData} (h : Ev2 K r op) (h' : Ev2 K r' op') : Ev2 K (fun x y H Q => r x y H Q ∨ r' x y H Q) (fun a b => (op a b).or (op' a b)) := by
  intro O H x y a b d t ha hb e Q q
  cases e1 : op a b with
  | some z =>
    simp only [e1, Option.some_or] at e
    exact .inl (h O H x y a b d t ha hb (by rw [e1]; exact e) Q q)
  | none =>
    simp only [e1, Option.none_or] at e
    exact .inr (h' O H x y a b d t ha hb e Q q)
/-- args -/
def dNil : Ev → Option (List PyData) := fun _ => some []
def dCons (f : Ev → Option PyData) (g : Ev → Option (List PyData)) : Ev → Option (List PyData) := fun ρ => (f ρ).bind fun a => (g ρ).bind fun as => some (a :: as)
theorem ev_nil : EvA K tNil dNil := by
  intro O σ H ρ ds rp e Q q
  cases e
  exact q [] H (Same.refl H) .nil
theorem ev_cons {ta : TE} {tr : TA} {f : Ev → Option PyData} {g : Ev → Option (List PyData)} (ha : EvE K ta f) (hr : EvA K tr g) : EvA K (tCons ta tr) (dCons f g) := by
  intro O σ H ρ ds rp e Q q
  obtain ⟨a, e1, e⟩ := bind_some e
  obtain ⟨as, e2, e⟩ := bind_some e
  cases e
  refine ha O σ H ρ a rp e1 _ fun x H1 s1 h1 => ?_
  refine hr O σ H1 ρ as (rp.same s1) e2 _ fun xs H2 s2 h2 => ?_
  exact q _ H2 (s1.trans s2) (.cons (h1.same (hid_same s2)) h2)
/-- displays -/
def dTup (g : Ev → Option (List PyData)) : Ev → Option PyData := fun ρ => (g ρ).bind fun as => if as.length ≤ 65536 then some (.tuple as) else none
def dLst (g : Ev → Option (List PyData)) : Ev → Option PyData := fun ρ => (g ρ).bind fun as => if as.length ≤ 65536 then some (.list as) else none
theorem line_of {n : Nat} (h : n ≤ 65536) : n ≤ sizeLine := Nat.le_trans h (by decide)
theorem ev_tup {t : TA} {g : Ev → Option (List PyData)} (h : EvA K t g) : EvE K (tTupF t) (dTup g) := by
  intro O σ H ρ d rp e Q q
  obtain ⟨as, e1, e⟩ := bind_some e
  split at e
  · rename_i hl
    cases e
    refine h O σ H ρ as rp e1 _ fun xs H1 s1 h1 => ?_
    have hl' : xs.length ≤ 65536 := by rw [h1.length]; exact hl
    exact ⟨line_of hl', fun p o hp hd => q _ _ (s1.trans (same_new hp)) (Dt.newTup (rp.1.same s1) hp hd h1 hl')⟩
  · cases e
theorem ev_lst {t : TA} {g : Ev → Option (List PyData)} (h : EvA K t g) : EvE K (tLst t) (dLst g) := by
  intro O σ H ρ d rp e Q q
  obtain ⟨as, e1, e⟩ := bind_some e
  split at e
  · rename_i hl
    cases e
    refine h O σ H ρ as rp e1 _ fun xs H1 s1 h1 => ?_
    have hl' : xs.length ≤ 65536 := by rw [h1.length]; exact hl
    exact ⟨line_of hl', fun p hp => q _ _ (s1.trans (same_new hp)) (Dt.newLst (rp.1.same s1) hp h1 hl')⟩
  · cases e
/-- calls of builtins by values -/
def dB (op : List PyData → Option PyData) (g : Ev → Option (List PyData)) : Ev → Option PyData := fun ρ => (g ρ).bind op
theorem ev_B {r : List V → Hp → VK → Prop} {t : TA} {op : List PyData → Option PyData} {g : Ev → Option (List PyData)} (ho : EvL K r op) (h : EvA K t g) : EvE K (tCB r t) (dB op g) := by
  intro O σ H ρ d rp e Q q
  obtain ⟨as, e1, e⟩ := bind_some e
  refine h O σ H ρ as rp e1 _ fun xs H1 s1 h1 => ?_
  exact ho O H1 xs as d (rp.1.same s1) h1 e Q fun v H2 s2 h2 => q v H2 (s1.trans s2) h2
/-- a def of the text that gives data -/
def spD (K : PySem.W.Frag) (m : List PyData → Option PyData) (n : Nat) : Sp := fun vs H Q _ => vs.length = n ∧ ∃ (O : List Addr) (as : List PyData) (d : PyData), Trk O H ∧ DtAll K (hid O H) vs as ∧ m as = some d ∧ ∀ v H', Same H H' → Dt K (hid O H') v d → Q v H'
theorem ev_call {m : List PyData → Option PyData} {n : Nat} {E : XK} {t : TA} {g : Ev → Option (List PyData)} (h : EvA K t g) (hn : ∀ ρ as, g ρ = some as → as.length = n) : EvE K (tCall (spD K m n) [] E t) (dB m g) := by
  intro O σ H ρ d rp e Q q
  obtain ⟨as, e1, e⟩ := bind_some e
  refine h O σ H ρ as rp e1 _ fun xs H1 s1 h1 => ?_
  rw [List.append_nil]
  exact ⟨by rw [h1.length]; exact hn ρ as e1, O, as, d, rp.1.same s1, h1, e, fun v H2 s2 h2 => q v H2 (s1.trans s2) h2⟩
theorem dNil_len : ∀ ρ as, dNil ρ = some as → as.length = 0 := fun ρ as e => by cases e; rfl
theorem dCons_len {f : Ev → Option PyData} {g : Ev → Option (List PyData)} {n : Nat} (h : ∀ ρ as, g ρ = some as → as.length = n) : ∀ ρ as, dCons f g ρ = some as → as.length = n + 1 := fun ρ as e => by
  obtain ⟨a, e1, e⟩ := bind_some e
  obtain ⟨as', e2, e⟩ := bind_some e
  cases e
  rw [List.length_cons, h ρ as' e2]

/-! ### tests -/
def asB : PyData → Option Bool
  | .bool b => some b
  | _ => none
def dT (f : Ev → Option PyData) : Ev → Option Bool := fun ρ => (f ρ).bind asB
theorem asB_some {d : PyData} {b : Bool} (h : asB d = some b) : d = .bool b := by
  cases d <;> simp [asB] at h; rw [h]
theorem ev_tB {t : TE} {f : Ev → Option PyData} (h : EvE K t f) : EvT K (tB t) (dT f) := by
  intro O σ H ρ b rp e Q q
  obtain ⟨a, e1, e⟩ := bind_some e
  cases asB_some e
  refine h O σ H ρ _ rp e1 _ fun x H1 s1 h1 => ?_
  cases h1
  exact ⟨b, rfl, q H1 s1⟩
def pTru : PyData → Option Bool
  | .none => some false
  | .bool b => some b
  | .int i => some (i != 0)
  | .str x => some ((x.length : Int) != 0)
  | .list ds => some (!ds.isEmpty)
  | .tuple ds => some (!ds.isEmpty)
  | .dict _ => none
theorem DtAll.empty {H : Hp} {vs : List V} {ds : List PyData} (h : DtAll K H vs ds) : vs.isEmpty = ds.isEmpty := by cases h <;> rfl
theorem tru_of {O : List Addr} {H : Hp} {x : V} {a : PyData} {b : Bool} (h : Dt K (hid O H) x a) (e : pTru a = some b) : TruV K x H b := by
  have h := h.same (hid_sub O H)
  cases h with
  | non => cases e; rfl
  | bl b => cases e; rfl
  | int i => cases e; rfl
  | str x hx => cases e; exact ⟨line_of hx, rfl⟩
  | lst h1 h2 h3 => cases e; exact .inl ⟨_, SqL.of h1, by rw [h3.empty]⟩
  | tup h1 h2 h3 => cases e; exact .inr (.inl ⟨_, h1.sq, by rw [h3.empty]⟩)
  | scr h1 h2 h3 => cases e
  | exc _ _ => cases e
def dTru (f : Ev → Option PyData) : Ev → Option Bool := fun ρ => (f ρ).bind pTru
theorem ev_tru {t : TE} {f : Ev → Option PyData} (h : EvE K t f) : EvT K (fun σ H Q => t σ H fun x H' => ∃ k, TruV K x H' k ∧ Q k H') (dTru f) := by
  intro O σ H ρ b rp e Q q
  obtain ⟨a, e1, e⟩ := bind_some e
  refine h O σ H ρ _ rp e1 _ fun x H1 s1 h1 => ?_
  exact ⟨b, tru_of h1 e, q H1 s1⟩
def dAndT (f g : Ev → Option Bool) : Ev → Option Bool := fun ρ => (f ρ).bind fun b => if b = true then g ρ else some false
def dOrT (f g : Ev → Option Bool) : Ev → Option Bool := fun ρ => (f ρ).bind fun b => if b = true then some true else g ρ
def dNotT (f : Ev → Option Bool) : Ev → Option Bool := fun ρ => (f ρ).bind fun b => some (!b)
theorem ev_tAnd {t u : TT} {f g : Ev → Option Bool} (h : EvT K t f) (h' : EvT K u g) : EvT K (tAnd t u) (dAndT f g) := by
  intro O σ H ρ b rp e Q q
  obtain ⟨c, e1, e⟩ := bind_some e
  refine h O σ H ρ c rp e1 _ fun H1 s1 => ?_
  cases c with
  | true => exact iteT (h' O σ H1 ρ b (rp.same s1) e Q fun H2 s2 => q H2 (s1.trans s2))
  | false => cases e; exact iteF (q H1 s1)
theorem ev_tOr {t u : TT} {f g : Ev → Option Bool} (h : EvT K t f) (h' : EvT K u g) : EvT K (tOr t u) (dOrT f g) := by
  intro O σ H ρ b rp e Q q
  obtain ⟨c, e1, e⟩ := bind_some e
  refine h O σ H ρ c rp e1 _ fun H1 s1 => ?_
  cases c with
  | false => exact iteF (h' O σ H1 ρ b (rp.same s1) e Q fun H2 s2 => q H2 (s1.trans s2))
  | true => cases e; exact iteT (q H1 s1)
theorem ev_tNot {t : TT} {f : Ev → Option Bool} (h : EvT K t f) : EvT K (tNot t) (dNotT f) := by
  intro O σ H ρ b rp e Q q
  obtain ⟨c, e1, e⟩ := bind_some e
  cases e
  exact h O σ H ρ c rp e1 _ fun H1 s1 => q H1 s1
/-- values: and, or, not of bools -/
def dAnd (f g : Ev → Option PyData) : Ev → Option PyData := fun ρ => ((f ρ).bind asB).bind fun b => if b = true then g ρ else some (.bool false)
def dOr (f g : Ev → Option PyData) : Ev → Option PyData := fun ρ => ((f ρ).bind asB).bind fun b => if b = true then some (.bool true) else g ρ
def dNot (f : Ev → Option PyData) : Ev → Option PyData := fun ρ => ((f ρ).bind pTru).bind fun b => some (.bool (!b))
theorem ev_and {ta tb : TE} {f g : Ev → Option PyData} (h : EvE K ta f) (h' : EvE K tb g) : EvE K (tAndV ta tb) (dAnd f g) := by
  intro O σ H ρ d rp e Q q
  obtain ⟨c, e1, e⟩ := bind_some e
  obtain ⟨a, e0, e1⟩ := bind_some e1
  cases asB_some e1
  refine h O σ H ρ _ rp e0 _ fun x H1 s1 h1 => ?_
  cases h1
  refine ⟨c, rfl, ?_⟩
  cases c with
  | true => exact iteT (h' O σ H1 ρ d (rp.same s1) e Q fun v H2 s2 h2 => q v H2 (s1.trans s2) h2)
  | false => cases e; exact iteF (q _ H1 s1 (.bl false))
theorem ev_or {ta tb : TE} {f g : Ev → Option PyData} (h : EvE K ta f) (h' : EvE K tb g) : EvE K (tOrV ta tb) (dOr f g) := by
  intro O σ H ρ d rp e Q q
  obtain ⟨c, e1, e⟩ := bind_some e
  obtain ⟨a, e0, e1⟩ := bind_some e1
  cases asB_some e1
  refine h O σ H ρ _ rp e0 _ fun x H1 s1 h1 => ?_
  cases h1
  refine ⟨c, rfl, ?_⟩
  cases c with
  | false => exact iteF (h' O σ H1 ρ d (rp.same s1) e Q fun v H2 s2 h2 => q v H2 (s1.trans s2) h2)
  | true => cases e; exact iteT (q _ H1 s1 (.bl true))
theorem ev_not {ta : TE} {f : Ev → Option PyData} (h : EvE K ta f) : EvE K (tNotT K ta) (dNot f) := by
  intro O σ H ρ d rp e Q q
  obtain ⟨c, e1, e⟩ := bind_some e
  obtain ⟨a, e0, e1⟩ := bind_some e1
  cases e
  refine h O σ H ρ _ rp e0 _ fun x H1 s1 h1 => ?_
  exact ⟨c, tru_of h1 e1, q _ H1 s1 (.bl _)⟩
def dIf (c : Ev → Option Bool) (f g : Ev → Option PyData) : Ev → Option PyData := fun ρ => (c ρ).bind fun b => if b = true then f ρ else g ρ
theorem ev_if {t : TT} {ta tb : TE} {c : Ev → Option Bool} {f g : Ev → Option PyData} (h : EvT K t c) (ha : EvE K ta f) (hb : EvE K tb g) : EvE K (tIf t ta tb) (dIf c f g) := by
  intro O σ H ρ d rp e Q q
  obtain ⟨b, e1, e⟩ := bind_some e
  refine h O σ H ρ b rp e1 _ fun H1 s1 => ?_
  cases b with
  | true => exact iteT (ha O σ H1 ρ d (rp.same s1) e Q fun v H2 s2 h2 => q v H2 (s1.trans s2) h2)
  | false => exact iteF (hb O σ H1 ρ d (rp.same s1) e Q fun v H2 s2 h2 => q v H2 (s1.trans s2) h2)
def dChain (op op' : PyData → PyData → Option PyData) (f g k : Ev → Option PyData) : Ev → Option PyData := fun ρ => (f ρ).bind fun a => (g ρ).bind fun b => ((op a b).bind asB).bind fun c => if c = true then (k ρ).bind fun z => op' b z else some (.bool false)
theorem ev_chain {r r' : R2} {ta tb tc : TE} {op op' : PyData → PyData → Option PyData} {f g k : Ev → Option PyData} (ho : Ev2 K r op) (ho' : Ev2 K r' op') (ha : EvE K ta f) (hb : EvE K tb g) (hc : EvE K tc k) : EvE K (tChain r r' ta tb tc) (dChain op op' f g k) := by
  intro O σ H ρ d rp e Q q
  obtain ⟨a, e1, e⟩ := bind_some e
  obtain ⟨b, e2, e⟩ := bind_some e
  obtain ⟨c, e3, e⟩ := bind_some e
  obtain ⟨z, e4, e3⟩ := bind_some e3
  cases asB_some e3
  refine ha O σ H ρ a rp e1 _ fun x H1 s1 h1 => ?_
  refine hb O σ H1 ρ b (rp.same s1) e2 _ fun y H2 s2 h2 => ?_
  refine ho O H2 x y a b _ ((rp.1.same s1).same s2) (h1.same (hid_same s2)) h2 e4 _ fun v H3 s3 h3 => ?_
  cases h3
  refine ⟨c, rfl, ?_⟩
  cases c with
  | true =>
    obtain ⟨z, e5, e⟩ := bind_some e
    refine iteT (hc O σ H3 ρ z (((rp.same s1).same s2).same s3) e5 _ fun u H4 s4 h4 => ?_)
    exact ho' O H4 y u b z d ((((rp.1.same s1).same s2).same s3).same s4) (h2.same (hid_same (s3.trans s4))) h4 e Q fun v H5 s5 h5 => q v H5 ((((s1.trans s2).trans s3).trans s4).trans s5) h5
  | false => cases e; exact iteF (q _ H3 ((s1.trans s2).trans s3) (.bl false))
end
end CS
/-! D2: operators, subscripts, slices, built-ins upon data. -/
namespace CS
open PySem L2
section
variable {X : Cx} {K : PySem.W.Frag}

/-! ints -/
def pAdd : PyData → PyData → Option PyData
  | .int a, .int b => some (.int (a + b))
  | .tuple a, .tuple b => if a.length + b.length ≤ 65536 then some (.tuple (a ++ b)) else none
  | .list a, .list b => if a.length + b.length ≤ 65536 then some (.list (a ++ b)) else none
  | .str a, .str b => if a.length + b.length ≤ 65536 then some (.str (a ++ b)) else none
  | _, _ => none
abbrev rAddD (K : PySem.W.Frag) : R2 := fun x y H Q => (rI0 fun i j => .int (i + j)) x y H Q ∨ (rCatF K x y H Q ∨ (rCat x y H Q ∨
  (∃ i j, x = .str i ∧ y = .str j ∧ i.length + j.length ≤ sizeLine ∧ Q (.str (i ++ j)) H)))
theorem opAdd : OpR X (binaryOp .Add) (rAddD X.K) := OpR.or op_add (OpR.or op_catF (OpR.or op_cat op_add_str))
theorem str_len_app (a b : Str) : (a ++ b).length = a.length + b.length := by
  show (a.cps ++ b.cps).size = a.cps.size + b.cps.size
  exact Array.size_append
theorem e2_add : Ev2 K (rAddD K) pAdd := by
  intro O H x y a b d t ha hb e Q q
  cases ha with
  | int i =>
    cases hb with
    | int j => cases e; exact .inl ⟨i, j, rfl, rfl, q _ H (Same.refl H) (.int _)⟩
    | _ => cases e
  | str i hi =>
    cases hb with
    | str j hj =>
      simp only [pAdd] at e
      split at e
      · rename_i hl
        cases e
        exact .inr (.inr (.inr ⟨i, j, rfl, rfl, line_of hl, q _ H (Same.refl H) (.str _ (by rw [str_len_app]; exact hl))⟩))
      · cases e
    | _ => cases e
  | lst h1 h2 h3 =>
    cases hb with
    | lst g1 g2 g3 =>
      simp only [pAdd] at e
      split at e
      · rename_i hl
        cases e
        rw [← h3.length, ← g3.length] at hl
        refine .inr (.inr (.inl ⟨_, _, _, _, rfl, rfl, (hid_some h1).2, (hid_some g1).2, line_of hl, fun p hp => ?_⟩))
        exact q _ _ (same_new hp) (Dt.newLst t hp (h3.append g3) (by rw [List.length_append]; exact hl))
      · cases e
    | _ => cases e
  | tup h1 h2 h3 =>
    cases hb with
    | tup g1 g2 g3 =>
      simp only [pAdd] at e
      split at e
      · rename_i hl
        cases e
        rw [← h3.length, ← g3.length] at hl
        refine .inr (.inl ⟨_, _, _, _, rfl, rfl, (TupOk.same (hid_sub O H) h1).sq, (TupOk.same (hid_sub O H) g1).sq, line_of hl, fun hx => ?_, fun hx hy => ?_, fun hx hy p o hp hd => ?_⟩)
        · subst hx
          cases h3
          exact q _ H (Same.refl H) (.tup g1 g2 (by simpa using g3))
        · subst hy
          cases g3
          exact q _ H (Same.refl H) (.tup h1 h2 (by simpa using h3))
        · exact q _ _ (same_new hp) (Dt.newTup t hp hd (h3.append g3) (by rw [List.length_append]; exact hl))
      · cases e
    | _ => cases e
  | _ => cases e
def pSub : PyData → PyData → Option PyData
  | .int a, .int b => some (.int (a - b))
  | _, _ => none
theorem e2_sub : Ev2 K (rI0 fun i j => .int (i - j)) pSub := by
  intro O H x y a b d t ha hb e Q q
  cases ha <;> cases hb <;> cases e
  exact ⟨_, _, rfl, rfl, q _ H (Same.refl H) (.int _)⟩
def pMod : PyData → PyData → Option PyData
  | .int a, .int b => if 0 < b then some (.int (a % b)) else none
  | _, _ => none
theorem e2_mod : Ev2 K (rI (fun _ j => 0 < j) fun i j => .int (i % j)) pMod := by
  intro O H x y a b d t ha hb e Q q
  cases ha with
  | int i =>
    cases hb with
    | int j =>
      simp only [pMod] at e
      split at e
      · rename_i hl
        cases e
        exact ⟨_, _, rfl, rfl, hl, q _ H (Same.refl H) (.int _)⟩
      · cases e
    | _ => cases e
  | _ => cases e
def pFdiv : PyData → PyData → Option PyData
  | .int a, .int b => if 0 < b ∧ b < 1073741824 then some (.int (a / b)) else none
  | _, _ => none
theorem e2_fdiv : Ev2 K (rI CDiv fun i j => .int (i / j)) pFdiv := by
  intro O H x y a b d t ha hb e Q q
  cases ha with
  | int i =>
    cases hb with
    | int j =>
      simp only [pFdiv] at e
      split at e
      · rename_i hl
        cases e
        exact ⟨_, _, rfl, rfl, hl, q _ H (Same.refl H) (.int _)⟩
      · cases e
    | _ => cases e
  | _ => cases e
def pPow : PyData → PyData → Option PyData
  | .int a, .int b => if 0 ≤ b ∧ b ≤ 100 ∧ a.natAbs ≤ 1000 then some (.int (a ^ b.toNat)) else none
  | _, _ => none
theorem e2_pow : Ev2 K (rI CPow fun i j => .int (i ^ j.toNat)) pPow := by
  intro O H x y a b d t ha hb e Q q
  cases ha with
  | int i =>
    cases hb with
    | int j =>
      simp only [pPow] at e
      split at e
      · rename_i hl
        cases e
        exact ⟨_, _, rfl, rfl, ⟨hl.1, by omega, by omega⟩, q _ H (Same.refl H) (.int _)⟩
      · cases e
    | _ => cases e
  | _ => cases e
def pMul : PyData → PyData → Option PyData
  | .int a, .int b => if ((-(2 ^ 64) < a ∧ a < 2 ^ 64) ∨ (-(2 ^ 64) < b ∧ b < 2 ^ 64)) then some (.int (a * b)) else none
  | .list a, .int k => if 0 ≤ k ∧ k ≤ 1000 ∧ a.length * k.toNat ≤ 65536 then some (.list (List.replicate k.toNat a).flatten) else none
  | _, _ => none
abbrev rMulD : R2 := fun x y H Q => (rI CMul fun i j => .int (i * j)) x y H Q ∨ rRep x y H Q
theorem opMul : OpR X (binaryOp .Mult) rMulD := OpR.or op_mul op_rep
theorem DtAll.flat {H : Hp} {vs : List V} {ds : List PyData} (h : DtAll K H vs ds) : ∀ k : Nat, DtAll K H (List.replicate k vs).flatten (List.replicate k ds).flatten
  | 0 => .nil
  | k + 1 => by
    rw [List.replicate_succ, List.replicate_succ, List.flatten_cons, List.flatten_cons]
    exact h.append (DtAll.flat h k)
theorem e2_mul : Ev2 K rMulD pMul := by
  intro O H x y a b d t ha hb e Q q
  cases ha with
  | int i =>
    cases hb with
    | int j =>
      simp only [pMul] at e
      split at e
      · rename_i hl
        cases e
        exact .inl ⟨_, _, rfl, rfl, hl, q _ H (Same.refl H) (.int _)⟩
      · cases e
    | _ => cases e
  | lst h1 h2 h3 =>
    cases hb with
    | int j =>
      simp only [pMul] at e
      split at e
      · rename_i hl
        cases e
        obtain ⟨l1, l2, l3⟩ := hl
        have hz : ∀ xs : List V, ∀ k, (List.replicate k xs).flatten.length = xs.length * k := fun xs k => by
          induction k with
          | zero => simp
          | succ k ih => rw [List.replicate_succ, List.flatten_cons, List.length_append, ih, Nat.mul_succ, Nat.add_comm]
        rw [← h3.length] at l3
        refine .inr ⟨_, _, _, rfl, rfl, (hid_some h1).2, by omega, by omega, line_of l3, fun p hp => ?_⟩
        exact q _ _ (same_new hp) (Dt.newLst t hp (DtAll.flat h3 _) (by rw [hz]; exact l3))
      · cases e
    | _ => cases e
  | _ => cases e
/-! comparisons of ints -/
def pCmp (c : Int → Int → Bool) : PyData → PyData → Option PyData
  | .int a, .int b => some (.bool (c a b))
  | _, _ => none
theorem e2_cmp (c : Int → Int → Bool) : Ev2 K (rI0 fun i j => .bl (c i j)) (pCmp c) := by
  intro O H x y a b d t ha hb e Q q
  cases ha <;> cases hb <;> cases e
  exact ⟨_, _, rfl, rfl, q _ H (Same.refl H) (.bl _)⟩
abbrev pLt := pCmp fun i j => decide (i < j)
abbrev pLe := pCmp fun i j => decide (i ≤ j)
abbrev pGt := pCmp fun i j => decide (j < i)
abbrev pGe := pCmp fun i j => decide (j ≤ i)
/-! equality of data -/
def pEq (a b : PyData) : Option PyData := if SeqAt.shaped a = true ∧ SeqAt.shaped b = true then some (.bool (PyData.eqv a b)) else none
def pNe (a b : PyData) : Option PyData := if SeqAt.shaped a = true ∧ SeqAt.shaped b = true then some (.bool (!PyData.eqv a b)) else none
theorem lay_of {d : PyData} (h : SeqAt.shaped d = true) : d.canLay0 = true := by
  unfold SeqAt.shaped at h
  rw [Bool.and_eq_true] at h
  exact h.1
theorem e2_eq : Ev2 K (rEqD K) pEq := by
  intro O H x y a b d t ha hb e Q q
  unfold pEq at e
  split at e
  · rename_i hs
    cases e
    exact ⟨a, b, (ha.same (hid_sub O H)).dp (lay_of hs.1), (hb.same (hid_sub O H)).dp (lay_of hs.2), hs.1, hs.2, q _ H (Same.refl H) (.bl _)⟩
  · cases e
theorem e2_ne : Ev2 K (rNeD K) pNe := by
  intro O H x y a b d t ha hb e Q q
  unfold pNe at e
  split at e
  · rename_i hs
    cases e
    exact ⟨a, b, (ha.same (hid_sub O H)).dp (lay_of hs.1), (hb.same (hid_sub O H)).dp (lay_of hs.2), hs.1, hs.2, q _ H (Same.refl H) (.bl _)⟩
  · cases e
/-! in -/
def rInA (K : PySem.W.Frag) (neg : Bool) : R2 := fun x y H Q => ∃ d ds, Dp K H x d ∧ (Dp K H y (.list ds) ∨ Dp K H y (.tuple ds)) ∧ SeqAt.shaped d = true ∧ SeqAt.shaped (.list ds) = true ∧ Q (.bl (if neg = true then !ds.any fun z => PyData.eqv z d else ds.any fun z => PyData.eqv z d)) H
theorem lays_of {ds : List PyData} (h : SeqAt.shaped (.list ds) = true) : PyData.canLayAll0 ds = true := by
  have := lay_of h
  simpa [PyData.canLay0] using this
theorem op_inA (hu : X.A.units + 65 < cLine) : OpR X (compareOp .In) (rInA X.K false) := by
  intro pins s σ H x y v u Q I rx ry h
  obtain ⟨d, ds, hd, he, sd, se, q⟩ := h
  rcases he with he | he
  · exact op_inD hu pins s σ H x y v u Q I rx ry ⟨d, ds, hd, he, sd, se, q⟩
  · obtain ⟨as, r1⟩ := Dp.reads I d x v hd rx
    obtain ⟨bs, r2⟩ := Dp.reads I (.tuple ds) y u he ry
    have h2 : X.A.units + 1 + min (PyData.depthAll ds) d.depth < cLine := by
      have := (Bool.and_eq_true _ _).mp sd
      have h3 : d.depth ≤ 64 := of_decide_eq_true this.2
      omega
    exact SeqAt.in_tuple_reads r2 r1 (lays_of se) (lay_of sd) h2 ⟨.bl _, H, I, rfl, q⟩
theorem op_notInA (hu : X.A.units + 65 < cLine) : OpR X (compareOp .NotIn) (rInA X.K true) := by
  intro pins s σ H x y v u Q I rx ry h
  obtain ⟨d, ds, hd, he, sd, se, q⟩ := h
  rcases he with he | he
  · exact op_notInD hu pins s σ H x y v u Q I rx ry ⟨d, ds, hd, he, sd, se, q⟩
  · obtain ⟨as, r1⟩ := Dp.reads I d x v hd rx
    obtain ⟨bs, r2⟩ := Dp.reads I (.tuple ds) y u he ry
    have h2 : X.A.units + 1 + min (PyData.depthAll ds) d.depth < cLine := by
      have := (Bool.and_eq_true _ _).mp sd
      have h3 : d.depth ≤ 64 := of_decide_eq_true this.2
      omega
    exact SeqAt.notIn_tuple_reads r2 r1 (lays_of se) (lay_of sd) h2 ⟨.bl _, H, I, rfl, q⟩
def pInL (neg : Bool) (d : PyData) (ds : List PyData) : Option PyData := if SeqAt.shaped d = true ∧ SeqAt.shaped (.list ds) = true then some (.bool (if neg = true then !ds.any fun z => PyData.eqv z d else ds.any fun z => PyData.eqv z d)) else none
def pInA (neg : Bool) : PyData → PyData → Option PyData
  | d, .list ds => pInL neg d ds
  | d, .tuple ds => pInL neg d ds
  | _, _ => none
theorem e2_in (neg : Bool) : Ev2 K (rInA K neg) (pInA neg) := by
  intro O H x y a b d t ha hb e Q q
  have hb' := hb.same (hid_sub O H)
  cases b with
  | list ds =>
    simp only [pInA, pInL] at e
    split at e
    · rename_i hs
      cases e
      exact ⟨a, ds, (ha.same (hid_sub O H)).dp (lay_of hs.1), .inl (hb'.dp (by rw [PyData.canLay0]; exact lays_of hs.2)), hs.1, hs.2, q _ H (Same.refl H) (.bl _)⟩
    · cases e
  | tuple ds =>
    simp only [pInA, pInL] at e
    split at e
    · rename_i hs
      cases e
      exact ⟨a, ds, (ha.same (hid_sub O H)).dp (lay_of hs.1), .inr (hb'.dp (by rw [PyData.canLay0]; exact lays_of hs.2)), hs.1, hs.2, q _ H (Same.refl H) (.bl _)⟩
    · cases e
  | _ => cases e
/-! a sign in a text -/
def pInS (neg : Bool) : PyData → PyData → Option PyData
  | .str x, .str z => if x.length = 1 then some (.bool (if neg = true then !decide (x.cps.getD 0 0 ∈ z.cps.toList) else decide (x.cps.getD 0 0 ∈ z.cps.toList))) else none
  | _, _ => none
theorem one_sign {x : Str} (h : x.length = 1) : x = ⟨#[x.cps.getD 0 0]⟩ := by
  obtain ⟨c⟩ := x
  have h : c.size = 1 := h
  congr 1
  apply Array.ext
  · rw [h]; rfl
  · intro i h1 h2
    have : i = 0 := by simp at h2; omega
    subst this
    simp [Array.getD, h]
theorem e2_inS : Ev2 K (fun x y H Q => ∃ (c : Nat) (z : Str), x = .str ⟨#[c]⟩ ∧ y = .str z ∧ Q (.bl (decide (c ∈ z.cps.toList))) H) (pInS false) := by
  intro O H x y a b d t ha hb e Q q
  cases ha with
  | str i hi =>
    cases hb with
    | str j hj =>
      simp only [pInS] at e
      split at e
      · rename_i hl
        cases e
        exact ⟨_, j, congrArg V.str (one_sign hl), rfl, q _ H (Same.refl H) (.bl _)⟩
      · cases e
    | _ => cases e
  | _ => cases e
theorem e2_notInS : Ev2 K (fun x y H Q => ∃ (c : Nat) (z : Str), x = .str ⟨#[c]⟩ ∧ y = .str z ∧ Q (.bl (!decide (c ∈ z.cps.toList))) H) (pInS true) := by
  intro O H x y a b d t ha hb e Q q
  cases ha with
  | str i hi =>
    cases hb with
    | str j hj =>
      simp only [pInS] at e
      split at e
      · rename_i hl
        cases e
        exact ⟨_, j, congrArg V.str (one_sign hl), rfl, q _ H (Same.refl H) (.bl _)⟩
      · cases e
    | _ => cases e
  | _ => cases e
/-! is None -/
def isNonD : PyData → Bool
  | .none => true
  | _ => false
def pIsN (neg : Bool) : PyData → PyData → Option PyData
  | a, .none => some (.bool (if neg = true then !isNonD a else isNonD a))
  | _, _ => none
theorem non_of {H : Hp} {x : V} {a : PyData} (h : Dt K H x a) : decide (x = .non) = isNonD a := by
  cases h <;> simp [isNonD]
theorem e2_isN : Ev2 K (fun x y H Q => y = .non ∧ Q (.bl (decide (x = .non))) H) (pIsN false) := by
  intro O H x y a b d t ha hb e Q q
  cases hb with
  | non => cases e; exact ⟨rfl, q _ H (Same.refl H) (by rw [non_of ha]; exact .bl _)⟩
  | _ => cases e
theorem e2_isNotN : Ev2 K (fun x y H Q => y = .non ∧ Q (.bl (!decide (x = .non))) H) (pIsN true) := by
  intro O H x y a b d t ha hb e Q q
  cases hb with
  | non => cases e; exact ⟨rfl, q _ H (Same.refl H) (by rw [non_of ha]; exact .bl _)⟩
  | _ => cases e
/-! subscripts -/
def pIx : PyData → PyData → Option PyData
  | .list ds, .int i => atI ds i
  | .tuple ds, .int i => atI ds i
  | .str z, .int i => (atI z.cps.toList i).map fun c => .str ⟨#[c]⟩
  | .dict [(.list ds, .none)], .int i => atI ds i
  | _, _ => none
theorem atI_dt {H : Hp} {xs : List V} {ds : List PyData} {i : Int} {d : PyData} (h : DtAll K H xs ds) (e : atI ds i = some d) : ∃ v, atI xs i = some v ∧ Dt K H v d := by
  unfold atI at e ⊢
  obtain ⟨j, e1, e2⟩ := bind_some e
  rw [h.length, e1]
  exact h.get e2
theorem e2_ix : Ev2 K (rIx K) pIx := by
  intro O H x y a b d t ha hb e Q q
  have ha' := ha.same (hid_sub O H)
  cases hb with
  | int i =>
    cases ha with
    | lst h1 h2 h3 =>
      obtain ⟨v, e1, hv⟩ := atI_dt h3 (show atI _ i = some d from e)
      exact .inl ⟨_, _, i, v, rfl, rfl, SqL.of (hid_some h1).2, e1, q v H (Same.refl H) hv⟩
    | scr h1 h2 h3 =>
      obtain ⟨v, e1, hv⟩ := atI_dt h3 (show atI _ i = some d from e)
      exact .inl ⟨_, _, i, v, rfl, rfl, Same.seq (hid_sub O H) h1, e1, q v H (Same.refl H) (hv.same (hid_same (Same.refl H)))⟩
    | tup h1 h2 h3 =>
      obtain ⟨v, e1, hv⟩ := atI_dt h3 (show atI _ i = some d from e)
      exact .inr (.inl ⟨_, _, i, v, rfl, rfl, (TupOk.same (hid_sub O H) h1).sq, e1, q v H (Same.refl H) hv⟩)
    | str z hz =>
      simp only [pIx] at e
      cases e1 : atI z.cps.toList i with
      | none => rw [e1] at e; cases e
      | some c =>
        rw [e1] at e
        cases e
        exact .inr (.inr ⟨z, i, c, rfl, rfl, line_of hz, e1, q _ H (Same.refl H) (.str _ (by show 1 ≤ 65536; decide))⟩)
    | _ => cases e
  | _ => cases ha <;> simp [pIx] at e
end
end CS
/-! D3: slices, len, isinstance, conversions, min and max upon data. -/
namespace CS
open PySem L2
section
variable {X : Cx} {K : PySem.W.Frag}
/-! slices -/
def EvO (K : PySem.W.Frag) (t : TO) (f : Ev → Option (Option Int)) : Prop :=
  ∀ (O : List Addr) (σ : St) (H : Hp) (ρ : Ev) (b : Option Int), RepD K O σ H ρ → f ρ = some b → ∀ Q : Option Int → Hp → Prop, (∀ H', Same H H' → Q b H') → t σ H Q
def dNoPart : Ev → Option (Option Int) := fun _ => some none
def asI : PyData → Option Int
  | .int i => some i
  | _ => none
theorem asI_some {d : PyData} {b : Int} (h : asI d = some b) : d = .int b := by
  cases d <;> simp [asI] at h; rw [h]
def dPart (f : Ev → Option PyData) : Ev → Option (Option Int) := fun ρ => ((f ρ).bind asI).map some
theorem ev_noPart : EvO K tNoPart dNoPart := by
  intro O σ H ρ b rp e Q q
  cases e
  exact q H (Same.refl H)
theorem ev_part {t : TE} {f : Ev → Option PyData} (h : EvE K t f) : EvO K (tPart t) (dPart f) := by
  intro O σ H ρ b rp e Q q
  unfold dPart at e
  cases e1 : (f ρ).bind asI with
  | none => rw [e1] at e; cases e
  | some i =>
    rw [e1] at e
    cases e
    obtain ⟨a, e2, e3⟩ := bind_some e1
    cases asI_some e3
    refine h O σ H ρ _ rp e2 _ fun x H1 s1 h1 => ?_
    cases h1
    exact ⟨i, rfl, q H1 s1⟩
abbrev rSlD (K : PySem.W.Frag) : V → Option Int → Option Int → Hp → VK → Prop := fun x lo hi H Q => rSlL K x lo hi H Q ∨ (rSlF K x lo hi H Q ∨ rSlS x lo hi H Q)
theorem slAll : SlR X (rSlD X.K) := SlR.or sl_list (SlR.or sl_tupF sl_str)
def cutD {α : Type} (xs : List α) (lo hi : Option Int) : List α := (xs.drop (HT.sIx xs.length 0 lo)).take (HT.sIx xs.length xs.length hi - HT.sIx xs.length 0 lo)
def pSl : PyData → Option Int → Option Int → Option PyData
  | .list ds, lo, hi => some (.list (cutD ds lo hi))
  | .tuple ds, lo, hi => some (.tuple (cutD ds lo hi))
  | .str z, lo, hi => some (.str (cutS z lo hi))
  | _, _, _ => none
theorem cutD_dt {H : Hp} {xs : List V} {ds : List PyData} (h : DtAll K H xs ds) (lo hi : Option Int) : DtAll K H (cutV xs lo hi) (cutD ds lo hi) := by
  unfold cutV cutD
  rw [h.length]
  exact (h.drop _).take _
theorem cutD_len {α : Type} (xs : List α) (lo hi : Option Int) : (cutD xs lo hi).length ≤ xs.length := by
  unfold cutD
  rw [List.length_take, List.length_drop]
  omega
theorem cutV_eq (xs : List V) (lo hi : Option Int) : cutV xs lo hi = cutD xs lo hi := rfl
theorem cutS_len (z : Str) (lo hi : Option Int) : (cutS z lo hi).length ≤ z.length := by
  show ((List.take (HT.sIx z.length z.length hi - HT.sIx z.length 0 lo) (List.drop (HT.sIx z.length 0 lo) z.cps.toList)).toArray).size ≤ z.cps.size
  rw [List.size_toArray, List.length_take, List.length_drop, Array.length_toList]
  omega
def dSl (f : Ev → Option PyData) (lo hi : Ev → Option (Option Int)) : Ev → Option PyData := fun ρ => (f ρ).bind fun a => (lo ρ).bind fun l => (hi ρ).bind fun h => pSl a l h
theorem ev_sl {te : TE} {tl th : TO} {f : Ev → Option PyData} {lo hi : Ev → Option (Option Int)} (h : EvE K te f) (hl : EvO K tl lo) (hh : EvO K th hi) : EvE K (tSl (rSlD K) te tl th) (dSl f lo hi) := by
  intro O σ H ρ d rp e Q q
  obtain ⟨a, e1, e⟩ := bind_some e
  obtain ⟨l, e2, e⟩ := bind_some e
  obtain ⟨u, e3, e⟩ := bind_some e
  refine h O σ H ρ a rp e1 _ fun x H1 s1 h1 => ?_
  refine hl O σ H1 ρ l (rp.same s1) e2 _ fun H2 s2 => ?_
  refine hh O σ H2 ρ u ((rp.same s1).same s2) e3 _ fun H3 s3 => ?_
  have s13 := (s1.trans s2).trans s3
  have t3 : Trk O H3 := rp.1.same s13
  have h3 := h1.same (hid_same (O := O) (s2.trans s3))
  cases h3 with
  | lst g1 g2 g3 =>
    cases e
    refine .inl ⟨_, _, rfl, SqL.of (hid_some g1).2, fun p hp => q _ _ (s13.trans (same_new hp)) (Dt.newLst t3 hp (cutD_dt g3 l u) ?_)⟩
    rw [cutV_eq]; exact Nat.le_trans (cutD_len _ _ _) g2
  | tup g1 g2 g3 =>
    cases e
    refine .inr (.inl ⟨_, _, rfl, (TupOk.same (hid_sub O H3) g1).sq, fun hw => ?_, fun hw p o hp hd => q _ _ (s13.trans (same_new hp)) (Dt.newTup t3 hp hd (cutD_dt g3 l u) ?_)⟩)
    · refine q _ H3 s13 (.tup g1 g2 ?_)
      have := cutD_dt g3 l u
      rw [cutV_eq] at this
      unfold cutD at this
      rw [hw.1, hw.2] at this
      simp only [List.drop_zero, Nat.sub_zero, List.take_length] at this
      exact this
    · rw [cutV_eq]; exact Nat.le_trans (cutD_len _ _ _) g2
  | str z hz =>
    cases e
    exact .inr (.inr ⟨z, rfl, line_of hz, q _ H3 s13 (.str _ (Nat.le_trans (cutS_len z l u) hz))⟩)
  | _ => cases e
/-- xs[::-1] of a list -/
def dRevL (f : Ev → Option PyData) : Ev → Option PyData := fun ρ => (f ρ).bind fun a => match a with
  | .list ds => some (.list ds.reverse)
  | _ => none
theorem ev_revL {te : TE} {f : Ev → Option PyData} (h : EvE K te f) : EvE K (tRevL K te) (dRevL f) := by
  intro O σ H ρ d rp e Q q
  obtain ⟨a, e1, e⟩ := bind_some e
  refine h O σ H ρ a rp e1 _ fun x H1 s1 h1 => ?_
  cases h1 with
  | lst g1 g2 g3 =>
    cases e
    exact ⟨_, _, rfl, SqL.of (hid_some g1).2, fun p hp => q _ _ (s1.trans (same_new hp)) (Dt.newLst (rp.1.same s1) hp g3.reverse (by rw [List.length_reverse]; exact g2))⟩
  | _ => cases e
/-! len -/
def pLen : List PyData → Option PyData
  | [.list ds] => some (.int ds.length)
  | [.tuple ds] => some (.int ds.length)
  | [.str z] => some (.int z.length)
  | [.dict [(.list ds, .none)]] => some (.int ds.length)
  | _ => none
theorem evl_len : EvL K (fun xs H Q => ∃ x n, xs = [x] ∧ LenV K x H n ∧ Q (.int n) H) pLen := by
  intro O H xs as d t ha e Q q
  cases ha with
  | nil => cases e
  | cons h r =>
    cases r with
    | cons _ _ => simp [pLen] at e
    | nil =>
      cases h with
      | lst g1 g2 g3 => cases e; exact ⟨_, _, rfl, .inl ⟨_, SqL.of (hid_some g1).2, rfl⟩, q _ H (Same.refl H) (by rw [g3.length]; exact .int _)⟩
      | tup g1 g2 g3 => cases e; exact ⟨_, _, rfl, .inr ⟨_, (TupOk.same (hid_sub O H) g1).sq, rfl⟩, q _ H (Same.refl H) (by rw [g3.length]; exact .int _)⟩
      | scr g1 g2 g3 => cases e; exact ⟨_, _, rfl, .inl ⟨_, Same.seq (hid_sub O H) g1, rfl⟩, q _ H (Same.refl H) (by rw [g3.length]; exact .int _)⟩
      | str z hz => cases e; exact ⟨_, _, rfl, ⟨line_of hz, rfl⟩, q _ H (Same.refl H) (.int _)⟩
      | _ => cases e
/-! isinstance -/
def tyD : PyData → Option Value
  | .none => some .none
  | .bool _ => some (.type "bool")
  | .int _ => some (.type "int")
  | .str _ => some (.type "str")
  | .list _ => some (.type "list")
  | .tuple _ => some (.type "tuple")
  | .dict _ => none
def isD (T : String) : PyData → Bool
  | .none => false
  | .bool _ => T == "bool" || T == "int"
  | .int _ => T == "int"
  | .str _ => T == "str"
  | .list _ => T == "list"
  | .tuple _ => T == "tuple"
  | .dict _ => false
def noDict : PyData → Bool
  | .dict _ => false
  | _ => true
def dIsi (T : String) (f : Ev → Option PyData) : Ev → Option PyData := fun ρ => (f ρ).bind fun a => if noDict a = true then some (.bool (isD T a)) else none
structure IsiK (K : PySem.W.Frag) (T : String) : Prop where
  non : PySem.W.kitOne K (.type "NoneType") (.type T) = some (isD T .none)
  bl : PySem.W.kitOne K (.type "bool") (.type T) = some (isD T (.bool true))
  int : PySem.W.kitOne K (.type "int") (.type T) = some (isD T (.int 0))
  str : PySem.W.kitOne K (.type "str") (.type T) = some (isD T (.str Str.empty))
  lst : PySem.W.kitOne K (.type "list") (.type T) = some (isD T (.list []))
  tup : PySem.W.kitOne K (.type "tuple") (.type T) = some (isD T (.tuple []))
theorem isi_tuple {H : Hp} {a : Addr} {xs : List V} (h : SqT K H a xs) : TyX K H (.ref a) (.type "tuple") := by
  rcases h with (h | ⟨o, h⟩) | ⟨o, its, n, h1, h2, _⟩
  · exact .base (.tup h)
  · exact .fTuple h
  · exact .kTuple h1 h2
theorem isiK_of {T : String} (h : IsiK K T) {H : Hp} {x : V} {a : PyData} (hd : Dt K H x a) (hn : noDict a = true) : ∃ t, TyX K H x t ∧ PySem.W.kitOne K t (.type T) = some (isD T a) := by
  cases hd with
  | non => exact ⟨_, .base .non, h.non⟩
  | bl b => exact ⟨_, .base (.bl b), h.bl⟩
  | int i => exact ⟨_, .base (.int i), h.int⟩
  | str x hx => exact ⟨_, .base (.str x), h.str⟩
  | lst g1 g2 g3 => exact ⟨_, .base (.lst g1), h.lst⟩
  | tup g1 g2 g3 => exact ⟨_, isi_tuple g1.sq, h.tup⟩
  | scr g1 g2 g3 => cases hn
  | exc _ _ => cases hn
theorem isiK_int : IsiK K "int" := ⟨kit_ty (by decide +kernel), kit_ty (by decide +kernel), kit_ty (by decide +kernel), kit_ty (by decide +kernel), kit_ty (by decide +kernel), kit_ty (by decide +kernel)⟩
theorem isiK_bool : IsiK K "bool" := ⟨kit_ty (by decide +kernel), kit_ty (by decide +kernel), kit_ty (by decide +kernel), kit_ty (by decide +kernel), kit_ty (by decide +kernel), kit_ty (by decide +kernel)⟩
theorem isiK_str : IsiK K "str" := ⟨kit_ty (by decide +kernel), kit_ty (by decide +kernel), kit_ty (by decide +kernel), kit_ty (by decide +kernel), kit_ty (by decide +kernel), kit_ty (by decide +kernel)⟩
theorem isiK_tuple : IsiK K "tuple" := ⟨kit_ty (by decide +kernel), kit_ty (by decide +kernel), kit_ty (by decide +kernel), kit_ty (by decide +kernel), kit_ty (by decide +kernel), kit_ty (by decide +kernel)⟩
/-- isinstance(e, T): T a built-in class by its name -/
theorem ev_isi {T : String} {te : TE} {f : Ev → Option PyData} (k : IsiK K T) (h : EvE K te f) : EvE K (tCB (rIsi K) (tCons te (tCons (tC (.ty T)) tNil))) (dIsi T f) := by
  intro O σ H ρ d rp e Q q
  obtain ⟨a, e1, e⟩ := bind_some e
  split at e
  · rename_i hn
    cases e
    refine h O σ H ρ a rp e1 _ fun x H1 s1 h1 => ?_
    obtain ⟨t, ty, ek⟩ := isiK_of k (h1.same (hid_sub O H1)) hn
    exact ⟨x, .ty T, t, .type T, _, rfl, .ty T, ty, ek, q _ H1 s1 (.bl _)⟩
  · cases e
/-! int, list, tuple -/
def pInt : List PyData → Option PyData
  | [.int i] => some (.int i)
  | [.bool b] => some (.int (if b then 1 else 0))
  | _ => none
theorem evl_int : EvL K (fun xs H Q => (∃ i, xs = [.int i] ∧ Q (.int i) H) ∨ ∃ k, xs = [.bl k] ∧ Q (.int (if k then 1 else 0)) H) pInt := by
  intro O H xs as d t ha e Q q
  cases ha with
  | nil => cases e
  | cons h r =>
    cases r with
    | cons _ _ => simp [pInt] at e
    | nil =>
      cases h with
      | int i => cases e; exact .inl ⟨_, rfl, q _ H (Same.refl H) (.int _)⟩
      | bl i => cases e; exact .inr ⟨_, rfl, q _ H (Same.refl H) (.int _)⟩
      | _ => cases e
def pList : List PyData → Option PyData
  | [.list ds] => some (.list ds)
  | [.tuple ds] => some (.list ds)
  | _ => none
theorem evl_list : EvL K (fun xs H Q => ∃ p ys, xs = [.ref p] ∧ (SqL K H p ys ∨ SqT K H p ys) ∧ ∀ l, H l = none → Q (.ref l) (upd H l (.lst ys))) pList := by
  intro O H xs as d t ha e Q q
  cases ha with
  | nil => cases e
  | cons h r =>
    cases r with
    | cons _ _ => simp [pList] at e
    | nil =>
      cases h with
      | lst g1 g2 g3 => cases e; exact ⟨_, _, rfl, .inl (SqL.of (hid_some g1).2), fun p hp => q _ _ (same_new hp) (Dt.newLst t hp g3 g2)⟩
      | tup g1 g2 g3 => cases e; exact ⟨_, _, rfl, .inr ((TupOk.same (hid_sub O H) g1).sq), fun p hp => q _ _ (same_new hp) (Dt.newLst t hp g3 g2)⟩
      | _ => cases e
def pTuple : List PyData → Option PyData
  | [.list ds] => some (.tuple ds)
  | [.tuple ds] => some (.tuple ds)
  | _ => none
theorem evl_tuple : EvL K (rTupleF K) pTuple := by
  intro O H xs as d t ha e Q q
  cases ha with
  | nil => cases e
  | cons h r =>
    cases r with
    | cons _ _ => simp [pTuple] at e
    | nil =>
      cases h with
      | lst g1 g2 g3 => cases e; exact ⟨_, _, rfl, .inl ⟨SqL.of (hid_some g1).2, fun p o hp hd => q _ _ (same_new hp) (Dt.newTup t hp hd g3 g2)⟩⟩
      | tup g1 g2 g3 => cases e; exact ⟨_, _, rfl, .inr ⟨(TupOk.same (hid_sub O H) g1).sq, q _ H (Same.refl H) (.tup g1 g2 g3)⟩⟩
      | _ => cases e
/-! max and min -/
def intsOf : List PyData → Option (List Int)
  | [] => some []
  | .int i :: r => (intsOf r).map (i :: ·)
  | _ => none
theorem intsOf_map (ns : List Int) : intsOf (ns.map PyData.int) = some ns := by
  induction ns with
  | nil => rfl
  | cons n ns ih => simp only [List.map_cons, intsOf, ih, Option.map_some]
theorem intsOf_some : ∀ {ds : List PyData} {ns : List Int}, intsOf ds = some ns → ds = ns.map PyData.int
  | [], _, h => by cases h; rfl
  | .int i :: r, ns, h => by
    unfold intsOf at h
    cases e : intsOf r with
    | none => rw [e] at h; cases h
    | some l => rw [e] at h; cases h; rw [intsOf_some e]; rfl
  | .none :: _, _, h => by simp [intsOf] at h
  | .bool _ :: _, _, h => by simp [intsOf] at h
  | .str _ :: _, _, h => by simp [intsOf] at h
  | .list _ :: _, _, h => by simp [intsOf] at h
  | .tuple _ :: _, _, h => by simp [intsOf] at h
  | .dict _ :: _, _, h => by simp [intsOf] at h
def maxI : List Int → Int
  | [] => 0
  | [x] => x
  | x :: y :: r => let m := maxI (y :: r); if m ≤ x then x else m
def minI : List Int → Int
  | [] => 0
  | [x] => x
  | x :: y :: r => let m := minI (y :: r); if x ≤ m then x else m
theorem maxI_mem : ∀ {l : List Int}, l ≠ [] → maxI l ∈ l ∧ ∀ y ∈ l, y ≤ maxI l
  | [], h => absurd rfl h
  | [x], _ => by simp [maxI]
  | x :: y :: r, _ => by
    obtain ⟨h1, h2⟩ := maxI_mem (l := y :: r) (by simp)
    simp only [maxI]
    split
    · refine ⟨List.mem_cons_self, fun z hz => ?_⟩
      rcases List.mem_cons.mp hz with rfl | hz
      · exact Int.le_refl _
      · have := h2 z hz; omega
    · refine ⟨List.mem_cons_of_mem _ h1, fun z hz => ?_⟩
      rcases List.mem_cons.mp hz with rfl | hz
      · omega
      · exact h2 z hz
theorem minI_mem : ∀ {l : List Int}, l ≠ [] → minI l ∈ l ∧ ∀ y ∈ l, minI l ≤ y
  | [], h => absurd rfl h
  | [x], _ => by simp [minI]
  | x :: y :: r, _ => by
    obtain ⟨h1, h2⟩ := minI_mem (l := y :: r) (by simp)
    simp only [minI]
    split
    · refine ⟨List.mem_cons_self, fun z hz => ?_⟩
      rcases List.mem_cons.mp hz with rfl | hz
      · exact Int.le_refl _
      · have := h2 z hz; omega
    · refine ⟨List.mem_cons_of_mem _ h1, fun z hz => ?_⟩
      rcases List.mem_cons.mp hz with rfl | hz
      · omega
      · exact h2 z hz
def pMax : List PyData → Option PyData
  | [.list ds] => (intsOf ds).bind fun ns => if ns ≠ [] then some (.int (maxI ns)) else none
  | [.int i, .int j] => some (.int (if j > i then j else i))
  | _ => none
def pMin : List PyData → Option PyData
  | [.list ds] => (intsOf ds).bind fun ns => if ns ≠ [] then some (.int (minI ns)) else none
  | [.int i, .int j] => some (.int (if j < i then j else i))
  | _ => none
theorem evl_max : EvL K (fun xs H Q => rMax K xs H Q ∨ (∃ i j, xs = [.int i, .int j] ∧ Q (.int (if j > i then j else i)) H)) pMax := by
  intro O H xs as d t ha e Q q
  cases ha with
  | nil => cases e
  | cons h r =>
    cases r with
    | cons h' r' =>
      cases r' with
      | nil =>
        cases h with
        | int i =>
          cases h' with
          | int j => cases e; exact .inr ⟨i, j, rfl, q _ H (Same.refl H) (.int _)⟩
          | _ => cases e
        | _ => cases e
      | cons _ _ => simp [pMax] at e
    | nil =>
      cases h with
      | lst g1 g2 g3 =>
        simp only [pMax] at e
        obtain ⟨ns, e1, e⟩ := bind_some e
        split at e
        · rename_i hn
          cases e
          rw [intsOf_some e1] at g3
          have := g3.asInts
          subst this
          obtain ⟨m1, m2⟩ := maxI_mem hn
          refine .inl ⟨_, ns, rfl, SqL.of (hid_some g1).2, List.length_pos_iff.mpr hn, fun m hm hy => q _ H (Same.refl H) ?_⟩
          have e' : m = maxI ns := Int.le_antisymm (m2 m hm) (hy _ m1)
          rw [e']; exact .int _
        · cases e
      | _ => cases e
theorem evl_min : EvL K (fun xs H Q => rMin K xs H Q ∨ (∃ i j, xs = [.int i, .int j] ∧ Q (.int (if j < i then j else i)) H)) pMin := by
  intro O H xs as d t ha e Q q
  cases ha with
  | nil => cases e
  | cons h r =>
    cases r with
    | cons h' r' =>
      cases r' with
      | nil =>
        cases h with
        | int i =>
          cases h' with
          | int j => cases e; exact .inr ⟨i, j, rfl, q _ H (Same.refl H) (.int _)⟩
          | _ => cases e
        | _ => cases e
      | cons _ _ => simp [pMin] at e
    | nil =>
      cases h with
      | lst g1 g2 g3 =>
        simp only [pMin] at e
        obtain ⟨ns, e1, e⟩ := bind_some e
        split at e
        · rename_i hn
          cases e
          rw [intsOf_some e1] at g3
          have := g3.asInts
          subst this
          obtain ⟨m1, m2⟩ := minI_mem hn
          refine .inl ⟨_, ns, rfl, SqL.of (hid_some g1).2, List.length_pos_iff.mpr hn, fun m hm hy => q _ H (Same.refl H) ?_⟩
          have e' : m = minI ns := Int.le_antisymm (hy _ m1) (m2 m hm)
          rw [e']; exact .int _
        · cases e
      | _ => cases e
end
end CS
/-! DEnum: enumerate of a tuple. -/
namespace CS
open PySem L2 PySem.Spec PyProof.Rows AutoSeq1
open Sem (wp)
set_option maxHeartbeats 1000000 in
theorem meets_enumerate_newT (l : Addr) (items : Array Value) :
    Meets (Builtin.«enumerate.__new__» ⟨[.type "enumerate", .ref l], []⟩) (fun _ R s => s.heap.IsTuple l items ∧
      R (.ok (.ret (.ref (s.heap.push { cls := .type "tuple_iterator", data := .fields #[.ref l, .int 0 0] }).objs.size)))
        { s with heap := (s.heap.push { cls := .type "tuple_iterator", data := .fields #[.ref l, .int 0 0] }).push { cls := .type "enumerate", data := .fields #[.none, .bool false, .ref s.heap.objs.size, rawInt 0, .none, .none] } }) :=
  .of_wp fun prog w A R s h => by
    obtain ⟨hp, g, d, tk, os⟩ := s; obtain ⟨hL, h⟩ := h
    have hsub := sub_enumerate
    wp_walk using wpAny_pyIter_tuple hL
    refine wpAny_stack_any fun st => wpAny_pure ?_
    split
    · rename_i c _ _ _ _ _
      cases (c == Value.type "enumerate")
      · wp_walk using wpAny_pyIter_tuple hL
        exact ⟨_, rfl, h⟩
      · wp_walk using wpAny_pyIter_tuple hL
        exact ⟨_, rfl, h⟩
    · wp_walk using wpAny_pyIter_tuple hL
      exact ⟨_, rfl, h⟩
section
variable {prog : Program} {w : World} {A : Around} {E : Value → Shared → Prop} {s : Shared}
theorem call_enumerate_tuple {l : Addr} {items : Array Value} {Q : Value → Shared → Prop} (hL : s.heap.IsTuple l items)
    (h : ∀ h', IsEnum h' (s.heap.objs.size + 1) s.heap.objs.size 0 .none → h'.IsTupleIter s.heap.objs.size l 0 → h'.objs.size = s.heap.objs.size + 2 →
      (∀ b o, s.heap.get? b = some o → h'.get? b = some o) → Q (.ref (s.heap.objs.size + 1)) { s with heap := h' }) :
    wpAny (model prog w) A (call (.type "enumerate") [.ref l]) Q E s := by
  refine callType_new F.called_enumerate (by decide) (F.typeCall_enumerate_1 _) (F.newCall_enumerate_1 _) (fun obj => F.args_object_init_2 obj _) F.entry_enumerate_new
    (meets_enumerate_newT l items) ⟨hL, ?_⟩
  have hz : (s.heap.push { cls := .type "tuple_iterator", data := .fields #[.ref l, .int 0 0] }).objs.size = s.heap.objs.size + 1 := Heap.size_push ..
  show _ ∧ _
  rw [hz]
  have he : IsEnum ((s.heap.push { cls := .type "tuple_iterator", data := .fields #[.ref l, .int 0 0] }).push
      { cls := .type "enumerate", data := .fields #[.none, .bool false, .ref s.heap.objs.size, rawInt 0, .none, .none] }) (s.heap.objs.size + 1) s.heap.objs.size 0 .none := by
    have := Heap.get?_push_size (s.heap.push { cls := .type "tuple_iterator", data := .fields #[.ref l, .int 0 0] })
      (o := { cls := .type "enumerate", data := .fields #[.none, .bool false, .ref s.heap.objs.size, rawInt 0, .none, .none] }) rfl
    rw [hz] at this; exact this
  refine ⟨⟨_, he, rfl⟩, h _ he ⟨_, Heap.get?_push_of_some _ (Heap.get?_push_size _ rfl), rfl, rfl⟩ (by rw [Heap.size_push, hz]) fun b o x => Heap.get?_push_of_some _ (Heap.get?_push_of_some _ x)⟩
end
def IteT (K : PySem.W.Frag) (a : Addr) : It :=
  ⟨fun i H => ∃ (xs : List V) (x : V), SqT K H a xs ∧ xs[i]? = some x, fun i H v H' => ∃ T x, v = .ref T ∧ H T = none ∧ H' = upd H T (.tup [.int (i : Nat), x]) ∧ ∀ xs, SqT K H a xs → xs[i]? = some x, fun i H => ∃ xs : List V, SqT K H a xs ∧ xs.length = i⟩
theorem turn_enumT {P : Program} {w : World} {K : PySem.W.Frag} {elts : List Expr} {kk : Nat} {tpos : Pos} (a e it : Addr) (hae : a ≠ e) (hai : a ≠ it) :
    Turn P w K (.Tuple elts kk tpos) (IteT K a) [e, it] e (fun i h => (∃ old, IsEnum h e it ((i : Nat) : Int) old) ∧ h.IsTupleIter it a i ∧ e ≠ it) where
  mem := by simp
  obj := fun i h st b hb => by
    obtain ⟨⟨old, he⟩, ⟨o, ho, hc, hd⟩, _⟩ := st
    have e' : b = e ∨ b = it := by simpa using hb
    rcases e' with z | z
    · rw [z]; exact ⟨_, he, fun v q => nomatch q⟩
    · rw [z]; exact ⟨o, ho, fun v q => by rw [hd] at q; cases q⟩
  keep := fun i h h' st k => let ⟨⟨old, he⟩, hi, hne⟩ := st; ⟨⟨old, k e (by simp) _ he⟩, hi.at fun o q => k it (by simp) o q, hne⟩
  item := by
    intro X hP hw hK hc i pins s σ H E I hf st hg
    subst hP hw hK
    obtain ⟨⟨old, he⟩, hit, hne⟩ := st
    obtain ⟨xs, x, hq, hx⟩ := hg
    obtain ⟨its, rv, p, hz⟩ := I.tuple hq
    obtain ⟨u, hu, ru⟩ := rv.get hx
    have hel : e < s.heap.objs.size := Heap.lt_size he
    have hil : it < s.heap.objs.size := by obtain ⟨_, q, _⟩ := hit; exact Heap.lt_size q
    have hlt : i < its.toArray.size := by
      rw [List.size_toArray]
      exact (List.getElem?_eq_some_iff.mp hu).1
    refine wpAny_pyNext_enum_itemD (Draws.tuple (A := X.A.in1) (by exact (I.ok.hd hc)) it a hai its.toArray) he ⟨hit, p⟩ hlt hne (by simp [hne, Ne.symm hae]) fun x' h' tk hP ho hst' hT hsz hk => ?_
    obtain ⟨hit', _⟩ := hst'
    have ex : x' = u := by
      have h1 : its.toArray[i]? = some u := by simpa using hu
      have hP' : its.toArray[i]? = some x' := hP
      rw [h1] at hP'
      exact (Option.some.inj hP').symm
    subst ex
    refine ⟨_, rfl, wpAny_letOwnedTupleGo_enum (s := { s with heap := h', toks := tk + 1 }) ho fun h'' he' sb => ?_⟩
    have hT2 : h''.get? s.heap.objs.size = some { cls := .type "tuple", data := .seq #[.int i tk, x'] } := (sb.2 _ (Nat.ne_of_gt hel)).trans hT
    have new : ObjOk X.prog X.w (upd H s.heap.objs.size (.tup [.int (i : Nat), x])) h'' s.heap.objs.size (.tup [.int (i : Nat), x]) :=
      ⟨by show 2 ≤ sizeLine; decide, [.int i tk, x'], .cons ⟨_, rfl⟩ (.cons ru .nil), ⟨_, hT2, rfl, _, rfl⟩⟩
    have I1 : Inv X pins σ (upd H s.heap.objs.size (.tup [.int (i : Nat), x])) { s with heap := h'', toks := tk + 1 } :=
      I.turnedNew (ch := [e, it]) (fun b ob hb q => (sb.2 b (fun z => hb (by simp [z]))).trans (hk b ob (fun z => hb (by simp [z])) (fun z => hb (by simp [z])) q)) hf (Nat.le_refl _) new
    refine ⟨.ref s.heap.objs.size, _, I1, rfl, ⟨_, x, rfl, I.hok.fresh (Nat.le_refl _), rfl, fun ys hy => by rw [I.tuple_inj hy hq]; exact hx⟩, ⟨⟨x', ?_⟩, hit'.at fun o q => (sb.2 it (Ne.symm hne)).trans q, hne⟩, fun b hb => ?_⟩
    · have e1 : ((i + 1 : Nat) : Int) = (i : Int) + 1 := by omega
      rw [e1]; exact he'
    · have hb' : b < s.heap.objs.size := by
        have e' : b = e ∨ b = it := by simpa using hb
        rcases e' with z | z
        · rw [z]; exact hel
        · rw [z]; exact hil
      rw [upd_ne (Nat.ne_of_lt hb')]
      exact (hf b hb).1
  done := by
    intro X hP hw hK hc i pins s σ H E I hf st hg
    subst hP hw hK
    obtain ⟨⟨old, he⟩, hit, hne⟩ := st
    obtain ⟨xs, hq, hx⟩ := hg
    obtain ⟨its, rv, p, hz⟩ := I.tuple hq
    obtain ⟨f0, f1, f2, f3, f4, f5⟩ := hf it (by simp)
    have hl := rv.length
    have hn : its.toArray.size = i := by rw [List.size_toArray]; omega
    refine wpAny_pyNext_enum_endD (Draws.tuple (A := X.A.in1) (by exact (I.ok.hd hc)) it a hai its.toArray) he ⟨by rw [hn]; exact hit, p⟩ fun h' eb => ⟨rfl, I.turned (t' := s.toks) (fun b o hb q => eb b o hb q) f0 f1 f3 f4 f5⟩
  self := fun A i s Q E st h => let ⟨⟨_, he⟩, _⟩ := st; wpAny_pyIter_enum he h
def iEnumA (K : PySem.W.Frag) (ta : TA) : TI := fun σ H R => ta σ H fun vs H1 => ∃ a xs, vs = [.ref a] ∧ ((SqL K H1 a xs ∧ R (Ite K a) H1) ∨ (SqT K H1 a xs ∧ R (IteT K a) H1))
theorem pi_enumA {X : Cx} {e : Expr} {ta : TA} {p pos tpos : Pos} {elts : List Expr} {kk : Nat} (hg : Gl X "enumerate") (hm : X.mg "enumerate" = none) (ha : PA X [e] ta) (hs : starEach [e] X.env = [(false, eval e X.env)] := by rfl) :
    PI X (.Tuple elts kk tpos) (.Call (.Name "enumerate" p) [e] [] pos) (iEnumA X.K ta) := by
  refine ⟨fun pins s σ H R I h => ?_⟩
  refine Call_ (ld_blt I hg hm boot_enumerate (PyProof.Rows.callWith_type1 (thn (ha.run pos pins s σ H _ I h) fun us s1 ⟨vs, H1, I1, r1, q1⟩ => ?_) hs rfl))
  obtain ⟨a, xs, ex, q1⟩ := q1
  subst ex
  cases r1 with
  | cons r rr =>
    cases rr
    cases r
    have fr : ∀ b, b ∈ [s1.heap.objs.size + 1, s1.heap.objs.size] → FpOk X pins H1 b := fun b hb => by
      have e' : b = s1.heap.objs.size + 1 ∨ b = s1.heap.objs.size := by simpa using hb
      have hle : s1.heap.objs.size ≤ b := by
        rcases e' with z | z
        · rw [z]; exact Nat.le_add_right _ _
        · rw [z]; exact Nat.le_refl _
      exact I1.fpOk hle (I1.hok.fresh hle)
    rcases q1 with ⟨hq, q⟩ | ⟨hq, q⟩
    · obtain ⟨its, rv, p', hz⟩ := I1.list hq
      refine call_enumerate_list p'.isList fun h' he hit hsz hk => wpAny_pyIter_enum he ?_
      have I2 : Inv X pins σ H1 { s1 with heap := h' } := I1.kept (t' := s1.toks) hk
      exact ⟨s1.heap.objs.size + 1, [s1.heap.objs.size + 1, s1.heap.objs.size], _, _, H1, rfl, I2, turn_enum a (s1.heap.objs.size + 1) s1.heap.objs.size, ⟨⟨.none, he⟩, hit, Nat.succ_ne_self _⟩, fr, q⟩
    · obtain ⟨its, rv, p', hz⟩ := I1.tuple hq
      have hlt : a < s1.heap.objs.size := p'.lt
      refine call_enumerate_tuple p' fun h' he hit hsz hk => wpAny_pyIter_enum he ?_
      have I2 : Inv X pins σ H1 { s1 with heap := h' } := I1.kept (t' := s1.toks) hk
      exact ⟨s1.heap.objs.size + 1, [s1.heap.objs.size + 1, s1.heap.objs.size], _, _, H1, rfl, I2, turn_enumT a (s1.heap.objs.size + 1) s1.heap.objs.size (Nat.ne_of_lt (Nat.lt_succ_of_lt hlt)) (Nat.ne_of_lt hlt), ⟨⟨.none, he⟩, hit, Nat.succ_ne_self _⟩, fr, q⟩
end CS
/-! D4: what is walked, targets, comprehensions upon data. -/
namespace CS
open PySem L2
section
variable {X : Cx} {K : PySem.W.Frag}
/-- the value stands for the data, or (w) is a new tuple that will be unpacked at once -/
def Dw (w : Bool) (K : PySem.W.Frag) (H : Hp) (v : V) (d : PyData) : Prop := Dt K H v d ∨ (w = true ∧ ∃ a xs ds, v = .ref a ∧ d = .tuple ds ∧ SqT K H a xs ∧ DtAll K H xs ds)
/-- the iterator gives these data, whatever has been made meanwhile -/
def Feeds (K : PySem.W.Frag) (w : Bool) (O : List Addr) (H1 : Hp) (J : It) (ds : List PyData) : Prop :=
  ∀ (i : Nat) (O' : List Addr) (H : Hp), Same (hid O H1) (hid O' H) → Trk O' H →
    (∀ d, ds[i]? = some d → J.go i H ∧ ∀ x H', J.yld i H x H' → Same H H' ∧ Dw w K (hid O' H') x d) ∧ (i = ds.length → J.stop i H)
def EvI (K : PySem.W.Frag) (w : Bool) (wi : TI) (f : Ev → Option (List PyData)) : Prop :=
  ∀ (O : List Addr) (σ : St) (H : Hp) (ρ : Ev) (ds : List PyData), RepD K O σ H ρ → f ρ = some ds → ∀ R : It → Hp → Prop, (∀ J H1, Same H H1 → ds.length ≤ 65536 → Feeds K w O H1 J ds → R J H1) → wi σ H R
/-- one of two ways to walk -/
def iOr (w1 w2 : TI) : TI := fun σ H R => w1 σ H R ∨ w2 σ H R
theorem pi_or {tg e : Expr} {w1 w2 : TI} (h1 : PI X tg e w1) (h2 : PI X tg e w2) : PI X tg e (iOr w1 w2) :=
  ⟨fun pins s σ H R I h => h.elim (fun q => h1.run pins s σ H R I q) fun q => h2.run pins s σ H R I q⟩
def asSeq : PyData → Option (List PyData)
  | .list ds => some ds
  | .tuple ds => some ds
  | _ => none
def dSeqI (f : Ev → Option PyData) : Ev → Option (List PyData) := fun ρ => (f ρ).bind asSeq
theorem feeds_list {O : List Addr} {H1 : Hp} {a : Addr} {xs : List V} {ds : List PyData} (h1 : hid O H1 a = some (.lst xs)) (h3 : DtAll K (hid O H1) xs ds) : Feeds K false O H1 (Itl K a) ds := by
  intro i O' H s t
  have hq : SqL K H a xs := SqL.of (hid_some (s _ _ h1)).2
  refine ⟨fun d e => ?_, fun e => ?_⟩
  · obtain ⟨v, e1, hv⟩ := h3.get e
    refine ⟨⟨xs, v, hq, e1⟩, fun x H' y => ?_⟩
    obtain ⟨e2, y⟩ := y
    subst e2
    have := y xs hq
    rw [e1] at this
    cases this
    exact ⟨Same.refl _, .inl (hv.same s)⟩
  · exact ⟨xs, hq, by rw [h3.length, e]; exact Nat.le_refl _⟩
theorem feeds_tup {O : List Addr} {H1 : Hp} {a : Addr} {xs : List V} {ds : List PyData} (h1 : TupOk K (hid O H1) a xs) (h3 : DtAll K (hid O H1) xs ds) : Feeds K false O H1 (Itt K a) ds := by
  intro i O' H s t
  have hq : SqT K H a xs := (TupOk.same (s.trans (hid_sub O' H)) h1).sq
  refine ⟨fun d e => ?_, fun e => ?_⟩
  · obtain ⟨v, e1, hv⟩ := h3.get e
    refine ⟨⟨xs, v, hq, e1⟩, fun x H' y => ?_⟩
    obtain ⟨e2, y⟩ := y
    subst e2
    have := y xs hq
    rw [e1] at this
    cases this
    exact ⟨Same.refl _, .inl (hv.same s)⟩
  · exact ⟨xs, hq, by rw [h3.length, e]; exact Nat.le_refl _⟩
theorem evi_seq {tl : TE} {f : Ev → Option PyData} (h : EvE K tl f) : EvI K false (iOr (iList K tl) (iTup K tl)) (dSeqI f) := by
  intro O σ H ρ ds rp e R q
  obtain ⟨a, e1, e⟩ := bind_some e
  cases a with
  | list es =>
    cases e
    refine .inl (h O σ H ρ _ rp e1 _ fun x H1 s1 h1 => ?_)
    cases h1 with
    | lst g1 g2 g3 => exact ⟨_, rfl, ⟨_, SqL.of (hid_some g1).2⟩, q _ H1 s1 (by rw [← g3.length]; exact g2) (feeds_list g1 g3)⟩
  | tuple es =>
    cases e
    refine .inr (h O σ H ρ _ rp e1 _ fun x H1 s1 h1 => ?_)
    cases h1 with
    | tup g1 g2 g3 => exact ⟨_, rfl, ⟨_, (TupOk.same (hid_sub O H1) g1).sq⟩, q _ H1 s1 (by rw [← g3.length]; exact g2) (feeds_tup g1 g3)⟩
  | _ => cases e
/-! range -/
def rngD (lo : Int) (n : Nat) : List PyData := (List.range n).map fun (i : Nat) => PyData.int (lo + (i : Int))
theorem rngD_get {lo : Int} {n i : Nat} {d : PyData} (h : (rngD lo n)[i]? = some d) : i < n ∧ d = .int (lo + i) := by
  unfold rngD at h
  rw [List.getElem?_map] at h
  cases e : (List.range n)[i]? with
  | none => rw [e] at h; cases h
  | some j =>
    rw [e] at h
    obtain ⟨h1, h2⟩ := List.getElem?_eq_some_iff.mp e
    simp at h1 h2
    subst h2
    cases h
    exact ⟨h1, rfl⟩
theorem rngD_len (lo : Int) (n : Nat) : (rngD lo n).length = n := by unfold rngD; simp
theorem feeds_rng {O : List Addr} {H1 : Hp} {lo : Int} {n : Nat} : Feeds K false O H1 (Itr lo n) (rngD lo n) := by
  intro i O' H s t
  refine ⟨fun d e => ?_, fun e => ?_⟩
  · obtain ⟨h1, h2⟩ := rngD_get e
    subst h2
    refine ⟨h1, fun x H' y => ?_⟩
    obtain ⟨e1, e2⟩ := y
    subst e1 e2
    exact ⟨Same.refl _, .inl (.int _)⟩
  · rw [rngD_len] at e
    exact Nat.le_of_eq e.symm
def pRng : List PyData → Option (List PyData)
  | [.int j] => if j ≤ 65536 ∧ -65536 ≤ j then some (rngD 0 j.toNat) else none
  | [.int i, .int j] => if (-65536 ≤ i ∧ i ≤ 65536) ∧ (-65536 ≤ j ∧ j ≤ 65536) ∧ j - i ≤ 65536 then some (rngD i (j - i).toNat) else none
  | _ => none
def dRng (g : Ev → Option (List PyData)) : Ev → Option (List PyData) := fun ρ => (g ρ).bind pRng
theorem evi_rng1 {ta : TA} {f : Ev → Option PyData} (h : EvA K ta (dCons f dNil)) : EvI K false (iRng1 ta) (dRng (dCons f dNil)) := by
  intro O σ H ρ ds rp e R q
  obtain ⟨as, e1, e⟩ := bind_some e
  have hl := dCons_len dNil_len ρ as e1
  refine h O σ H ρ as rp e1 _ fun xs H1 s1 h1 => ?_
  cases h1 with
  | nil => cases hl
  | cons g r =>
    cases r with
    | cons _ _ => simp at hl
    | nil =>
      cases g with
      | int j =>
        simp only [pRng] at e
        split at e
        · rename_i hj
          cases e
          exact ⟨j, rfl, by omega, by omega, q _ H1 s1 (by rw [rngD_len]; omega) feeds_rng⟩
        · cases e
      | _ => cases e
theorem evi_rng2 {ta : TA} {f g : Ev → Option PyData} (h : EvA K ta (dCons f (dCons g dNil))) : EvI K false (iRng2 ta) (dRng (dCons f (dCons g dNil))) := by
  intro O σ H ρ ds rp e R q
  obtain ⟨as, e1, e⟩ := bind_some e
  have hl := dCons_len (dCons_len dNil_len) ρ as e1
  refine h O σ H ρ as rp e1 _ fun xs H1 s1 h1 => ?_
  cases h1 with
  | nil => cases hl
  | cons g r =>
    cases r with
    | nil => simp at hl
    | cons g' r =>
      cases r with
      | cons _ _ => simp at hl
      | nil =>
        cases g with
        | int i =>
          cases g' with
          | int j =>
            simp only [pRng] at e
            split at e
            · rename_i hj
              cases e
              exact ⟨i, j, rfl, by omega, q _ H1 s1 (by rw [rngD_len]; omega) feeds_rng⟩
            · cases e
          | _ => cases e
        | _ => cases e
/-! enumerate, zip -/
def enumD (ds : List PyData) : List PyData := (List.range ds.length).zipWith (fun i d => .tuple [.int (i : Nat), d]) ds
theorem enumD_len (ds : List PyData) : (enumD ds).length = ds.length := by unfold enumD; simp
theorem enumD_get {ds : List PyData} {i : Nat} {d : PyData} (h : (enumD ds)[i]? = some d) : ∃ e, ds[i]? = some e ∧ d = .tuple [.int (i : Nat), e] := by
  unfold enumD at h
  rw [List.getElem?_zipWith] at h
  cases e2 : ds[i]? with
  | none => rw [e2] at h; split at h <;> simp_all
  | some z =>
    have hi : i < ds.length := (List.getElem?_eq_some_iff.mp e2).1
    rw [List.getElem?_range hi, e2] at h
    cases h
    exact ⟨z, rfl, rfl⟩
theorem pair_dt {O' : List Addr} {H : Hp} {T : Addr} {v u : V} {d e : PyData} (t : Trk O' H) (hT : H T = none) (hv : Dt K (hid O' H) v d) (hu : Dt K (hid O' H) u e) : Same H (upd H T (.tup [v, u])) ∧ Dw true K (hid O' (upd H T (.tup [v, u]))) (.ref T) (.tuple [d, e]) :=
  ⟨same_new hT, .inr ⟨rfl, T, [v, u], [d, e], rfl, rfl, SqT.of (hid_new t hT), .cons (hv.same (hid_same (same_new hT))) (.cons (hu.same (hid_same (same_new hT))) .nil)⟩⟩
theorem feeds_enumL {O : List Addr} {H1 : Hp} {a : Addr} {xs : List V} {ds : List PyData} (h1 : hid O H1 a = some (.lst xs)) (h3 : DtAll K (hid O H1) xs ds) : Feeds K true O H1 (Ite K a) (enumD ds) := by
  intro i O' H s t
  have hq : SqL K H a xs := SqL.of (hid_some (s _ _ h1)).2
  refine ⟨fun d e => ?_, fun e => ?_⟩
  · obtain ⟨z, ez, rfl⟩ := enumD_get e
    obtain ⟨v, e1, hv⟩ := h3.get ez
    refine ⟨⟨xs, v, hq, e1⟩, fun x H' y => ?_⟩
    obtain ⟨T, u, rfl, hT, rfl, y⟩ := y
    have := y xs hq
    rw [e1] at this
    cases this
    exact pair_dt t hT (.int _) (hv.same s)
  · rw [enumD_len] at e
    exact ⟨xs, hq, by rw [h3.length, e]; exact Nat.le_refl _⟩
theorem feeds_enumT {O : List Addr} {H1 : Hp} {a : Addr} {xs : List V} {ds : List PyData} (h1 : TupOk K (hid O H1) a xs) (h3 : DtAll K (hid O H1) xs ds) : Feeds K true O H1 (IteT K a) (enumD ds) := by
  intro i O' H s t
  have hq : SqT K H a xs := (TupOk.same (s.trans (hid_sub O' H)) h1).sq
  refine ⟨fun d e => ?_, fun e => ?_⟩
  · obtain ⟨z, ez, rfl⟩ := enumD_get e
    obtain ⟨v, e1, hv⟩ := h3.get ez
    refine ⟨⟨xs, v, hq, e1⟩, fun x H' y => ?_⟩
    obtain ⟨T, u, rfl, hT, rfl, y⟩ := y
    have := y xs hq
    rw [e1] at this
    cases this
    exact pair_dt t hT (.int _) (hv.same s)
  · rw [enumD_len] at e
    exact ⟨xs, hq, by rw [h3.length, e]⟩
def dEnum (f : Ev → Option PyData) : Ev → Option (List PyData) := fun ρ => ((f ρ).bind asSeq).map enumD
theorem evi_enum {tl : TE} {f : Ev → Option PyData} (h : EvE K tl f) : EvI K true (iEnumA K (tCons tl tNil)) (dEnum f) := by
  intro O σ H ρ ds rp e R q
  unfold dEnum at e
  cases e0 : (f ρ).bind asSeq with
  | none => rw [e0] at e; cases e
  | some es =>
    rw [e0] at e
    cases e
    obtain ⟨a, e1, e2⟩ := bind_some e0
    refine h O σ H ρ _ rp e1 _ fun x H1 s1 h1 => ?_
    cases h1 with
    | lst g1 g2 g3 =>
      cases e2
      exact ⟨_, _, rfl, .inl ⟨SqL.of (hid_some g1).2, q _ H1 s1 (by rw [enumD_len, ← g3.length]; exact g2) (feeds_enumL g1 g3)⟩⟩
    | tup g1 g2 g3 =>
      cases e2
      exact ⟨_, _, rfl, .inr ⟨(TupOk.same (hid_sub O H1) g1).sq, q _ H1 s1 (by rw [enumD_len, ← g3.length]; exact g2) (feeds_enumT g1 g3)⟩⟩
    | _ => cases e2
def zipD (ds es : List PyData) : List PyData := ds.zipWith (fun d e => .tuple [d, e]) es
theorem zipD_get {ds es : List PyData} {i : Nat} {d : PyData} (h : (zipD ds es)[i]? = some d) : ∃ a b, ds[i]? = some a ∧ es[i]? = some b ∧ d = .tuple [a, b] := by
  unfold zipD at h
  rw [List.getElem?_zipWith] at h
  cases e1 : ds[i]? with
  | none => rw [e1] at h; simp at h
  | some a =>
    cases e2 : es[i]? with
    | none => rw [e1, e2] at h; simp at h
    | some b => rw [e1, e2] at h; cases h; exact ⟨a, b, rfl, rfl, rfl⟩
theorem feeds_zipT {O : List Addr} {H1 : Hp} {a b : Addr} {xs ys : List V} {ds es : List PyData} (h1 : TupOk K (hid O H1) a xs) (h3 : DtAll K (hid O H1) xs ds) (g1 : TupOk K (hid O H1) b ys) (g3 : DtAll K (hid O H1) ys es) : Feeds K true O H1 (RZ.ItzT K a b) (zipD ds es) := by
  intro i O' H s t
  have hq : SqT K H a xs := (TupOk.same (s.trans (hid_sub O' H)) h1).sq
  have gq : SqT K H b ys := (TupOk.same (s.trans (hid_sub O' H)) g1).sq
  refine ⟨fun d e => ?_, fun e => ?_⟩
  · obtain ⟨z, z', ez, ez', rfl⟩ := zipD_get e
    obtain ⟨v, e1, hv⟩ := h3.get ez
    obtain ⟨v', e1', hv'⟩ := g3.get ez'
    refine ⟨⟨xs, ys, v, v', hq, gq, e1, e1'⟩, fun x H' y => ?_⟩
    obtain ⟨T, u, u', rfl, hT, rfl, y, y'⟩ := y
    have := y xs hq
    rw [e1] at this
    cases this
    have := y' ys gq
    rw [e1'] at this
    cases this
    exact pair_dt t hT (hv.same s) (hv'.same s)
  · refine ⟨xs, ys, hq, gq, ?_⟩
    have : (zipD ds es).length = min ds.length es.length := by unfold zipD; simp
    rw [h3.length, g3.length]
    omega
def pZip : List PyData → Option (List PyData)
  | [.tuple ds, .tuple es] => some (zipD ds es)
  | _ => none
def dZip (g : Ev → Option (List PyData)) : Ev → Option (List PyData) := fun ρ => (g ρ).bind pZip
theorem evi_zip {ta : TA} {g : Ev → Option (List PyData)} (h : EvA K ta g) : EvI K true (RZ.iZipA K ta) (dZip g) := by
  intro O σ H ρ ds rp e R q
  obtain ⟨as, e1, e⟩ := bind_some e
  refine h O σ H ρ as rp e1 _ fun xs H1 s1 h1 => ?_
  cases h1 with
  | nil => cases e
  | cons g r =>
    cases r with
    | nil => cases g <;> cases e
    | cons g' r =>
      cases r with
      | cons _ _ => cases g <;> cases g' <;> cases e
      | nil =>
        cases g with
        | tup a1 a2 a3 =>
          cases g' with
          | tup b1 b2 b3 =>
            cases e
            refine ⟨_, _, _, _, rfl, .inr ⟨(TupOk.same (hid_sub O H1) a1).sq, (TupOk.same (hid_sub O H1) b1).sq, q _ H1 s1 ?_ (feeds_zipT a1 a3 b1 b3)⟩⟩
            unfold zipD
            rw [List.length_zipWith, ← a3.length]
            omega
          | _ => cases e
        | _ => cases e

/-! targets -/
def DtPairs (K : PySem.W.Frag) (H : Hp) : List (Nat × V) → List (Nat × PyData) → Prop
  | [], [] => True
  | (i, v) :: r, (j, d) :: s => i = j ∧ Dt K H v d ∧ DtPairs K H r s
  | _, _ => False
def setV (σ : St) : List (Nat × V) → St
  | [] => σ
  | (i, v) :: r => setV (σ.set i (some v)) r
def setD (ρ : Ev) : List (Nat × PyData) → Ev
  | [] => ρ
  | (i, d) :: r => setD (ρ.set i (.dat d)) r
def EvG (K : PySem.W.Frag) (w : Bool) (g : TG) (a : PyData → Option (List (Nat × PyData))) : Prop :=
  ∀ (O : List Addr) (v : V) (σ : St) (H : Hp) (d : PyData) (as : List (Nat × PyData)), Dw w K (hid O H) v d → a d = some as → ∀ Q : St → Hp → Prop, (∀ vs, DtPairs K (hid O H) vs as → Q (setV σ vs) H) → g v σ H Q
def aName (i : Nat) : PyData → Option (List (Nat × PyData)) := fun d => some [(i, d)]
theorem evg_name (i : Nat) : EvG K false (gName i) (aName i) := by
  intro O v σ H d as h e Q q
  cases e
  have h : Dt K (hid O H) v d := h.elim id fun z => nomatch z.1
  exact q [(i, v)] ⟨rfl, h, trivial⟩
def asTup : PyData → Option (List PyData)
  | .tuple ds => some ds
  | _ => none
def aTup (is : List Nat) : PyData → Option (List (Nat × PyData)) := fun d => (asTup d).bind fun ds => if ds.length = is.length then some (is.zip ds) else none
def gNames : List Nat → TGs
  | [] => gNil
  | i :: r => gCons (gName i) (gNames r)
theorem gNames_run {O : List Addr} {H : Hp} : ∀ (is : List Nat) (vs : List V) (ds : List PyData) (σ : St) (Q : St → Hp → Prop), DtAll K (hid O H) vs ds → ds.length = is.length → (∀ ws, DtPairs K (hid O H) ws (is.zip ds) → Q (setV σ ws) H) → gNames is vs σ H Q
  | [], [], [], σ, Q, _, _, q => ⟨rfl, q [] trivial⟩
  | i :: is, v :: vs, d :: ds, σ, Q, .cons h t, hl, q =>
    ⟨v, vs, rfl, gNames_run is vs ds _ Q t (by simpa using hl) fun ws hw => q ((i, v) :: ws) ⟨rfl, h, hw⟩⟩
  | [], _, d :: ds, _, _, _, hl, _ => by simp at hl
  | i :: is, _, [], _, _, _, hl, _ => by simp at hl
theorem evg_tup {w : Bool} (is : List Nat) (n : Nat) (hn : is.length = n) : EvG K w (gTup K n (gNames is)) (aTup is) := by
  intro O v σ H d as h e Q q
  obtain ⟨ds, e1, e⟩ := bind_some e
  have key : ∃ a xs es, v = .ref a ∧ d = .tuple es ∧ SqT K H a xs ∧ DtAll K (hid O H) xs es := by
    rcases h with h | ⟨_, a, xs, es, h1, h2, h3, h4⟩
    · cases h with
      | tup g1 g2 g3 => exact ⟨_, _, _, rfl, rfl, (TupOk.same (hid_sub O H) g1).sq, g3⟩
      | _ => cases e1
    · exact ⟨a, xs, es, h1, h2, Same.sqT (hid_sub O H) h3, h4⟩
  obtain ⟨a, xs, es, rfl, rfl, g1, g3⟩ := key
  cases e1
  replace e : (if ds.length = is.length then some (is.zip ds) else none) = some as := e
  split at e
  · rename_i hl
    cases e
    exact ⟨_, _, rfl, g1, by rw [g3.length, hl, hn], gNames_run is _ _ σ Q g3 hl q⟩
  · cases e
theorem setV_len : ∀ (vs : List (Nat × V)) (σ : St), (setV σ vs).length = σ.length
  | [], σ => rfl
  | (i, v) :: r, σ => by unfold setV; rw [setV_len r, List.length_set]
theorem setD_len : ∀ (vs : List (Nat × PyData)) (ρ : Ev), (setD ρ vs).length = ρ.length
  | [], σ => rfl
  | (i, v) :: r, σ => by unfold setD; rw [setD_len r, List.length_set]

/-! comprehensions -/
def wipeD (ρ : Ev) : List Nat → Ev
  | [] => ρ
  | v :: vs => (wipeD ρ vs).set v .no
theorem wipeD_len (ρ : Ev) : ∀ vs : List Nat, (wipeD ρ vs).length = ρ.length
  | [] => rfl
  | v :: vs => by unfold wipeD; rw [List.length_set, wipeD_len ρ vs]
/-- the slots alone -/
def SlD (K : PySem.W.Frag) (H : Hp) (σ : St) (ρ : Ev) : Prop := σ.length = ρ.length ∧ ∀ (i : Nat) (d : PyData), ρ[i]? = some (.dat d) → ∃ v, σ[i]? = some (some v) ∧ Dt K H v d
theorem SlD.same {H H' : Hp} {σ : St} {ρ : Ev} (h : SlD K H σ ρ) (s : Same H H') : SlD K H' σ ρ := ⟨h.1, fun i d e => let ⟨v, h1, h2⟩ := h.2 i d e; ⟨v, h1, h2.same s⟩⟩
theorem SlD.wipe {H : Hp} {σ : St} {ρ : Ev} (h : SlD K H σ ρ) : ∀ vs : List Nat, SlD K H (wipe σ vs) (wipeD ρ vs)
  | [] => h
  | v :: vs => by
    obtain ⟨hl, hs⟩ := SlD.wipe h vs
    refine ⟨by rw [L2.wipe_length, wipeD_len]; exact h.1, fun i d e => ?_⟩
    unfold wipeD at e
    unfold L2.wipe
    by_cases hv : v = i
    · subst hv
      rw [List.getElem?_set] at e
      rw [if_pos rfl] at e
      split at e <;> cases e
    · rw [List.getElem?_set_ne hv] at e ⊢
      exact hs i d e
theorem SlD.set {K : PySem.W.Frag} {H : Hp} {σ : St} {ρ : Ev} {i : Nat} {v : V} {d : PyData} (h : SlD K H σ ρ) (hv : Dt K H v d) : SlD K H (σ.set i (some v)) (ρ.set i (.dat d)) := by
  refine ⟨by rw [List.length_set, List.length_set]; exact h.1, fun j e he => ?_⟩
  by_cases hj : i = j
  · subst hj
    rw [List.getElem?_set, if_pos rfl] at he ⊢
    split at he
    · rename_i hlt
      cases he
      rw [if_pos (by rw [h.1]; exact hlt)]
      exact ⟨v, rfl, hv⟩
    · cases he
  · rw [List.getElem?_set_ne hj] at he ⊢
    exact h.2 j e he
theorem SlD.sets {H : Hp} : ∀ {vs : List (Nat × V)} {as : List (Nat × PyData)} {σ : St} {ρ : Ev}, SlD K H σ ρ → DtPairs K H vs as → SlD K H (setV σ vs) (setD ρ as)
  | [], [], _, _, h, _ => h
  | (i, v) :: r, (j, d) :: s, σ, ρ, h, q => by
    obtain ⟨rfl, hv, hr⟩ := q
    show SlD K H (setV (σ.set i (some v)) r) (setD (ρ.set i (.dat d)) s)
    exact SlD.sets (SlD.set h hv) hr
  | [], _ :: _, _, _, _, q => q.elim
  | _ :: _, [], _, _, _, q => q.elim
theorem DctD.wipe {O : List Addr} {H : Hp} {σ : St} {ρ : Ev} (h : DctD K O σ H ρ) : ∀ vs : List Nat, DctD K O (wipe σ vs) H (wipeD ρ vs)
  | [] => h
  | v :: vs => by
    intro i d e
    unfold wipeD at e
    unfold L2.wipe
    by_cases hv : v = i
    · subst hv
      rw [List.getElem?_set] at e
      rw [if_pos rfl] at e
      split at e <;> cases e
    · rw [List.getElem?_set_ne hv] at e ⊢
      exact DctD.wipe h vs i d e
theorem DctD.sets {O : List Addr} {H Hz : Hp} : ∀ {vs : List (Nat × V)} {as : List (Nat × PyData)} {σ : St} {ρ : Ev}, DctD K O σ H ρ → DtPairs K Hz vs as → DctD K O (setV σ vs) H (setD ρ as)
  | [], [], _, _, h, _ => h
  | (i, v) :: r, (j, d) :: s, σ, ρ, h, q => by
    obtain ⟨rfl, hv, hr⟩ := q
    show DctD K O (setV (σ.set i (some v)) r) H (setD (ρ.set i (.dat d)) s)
    refine DctD.sets (fun k kvs e => ?_) hr
    by_cases hk : i = k
    · subst hk
      rw [List.getElem?_set, if_pos rfl] at e
      split at e <;> cases e
    · rw [List.getElem?_set_ne hk] at e ⊢
      exact h k kvs e
  | [], _ :: _, _, _, _, q => q.elim
  | _ :: _, [], _, _, _, q => q.elim
theorem wipe_set_in {σ : St} {i : Nat} {v : Option V} : ∀ {vs : List Nat}, i ∈ vs → wipe (σ.set i v) vs = wipe σ vs
  | [], h => nomatch h
  | w :: vs, h => by
    unfold L2.wipe
    by_cases hw : i = w
    · subst hw
      by_cases hm : i ∈ vs
      · rw [wipe_set_in hm]
      · have : ∀ (us : List Nat), i ∉ us → wipe (σ.set i v) us = (wipe σ us).set i v := by
          intro us hu
          induction us with
          | nil => rfl
          | cons u us ih =>
            unfold L2.wipe
            rw [ih (fun z => hu (List.mem_cons_of_mem _ z)), List.set_comm]
            intro z
            exact hu (by rw [z]; exact List.mem_cons_self)
        rw [this vs hm, List.set_set]
    · have hm : i ∈ vs := by
        rcases List.mem_cons.mp h with z | z
        · exact absurd z hw
        · exact z
      rw [wipe_set_in hm]
theorem wipe_setV : ∀ {ws : List (Nat × V)} {σ : St} {vs : List Nat}, (∀ p ∈ ws, p.1 ∈ vs) → wipe (setV σ ws) vs = wipe σ vs
  | [], _, _, _ => rfl
  | (i, v) :: r, σ, vs, h => by
    unfold setV
    rw [wipe_setV (fun p hp => h p (List.mem_cons_of_mem _ hp)), wipe_set_in (h (i, v) List.mem_cons_self)]
theorem wipe_wipe {σ : St} : ∀ {vs : List Nat}, wipe (wipe σ vs) vs = wipe σ vs := by
  intro vs
  have key : ∀ us, (∀ i ∈ vs, i ∈ us) → wipe (wipe σ vs) us = wipe σ us := by
    intro us
    induction vs with
    | nil => intro _; rfl
    | cons w ws ih =>
      intro h
      show wipe ((wipe σ ws).set w none) us = _
      rw [wipe_set_in (h w List.mem_cons_self)]
      exact ih fun i hi => h i (List.mem_cons_of_mem _ hi)
  exact key vs fun _ h => h
theorem pairs_fst {H : Hp} : ∀ {vs : List (Nat × V)} {as : List (Nat × PyData)}, DtPairs K H vs as → vs.map (·.1) = as.map (·.1)
  | [], [], _ => rfl
  | (i, v) :: r, (j, d) :: s, q => by
    obtain ⟨rfl, _, hr⟩ := q
    rw [List.map_cons, List.map_cons, pairs_fst hr]
  | [], _ :: _, q => q.elim
  | _ :: _, [], q => q.elim
/-- the items, from the left; the wiped slots set, the test, the item -/
def compD (vs : List Nat) (a : PyData → Option (List (Nat × PyData))) (c : Ev → Option Bool) (f : Ev → Option PyData) (ρ : Ev) : List PyData → Option (List PyData)
  | [] => some []
  | d :: ds => (a d).bind fun as => if (as.all fun p => vs.contains p.1) = true then (c (setD (wipeD ρ vs) as)).bind fun b =>
      if b = true then (f (setD (wipeD ρ vs) as)).bind fun y => (compD vs a c f ρ ds).bind fun r => some (y :: r) else compD vs a c f ρ ds else none
def dYes : Ev → Option Bool := fun _ => some true
theorem ev_yes : EvT K tYes dYes := by
  intro O σ H ρ b rp e Q q
  cases e
  exact q H (Same.refl H)
def dLc (vs : List Nat) (fi : Ev → Option (List PyData)) (a : PyData → Option (List (Nat × PyData))) (c : Ev → Option Bool) (f : Ev → Option PyData) : Ev → Option PyData :=
  fun ρ => (fi ρ).bind fun ds => (compD vs a c f ρ ds).map .list
theorem compD_len {vs : List Nat} {a : PyData → Option (List (Nat × PyData))} {c : Ev → Option Bool} {f : Ev → Option PyData} {ρ : Ev} : ∀ {ds out : List PyData}, compD vs a c f ρ ds = some out → out.length ≤ ds.length
  | [], out, e => by cases e; exact Nat.le_refl _
  | d :: ds, out, e => by
    unfold compD at e
    obtain ⟨as, e1, e⟩ := bind_some e
    split at e
    · obtain ⟨b, e2, e⟩ := bind_some e
      split at e
      · obtain ⟨y, e3, e⟩ := bind_some e
        obtain ⟨r, e4, e⟩ := bind_some e
        cases e
        have := compD_len e4
        rw [List.length_cons, List.length_cons]; omega
      · have := compD_len e
        rw [List.length_cons]; omega
    · cases e
theorem RepD.sl {O : List Addr} {σ : St} {H : Hp} {ρ : Ev} (r : RepD K O σ H ρ) : SlD K (hid O H) σ ρ := r.2.1
theorem hid_own {O : List Addr} {H : Hp} {D : Addr} {o : HO} : hid (D :: O) (upd H D o) = hid (D :: O) H := by
  funext b
  unfold hid
  split
  · rfl
  · rename_i h
    exact upd_ne fun z => h (by rw [z]; exact List.mem_cons_self)
theorem hid_out_new {O : List Addr} {H : Hp} {D : Addr} (h : H D = none) : hid (D :: O) H = hid O H := by
  funext b
  unfold hid
  by_cases hb : b = D
  · subst hb
    rw [if_pos List.mem_cons_self]
    split
    · rfl
    · exact h.symm
  · by_cases ho : b ∈ O
    · rw [if_pos ho, if_pos (List.mem_cons_of_mem _ ho)]
    · rw [if_neg ho, if_neg (fun z => (List.mem_cons.mp z).elim hb ho)]
/-- a list is made item by item -/
theorem lc_run {wi : TI} {g : TG} {tt : TT} {te : TE} {vs : List Nat} {fi : Ev → Option (List PyData)} {a : PyData → Option (List (Nat × PyData))} {c : Ev → Option Bool} {f : Ev → Option PyData}
    {w : Bool} (hi : EvI K w wi fi) (hg : EvG K w g a) (ht : EvT K tt c) (he : EvE K te f)
    {O : List Addr} {σ : St} {H : Hp} {ρ : Ev} {ds out : List PyData} (rp : RepD K O σ H ρ) (e1 : fi ρ = some ds) (e2 : compD vs a c f ρ ds = some out) {Q : VK}
    (q : ∀ (D : Addr) (ys : List V) (H' : Hp), Same H H' → H D = none → H' D = some (.lst ys) → ys.length ≤ 65536 → DtAll K (hid (D :: O) H') ys out → Q (.ref D) H') : tLc wi g tt te vs σ H Q := by
  refine hi O σ H ρ ds rp e1 _ fun J H1 s1 hlen F => ?_
  intro D hD
  have h0 : H D = none := s1.free hD
  have t1 := rp.1.same s1
  have rp1 := rp.same s1
  -- the invariant: by the items that are left
  refine ⟨fun i m H2 => m = ds.length - i ∧ i ≤ ds.length ∧ ∃ acc dacc rest, H2 D = some (.lst acc) ∧ Same H H2 ∧ Same (hid O H1) (hid (D :: O) H2) ∧ DtAll K (hid (D :: O) H2) acc dacc ∧ dacc.length ≤ i ∧ Trk (D :: O) H2 ∧
    compD vs a c f ρ (ds.drop i) = some rest ∧ dacc ++ rest = out, ⟨ds.length, by simp, Nat.zero_le _, [], [], out, upd_same, s1.trans (same_new hD), ?_, .nil, Nat.le_refl _, ?_, by simpa using e2, rfl⟩, ?_⟩
  · rw [hid_own, hid_out_new hD]
    exact Same.refl _
  · intro l hl
    rcases List.mem_cons.mp hl with z | z
    · subst z; exact ⟨_, upd_same, trivial⟩
    · exact (t1.same (same_new hD)) l z
  rintro i m H2 ⟨rfl, hi, acc, dacc, rest, hacc, s2, sO, da, hda, t2, ec, eo⟩
  have hacl : acc.length ≤ 65536 := by rw [da.length]; omega
  obtain ⟨F1, F2⟩ := F i (D :: O) H2 sO t2
  by_cases hlt : i < ds.length
  · obtain ⟨d, ed⟩ : ∃ d, ds[i]? = some d := ⟨ds[i], List.getElem?_eq_getElem hlt⟩
    obtain ⟨go, yl⟩ := F1 d ed
    refine .inr ⟨go, fun H3 => ∃ m', m' < ds.length - i ∧ (m' = ds.length - (i + 1) ∧ i + 1 ≤ ds.length ∧ ∃ acc dacc rest, H3 D = some (.lst acc) ∧ Same H H3 ∧ Same (hid O H1) (hid (D :: O) H3) ∧ DtAll K (hid (D :: O) H3) acc dacc ∧ dacc.length ≤ i + 1 ∧ Trk (D :: O) H3 ∧
      compD vs a c f ρ (ds.drop (i + 1)) = some rest ∧ dacc ++ rest = out), fun H' z => z, fun x H3 y => ?_⟩
    obtain ⟨s3, dx⟩ := yl x H3 y
    rw [List.drop_eq_getElem_cons hlt] at ec
    have edd : ds[i] = d := by
      have := List.getElem?_eq_getElem hlt
      rw [ed] at this
      exact (Option.some.inj this).symm
    rw [edd] at ec
    unfold compD at ec
    obtain ⟨as, ea, ec⟩ := bind_some ec
    split at ec
    · rename_i hall
      obtain ⟨b, eb, ec⟩ := bind_some ec
      refine hg (D :: O) x (wipe σ vs) H3 d as dx ea _ fun ws hws => ?_
      have hin : ∀ p ∈ ws, p.1 ∈ vs := by
        intro p hp
        have : p.1 ∈ ws.map (·.1) := List.mem_map.mpr ⟨p, hp, rfl⟩
        rw [pairs_fst hws] at this
        obtain ⟨p', hp', e'⟩ := List.mem_map.mp this
        have := List.all_eq_true.mp hall p' hp'
        rw [← e']
        simpa using this
      refine ⟨by rw [wipe_setV hin, wipe_wipe], ?_⟩
      have t3 : Trk (D :: O) H3 := t2.same s3
      have rpB : RepD K (D :: O) (setV (wipe σ vs) ws) H3 (setD (wipeD ρ vs) as) := by
        have sl : SlD K (hid O H1) σ ρ := rp1.sl
        refine ⟨t3, SlD.sets ((sl.wipe vs).same (sO.trans (hid_same s3))) hws, DctD.sets (fun j kvs ej => ?_) hws⟩
        obtain ⟨l, ws', g1, g2, g3⟩ := DctD.wipe rp.2.2 vs j kvs ej
        exact ⟨l, ws', g1, (DOb.same s2 g2).same s3, g3.same ((hid_same s1).trans (sO.trans (hid_same s3)))⟩
      refine ht (D :: O) _ H3 _ b rpB eb _ fun H4 s4 => ?_
      cases b with
      | true =>
        refine iteT ?_
        rw [if_pos rfl] at ec
        obtain ⟨y, ey, ec⟩ := bind_some ec
        obtain ⟨r, er, ec⟩ := bind_some ec
        cases ec
        refine he (D :: O) _ H4 _ y (rpB.same s4) ey _ fun v H5 s5 dv => ?_
        have s25 : Same H2 H5 := (s3.trans s4).trans s5
        refine ⟨acc, s25 _ _ hacc, Nat.lt_of_le_of_lt hacl (by decide), ds.length - (i + 1), by omega, rfl, hlt, acc ++ [v], dacc ++ [y], r, upd_same, ?_, ?_, ?_, ?_, ?_, er, by rw [List.append_assoc]; exact eo⟩
        · intro b o hb
          have hne : b ≠ D := fun z => by rw [z] at hb; rw [h0] at hb; cases hb
          rw [upd_ne hne]
          exact s25 _ _ (s2 _ _ hb)
        · rw [hid_own]
          exact sO.trans (hid_same s25)
        · rw [hid_own]
          exact (da.same (hid_same s25)).append (.cons dv .nil)
        · rw [List.length_append]; simp; omega
        · intro l hl
          rcases List.mem_cons.mp hl with z | z
          · subst z; exact ⟨_, upd_same, trivial⟩
          · obtain ⟨o, e, mo⟩ := t2.same s25 l (List.mem_cons_of_mem _ z)
            by_cases hl : l = D
            · subst hl; exact ⟨_, upd_same, trivial⟩
            · exact ⟨o, by rw [upd_ne hl]; exact e, mo⟩
      | false =>
        refine iteF ?_
        rw [if_neg Bool.false_ne_true] at ec
        have s24 : Same H2 H4 := s3.trans s4
        exact ⟨ds.length - (i + 1), by omega, rfl, hlt, acc, dacc, rest, s24 _ _ hacc, s2.trans s24, sO.trans (hid_same s24), da.same (hid_same s24), by omega, t2.same s24, ec, eo⟩
    · cases ec
  · have hie : i = ds.length := by omega
    refine .inl ⟨F2 hie, ?_⟩
    rw [hie, List.drop_length] at ec
    cases ec
    rw [List.append_nil] at eo
    subst eo
    exact q D acc H2 s2 h0 hacc hacl da
theorem ev_lc {wi : TI} {g : TG} {tt : TT} {te : TE} {vs : List Nat} {fi : Ev → Option (List PyData)} {a : PyData → Option (List (Nat × PyData))} {c : Ev → Option Bool} {f : Ev → Option PyData}
    {w : Bool} (hi : EvI K w wi fi) (hg : EvG K w g a) (ht : EvT K tt c) (he : EvE K te f) : EvE K (tLc wi g tt te vs) (dLc vs fi a c f) := by
  intro O σ H ρ d rp e Q q
  obtain ⟨ds, e1, e⟩ := bind_some e
  cases e2 : compD vs a c f ρ ds with
  | none => rw [e2] at e; cases e
  | some out =>
    rw [e2] at e
    cases e
    refine lc_run hi hg ht he rp e1 e2 fun D ys H' s hD hy hl da => q _ H' s ?_
    have hno : D ∉ O := rp.1.new hD
    exact .lst (by rw [hid_out hno]; exact hy) hl (da.same (hid_le fun b hb => List.mem_cons_of_mem _ hb))
end
end CS
/-! D5: statements upon data. -/
namespace CS
open PySem L2
/-- what a statement comes to -/
inductive Out where
  | nx (ρ : Ev)
  | rt (d : PyData)
  | bk (ρ : Ev)
  | ct (ρ : Ev)
  | xc (k : Nat) (ρ : Ev)
def vw : Cell → Cell
  | .own ds => .dat (.list ds)
  | c => c
def isOw : Cell → Bool
  | .own _ => true
  | .dct _ => true
  | _ => false
def view (ρ : Ev) : Ev := ρ.map vw
/-- the slots, the heap: L is what this def owns, H_0 its entry, O_0 what the callers own -/
structure RepL (K : PySem.W.Frag) (O_0 : List Addr) (H_0 : Hp) (L : List Addr) (σ : St) (H : Hp) (ρ : Ev) : Prop where
  t0 : Trk O_0 H_0
  sm : Same H_0 H
  fr : ∀ l ∈ L, H_0 l = none
  tr : Trk (L ++ O_0) H
  sl : SlD K (hid (L ++ O_0) H) σ ρ
  ow : ∀ (i : Nat) (ds : List PyData), ρ[i]? = some (.own ds) → ∃ (l : Addr) (vs : List V), σ[i]? = some (some (.ref l)) ∧ l ∈ L ∧ H l = some (.lst vs) ∧ vs.length ≤ 65536 ∧ DtAll K (hid (L ++ O_0) H) vs ds
  dw : ∀ (i : Nat) (ds : List (List Key × PyData)), ρ[i]? = some (.dct ds) → ∃ (l : Addr) (vs : List (List Key × V)), σ[i]? = some (some (.ref l)) ∧ l ∈ L ∧ DOb K H l vs ∧ vs.length ≤ 65536 ∧ KvD K (hid (L ++ O_0) H) vs ds
  ij : ∀ (i j : Nat) (l : Addr) (c e : Cell), ρ[i]? = some c → ρ[j]? = some e → isOw c = true → isOw e = true → σ[i]? = some (some (.ref l)) → σ[j]? = some (some (.ref l)) → i = j
def Rep (K : PySem.W.Frag) (O_0 : List Addr) (H_0 : Hp) (σ : St) (H : Hp) (ρ : Ev) : Prop := ∃ L, RepL K O_0 H_0 L σ H ρ
section
variable {K : PySem.W.Frag} {O_0 : List Addr} {H_0 : Hp} {L : List Addr} {σ : St} {H : Hp} {ρ : Ev}
theorem RepL.strong (r : RepL K O_0 H_0 L σ H ρ) : RepD K (L ++ O_0) σ H ρ := ⟨r.tr, r.sl, fun i kvs e => let ⟨l, vs, h1, _, h3, _, h5⟩ := r.dw i kvs e; ⟨l, vs, h1, h3, h5⟩⟩
theorem RepL.step {H' : Hp} (r : RepL K O_0 H_0 L σ H ρ) (s : Same H H') : RepL K O_0 H_0 L σ H' ρ where
  t0 := r.t0
  sm := r.sm.trans s
  fr := r.fr
  tr := r.tr.same s
  sl := r.sl.same (hid_same s)
  ow := fun i ds e => let ⟨l, vs, h1, h2, h3, h4, h5⟩ := r.ow i ds e; ⟨l, vs, h1, h2, s _ _ h3, h4, h5.same (hid_same s)⟩
  dw := fun i ds e => let ⟨l, vs, h1, h2, h3, h4, h5⟩ := r.dw i ds e; ⟨l, vs, h1, h2, h3.same s, h4, h5.same (hid_same s)⟩
  ij := r.ij
theorem view_get {ρ : Ev} {i : Nat} : (view ρ)[i]? = (ρ[i]?).map vw := by unfold view; rw [List.getElem?_map]
theorem RepL.notO (r : RepL K O_0 H_0 L σ H ρ) {l : Addr} (h : l ∈ L) : l ∉ O_0 := r.t0.new (r.fr l h)
theorem RepL.view (r : RepL K O_0 H_0 L σ H ρ) : RepD K O_0 σ H (view ρ) := by
  have le : Same (hid (L ++ O_0) H) (hid O_0 H) := hid_le fun b hb => List.mem_append_right _ hb
  refine ⟨r.t0.same r.sm, ⟨by unfold CS.view; rw [List.length_map]; exact r.sl.1, fun i d e => ?_⟩, fun i kvs e => ?_⟩
  rotate_left
  · rw [view_get] at e
    cases e1 : ρ[i]? with
    | none => rw [e1] at e; cases e
    | some c =>
      rw [e1] at e
      cases c with
      | dct ds =>
        cases e
        obtain ⟨l, vs, h1, _, h3, _, h5⟩ := r.dw i kvs e1
        exact ⟨l, vs, h1, h3, h5.same le⟩
      | _ => cases e
  rw [view_get] at e
  cases e1 : ρ[i]? with
  | none => rw [e1] at e; cases e
  | some c =>
    rw [e1] at e
    cases c with
    | no => cases e
    | dat d' =>
      cases e
      obtain ⟨v, h1, h2⟩ := r.sl.2 i d e1
      exact ⟨v, h1, h2.same le⟩
    | own ds =>
      cases e
      obtain ⟨l, vs, h1, h2, h3, h4, h5⟩ := r.ow i ds e1
      exact ⟨_, h1, .lst (by rw [hid_out (r.notO h2)]; exact h3) h4 (h5.same le)⟩
    | dct ds => cases e
theorem set_get {α : Type} {l : List α} {i j : Nat} {a b : α} (h : (l.set i a)[j]? = some b) : (i = j ∧ b = a ∧ i < l.length) ∨ (i ≠ j ∧ l[j]? = some b) := by
  by_cases hj : i = j
  · subst hj
    rw [List.getElem?_set, if_pos rfl] at h
    split at h
    · rename_i hl; cases h; exact .inl ⟨rfl, rfl, hl⟩
    · cases h
  · rw [List.getElem?_set_ne hj] at h
    exact .inr ⟨hj, h⟩
theorem ij_set {ρ : Ev} {σ : St} {i : Nat} {c0 : Cell} {x : Option V} (hc : isOw c0 = false) (ij : ∀ (i j : Nat) (l : Addr) (c e : Cell), ρ[i]? = some c → ρ[j]? = some e → isOw c = true → isOw e = true → σ[i]? = some (some (.ref l)) → σ[j]? = some (some (.ref l)) → i = j) :
    ∀ (j k : Nat) (l : Addr) (c e : Cell), (ρ.set i c0)[j]? = some c → (ρ.set i c0)[k]? = some e → isOw c = true → isOw e = true → (σ.set i x)[j]? = some (some (.ref l)) → (σ.set i x)[k]? = some (some (.ref l)) → j = k := by
  intro j k l c e e1 e2 o1 o2 s1 s2
  rcases set_get e1 with ⟨_, z, _⟩ | ⟨n1, e1⟩
  · rw [z, hc] at o1; cases o1
  rcases set_get e2 with ⟨_, z, _⟩ | ⟨n2, e2⟩
  · rw [z, hc] at o2; cases o2
  rw [List.getElem?_set_ne n1] at s1
  rw [List.getElem?_set_ne n2] at s2
  exact ij j k l c e e1 e2 o1 o2 s1 s2
theorem ij_drop {ρ : Ev} {σ : St} {i : Nat} {c0 : Cell} (hc : isOw c0 = false) (ij : ∀ (i j : Nat) (l : Addr) (c e : Cell), ρ[i]? = some c → ρ[j]? = some e → isOw c = true → isOw e = true → σ[i]? = some (some (.ref l)) → σ[j]? = some (some (.ref l)) → i = j) :
    ∀ (j k : Nat) (l : Addr) (c e : Cell), (ρ.set i c0)[j]? = some c → (ρ.set i c0)[k]? = some e → isOw c = true → isOw e = true → σ[j]? = some (some (.ref l)) → σ[k]? = some (some (.ref l)) → j = k := by
  intro j k l c e e1 e2 o1 o2 s1 s2
  rcases set_get e1 with ⟨_, z, _⟩ | ⟨n1, e1⟩
  · rw [z, hc] at o1; cases o1
  rcases set_get e2 with ⟨_, z, _⟩ | ⟨n2, e2⟩
  · rw [z, hc] at o2; cases o2
  exact ij j k l c e e1 e2 o1 o2 s1 s2
/-- a slot that is given data -/
theorem RepL.setDat {i : Nat} {v : V} {d : PyData} (r : RepL K O_0 H_0 L σ H ρ) (hv : Dt K (hid (L ++ O_0) H) v d) : RepL K O_0 H_0 L (σ.set i (some v)) H (ρ.set i (.dat d)) where
  t0 := r.t0
  sm := r.sm
  fr := r.fr
  tr := r.tr
  sl := SlD.set r.sl hv
  ow := fun j ds e => by
    rcases set_get e with ⟨_, z, _⟩ | ⟨ne, e⟩
    · cases z
    · rw [List.getElem?_set_ne ne]; exact r.ow j ds e
  dw := fun j ds e => by
    rcases set_get e with ⟨_, z, _⟩ | ⟨ne, e⟩
    · cases z
    · rw [List.getElem?_set_ne ne]; exact r.dw j ds e
  ij := ij_set rfl r.ij
theorem RepL.setDats : ∀ {vs : List (Nat × V)} {as : List (Nat × PyData)} {σ : St} {ρ : Ev}, RepL K O_0 H_0 L σ H ρ → DtPairs K (hid (L ++ O_0) H) vs as → RepL K O_0 H_0 L (setV σ vs) H (setD ρ as)
  | [], [], _, _, h, _ => h
  | (i, v) :: r, (j, d) :: s, σ, ρ, h, q => by
    obtain ⟨rfl, hv, hr⟩ := q
    show RepL K O_0 H_0 L (setV (σ.set i (some v)) r) H (setD (ρ.set i (.dat d)) s)
    exact RepL.setDats (RepL.setDat h hv) hr
  | [], _ :: _, _, _, _, q => q.elim
  | _ :: _, [], _, _, _, q => q.elim
/-- a slot that is forgotten -/
theorem RepL.drop {i : Nat} (r : RepL K O_0 H_0 L σ H ρ) : RepL K O_0 H_0 L σ H (ρ.set i .no) where
  t0 := r.t0
  sm := r.sm
  fr := r.fr
  tr := r.tr
  sl := ⟨by rw [List.length_set]; exact r.sl.1, fun j d e => by
    rcases set_get e with ⟨_, z, _⟩ | ⟨ne, e⟩
    · cases z
    · exact r.sl.2 j d e⟩
  ow := fun j ds e => by
    rcases set_get e with ⟨_, z, _⟩ | ⟨ne, e⟩
    · cases z
    · exact r.ow j ds e
  dw := fun j ds e => by
    rcases set_get e with ⟨_, z, _⟩ | ⟨ne, e⟩
    · cases z
    · exact r.dw j ds e
  ij := ij_drop rfl r.ij
/-- where an owned object stands -/
theorem RepL.at_ (r : RepL K O_0 H_0 L σ H ρ) {i : Nat} {c : Cell} (e : ρ[i]? = some c) (o : isOw c = true) : ∃ l u, σ[i]? = some (some (.ref l)) ∧ l ∈ L ∧ H l = some u := by
  cases c with
  | own ds => obtain ⟨l, vs, h1, h2, h3, _⟩ := r.ow i ds e; exact ⟨l, _, h1, h2, h3⟩
  | dct ds => obtain ⟨l, vs, h1, h2, h3, _⟩ := r.dw i ds e; obtain ⟨u, hu⟩ := h3.at_; exact ⟨l, u, h1, h2, hu⟩
  | no => cases o
  | dat d => cases o
/-- a new object that is owned from now on -/
theorem RepL.newOwn {H' : Hp} {l : Addr} {u : HO} {c0 : Cell} (r : RepL K O_0 H_0 L σ H ρ) (s : Same H H') (hn : H l = none) (hl : H' l = some u) (mu : Mut (some u)) (i : Nat)
    (oc : isOw c0 = true) (ho : ∀ ds, c0 = .own ds → ∃ vs, u = .lst vs ∧ vs.length ≤ 65536 ∧ DtAll K (hid (l :: (L ++ O_0)) H') vs ds) (hd : ∀ ds, c0 = .dct ds → ∃ vs, DOb K H' l vs ∧ vs.length ≤ 65536 ∧ KvD K (hid (l :: (L ++ O_0)) H') vs ds) :
    RepL K O_0 H_0 (l :: L) (σ.set i (some (.ref l))) H' (ρ.set i c0) := by
  have h0 : Same (hid (L ++ O_0) H) (hid (l :: L ++ O_0) H') := by
    rw [show l :: L ++ O_0 = l :: (L ++ O_0) from rfl, ← hid_out_new hn]
    exact hid_same s
  refine ⟨r.t0, r.sm.trans s, fun b hb => ?_, fun b hb => ?_, ⟨by rw [List.length_set, List.length_set]; exact r.sl.1, fun j d e => ?_⟩, fun j es e => ?_, fun j es e => ?_, fun j k a c e e1 e2 o1 o2 s1 s2 => ?_⟩
  · rcases List.mem_cons.mp hb with z | z
    · rw [z]; exact r.sm.free hn
    · exact r.fr b z
  · rcases List.mem_cons.mp hb with z | z
    · rw [z]; exact ⟨_, hl, mu⟩
    · exact (r.tr.same s) b z
  · rcases set_get e with ⟨_, z, _⟩ | ⟨ne, e⟩
    · subst z; cases oc
    · rw [List.getElem?_set_ne ne]
      obtain ⟨v, h1, h2⟩ := r.sl.2 j d e
      exact ⟨v, h1, h2.same h0⟩
  · rcases set_get e with ⟨hj, z, hi⟩ | ⟨ne, e⟩
    · obtain ⟨vs, rfl, h4, h5⟩ := ho es z.symm
      subst hj
      refine ⟨l, vs, ?_, List.mem_cons_self, hl, h4, h5⟩
      rw [List.getElem?_set, if_pos rfl, if_pos (by rw [r.sl.1]; exact hi)]
    · rw [List.getElem?_set_ne ne]
      obtain ⟨l', ws, h1, h2, h3, h4, h5⟩ := r.ow j es e
      exact ⟨l', ws, h1, List.mem_cons_of_mem _ h2, s _ _ h3, h4, h5.same h0⟩
  · rcases set_get e with ⟨hj, z, hi⟩ | ⟨ne, e⟩
    · obtain ⟨vs, hl, h4, h5⟩ := hd es z.symm
      subst hj
      refine ⟨l, vs, ?_, List.mem_cons_self, hl, h4, h5⟩
      rw [List.getElem?_set, if_pos rfl, if_pos (by rw [r.sl.1]; exact hi)]
    · rw [List.getElem?_set_ne ne]
      obtain ⟨l', ws, h1, h2, h3, h4, h5⟩ := r.dw j es e
      exact ⟨l', ws, h1, List.mem_cons_of_mem _ h2, h3.same s, h4, h5.same h0⟩
  · have nw : ∀ (j : Nat) (c : Cell), ρ[j]? = some c → isOw c = true → σ[j]? ≠ some (some (.ref l)) := fun j c e o z => by
      obtain ⟨l', u', h1, h2, h3⟩ := r.at_ e o
      rw [h1] at z
      cases z
      rw [hn] at h3; cases h3
    rcases set_get e1 with ⟨j1, z1, i1⟩ | ⟨n1, e1⟩
    · subst j1
      rcases set_get e2 with ⟨j2, z2, _⟩ | ⟨n2, e2⟩
      · exact j2
      · rw [List.getElem?_set, if_pos rfl, if_pos (by rw [r.sl.1]; exact i1)] at s1
        cases s1
        rw [List.getElem?_set_ne n2] at s2
        exact absurd s2 (nw k e e2 o2)
    · rcases set_get e2 with ⟨j2, z2, i2⟩ | ⟨n2, e2⟩
      · subst j2
        rw [List.getElem?_set, if_pos rfl, if_pos (by rw [r.sl.1]; exact i2)] at s2
        cases s2
        rw [List.getElem?_set_ne n1] at s1
        exact absurd s1 (nw j c e1 o1)
      · rw [List.getElem?_set_ne n1] at s1
        rw [List.getElem?_set_ne n2] at s2
        exact r.ij j k a c e e1 e2 o1 o2 s1 s2
theorem RepL.own {H' : Hp} {l : Addr} {vs : List V} {ds : List PyData} (r : RepL K O_0 H_0 L σ H ρ) (s : Same H H') (hn : H l = none) (hl : H' l = some (.lst vs)) (hz : vs.length ≤ 65536) (da : DtAll K (hid (l :: (L ++ O_0)) H') vs ds) (i : Nat) :
    RepL K O_0 H_0 (l :: L) (σ.set i (some (.ref l))) H' (ρ.set i (.own ds)) :=
  r.newOwn s hn hl trivial i rfl (fun es e => by cases e; exact ⟨vs, rfl, hz, da⟩) (fun es e => by cases e)
theorem hid_mem {O : List Addr} {H : Hp} {l : Addr} {o : HO} (h : l ∈ O) : hid O (upd H l o) = hid O H := by
  funext b
  unfold hid
  split
  · rfl
  · rename_i hb
    exact upd_ne fun z => hb (by rw [z]; exact h)
/-- an owned object changes -/
theorem RepL.changeOwn {i : Nat} {l : Addr} {c c' : Cell} {u : HO} (r : RepL K O_0 H_0 L σ H ρ) (e : ρ[i]? = some c) (oc : isOw c = true) (oc' : isOw c' = true) (hi : σ[i]? = some (some (.ref l))) (mu : Mut (some u))
    (ho : ∀ ds, c' = .own ds → ∃ vs, u = .lst vs ∧ vs.length ≤ 65536 ∧ DtAll K (hid (L ++ O_0) H) vs ds) (hd : ∀ ds, c' = .dct ds → ∃ vs, DOb K (upd H l u) l vs ∧ vs.length ≤ 65536 ∧ KvD K (hid (L ++ O_0) H) vs ds) :
    RepL K O_0 H_0 L σ (upd H l u) (ρ.set i c') := by
  obtain ⟨l', w, h1, h2, h3⟩ := r.at_ e oc
  rw [hi] at h1
  cases h1
  have hm : l ∈ L ++ O_0 := List.mem_append_left _ h2
  have hid' : hid (L ++ O_0) (upd H l u) = hid (L ++ O_0) H := hid_mem hm
  have far : ∀ (j : Nat) (c2 : Cell) (l2 : Addr), i ≠ j → ρ[j]? = some c2 → isOw c2 = true → σ[j]? = some (some (.ref l2)) → l2 ≠ l := fun j c2 l2 ne ej o2 g z => ne (r.ij i j l c c2 e ej oc o2 hi (by rw [← z]; exact g))
  refine ⟨r.t0, fun b o hb => ?_, r.fr, fun b hb => ?_, ?_, fun j fs ej => ?_, fun j fs ej => ?_, fun j k a c1 c2 e1 e2 o1 o2 s1 s2 => ?_⟩
  · have hne : b ≠ l := fun z => by rw [z, r.fr l h2] at hb; cases hb
    rw [upd_ne hne]; exact r.sm b o hb
  · by_cases hbl : b = l
    · rw [hbl]; exact ⟨_, upd_same, mu⟩
    · rw [upd_ne hbl]; exact r.tr b hb
  · rw [hid']
    refine ⟨by rw [List.length_set]; exact r.sl.1, fun j d ej => ?_⟩
    rcases set_get ej with ⟨_, z, _⟩ | ⟨ne, ej⟩
    · subst z; cases oc'
    · exact r.sl.2 j d ej
  · rw [hid']
    rcases set_get ej with ⟨hj, z, _⟩ | ⟨ne, ej⟩
    · obtain ⟨vs, rfl, h4, h5⟩ := ho fs z.symm
      subst hj
      exact ⟨l, vs, hi, h2, upd_same, h4, h5⟩
    · obtain ⟨l', us, g1, g2, g3, g4, g5⟩ := r.ow j fs ej
      exact ⟨l', us, g1, g2, by rw [upd_ne (far j _ l' ne ej rfl g1)]; exact g3, g4, g5⟩
  · rw [hid']
    rcases set_get ej with ⟨hj, z, _⟩ | ⟨ne, ej⟩
    · obtain ⟨vs, hl, h4, h5⟩ := hd fs z.symm
      subst hj
      exact ⟨l, vs, hi, h2, hl, h4, h5⟩
    · obtain ⟨l', us, g1, g2, g3, g4, g5⟩ := r.dw j fs ej
      exact ⟨l', us, g1, g2, g3.upd (far j _ l' ne ej rfl g1) (by obtain ⟨o, eo, m⟩ := r.tr l hm; rw [eo]; exact m), g4, g5⟩
  · have f : ∀ {j : Nat} {c1 : Cell}, (ρ.set i c')[j]? = some c1 → isOw c1 = true → ∃ c2, ρ[j]? = some c2 ∧ isOw c2 = true := fun {j c1} q o => by
      rcases set_get q with ⟨z, _, _⟩ | ⟨_, q⟩
      · exact ⟨c, by rw [← z]; exact e, oc⟩
      · exact ⟨_, q, o⟩
    obtain ⟨d1, q1, w1⟩ := f e1 o1
    obtain ⟨d2, q2, w2⟩ := f e2 o2
    exact r.ij j k a d1 d2 q1 q2 w1 w2 s1 s2
theorem RepL.change {i : Nat} {l : Addr} {ds es : List PyData} {ws : List V} (r : RepL K O_0 H_0 L σ H ρ) (e : ρ[i]? = some (.own ds)) (hi : σ[i]? = some (some (.ref l))) (hz : ws.length ≤ 65536) (da : DtAll K (hid (L ++ O_0) H) ws es) :
    RepL K O_0 H_0 L σ (upd H l (.lst ws)) (ρ.set i (.own es)) :=
  r.changeOwn e rfl rfl hi trivial (fun fs q => by cases q; exact ⟨ws, rfl, hz, da⟩) (fun fs q => by cases q)
/-- an owned list is given away: data from now on, its old name forgotten -/
theorem RepL.freeze {i : Nat} {l : Addr} {ds : List PyData} (r : RepL K O_0 H_0 L σ H ρ) (e : ρ[i]? = some (.own ds)) (hi : σ[i]? = some (some (.ref l))) :
    ∃ L', RepL K O_0 H_0 L' σ H (ρ.set i .no) ∧ Dt K (hid (L' ++ O_0) H) (.ref l) (.list ds) := by
  obtain ⟨l', vs, h1, h2, h3, h4, h5⟩ := r.ow i ds e
  rw [hi] at h1
  cases h1
  have sub : ∀ b ∈ L.filter (fun b => b ≠ l) ++ O_0, b ∈ L ++ O_0 := fun b hb => by
    rcases List.mem_append.mp hb with z | z
    · exact List.mem_append_left _ (List.mem_filter.mp z).1
    · exact List.mem_append_right _ z
  have le : Same (hid (L ++ O_0) H) (hid (L.filter (fun b => b ≠ l) ++ O_0) H) := hid_le sub
  have d := r.drop (i := i)
  have far : ∀ (j : Nat) (c2 : Cell) (l2 : Addr), (ρ.set i .no)[j]? = some c2 → isOw c2 = true → σ[j]? = some (some (.ref l2)) → l2 ≠ l := fun j c2 l2 ej o2 g z => by
    rcases set_get ej with ⟨_, z, _⟩ | ⟨ne, ej⟩
    · subst z; cases o2
    · exact ne (r.ij i j l _ c2 e ej rfl o2 hi (by rw [← z]; exact g))
  refine ⟨L.filter (fun b => b ≠ l), ⟨r.t0, r.sm, fun b hb => r.fr b (List.mem_filter.mp hb).1, fun b hb => r.tr b (sub b hb), d.sl.same le, fun j fs ej => ?_, fun j fs ej => ?_, d.ij⟩, ?_⟩
  · obtain ⟨l', us, g1, g2, g3, g4, g5⟩ := d.ow j fs ej
    exact ⟨l', us, g1, List.mem_filter.mpr ⟨g2, by simpa using far j _ l' ej rfl g1⟩, g3, g4, g5.same le⟩
  · obtain ⟨l', us, g1, g2, g3, g4, g5⟩ := d.dw j fs ej
    exact ⟨l', us, g1, List.mem_filter.mpr ⟨g2, by simpa using far j _ l' ej rfl g1⟩, g3, g4, g5.same le⟩
  · refine .lst ?_ h4 (h5.same le)
    rw [hid_out]
    · exact h3
    · intro hm
      rcases List.mem_append.mp hm with z | z
      · have := (List.mem_filter.mp z).2
        simp at this
      · exact r.notO h2 z
/-- what stands at a def's start is data, or nothing -/
theorem start_cell {as : List PyData} {n i : Nat} {c : Cell} (h : (as.map Cell.dat ++ List.replicate n .no)[i]? = some c) : (∃ d, as[i]? = some d ∧ c = .dat d) ∨ c = .no := by
  rw [List.getElem?_append] at h
  split at h
  · rw [List.getElem?_map] at h
    cases e1 : as[i]? with
    | none => rw [e1] at h; cases h
    | some a => rw [e1] at h; cases h; exact .inl ⟨a, rfl, rfl⟩
  · rw [List.getElem?_replicate] at h
    split at h <;> cases h
    exact .inr rfl
/-- at a def's start -/
theorem Rep.start {vs : List V} {as : List PyData} {N : List Str} (t : Trk O_0 H) (h : DtAll K (hid O_0 H) vs as) : Rep K O_0 H (L2.start N vs) H (as.map Cell.dat ++ List.replicate (N.length - as.length) .no) := by
  refine ⟨[], t, Same.refl H, fun _ z => (nomatch z), t, ⟨?_, fun i d e => ?_⟩, fun i ds e => ?_, fun i ds e => ?_, fun i j l c c' e1 e2 o1 o2 s1 s2 => ?_⟩
  · unfold L2.start
    simp [h.length]
  · show ∃ v, (L2.start N vs)[i]? = some (some v) ∧ Dt K (hid O_0 H) v d
    rcases start_cell e with ⟨a, e1, z⟩ | z
    · cases z
      obtain ⟨v, h1, h2⟩ := h.get e1
      refine ⟨v, ?_, h2⟩
      unfold L2.start
      rw [List.getElem?_append, if_pos (by rw [List.length_map]; exact (List.getElem?_eq_some_iff.mp h1).1), List.getElem?_map, h1]
      rfl
    · cases z
  · rcases start_cell e with ⟨a, e1, z⟩ | z <;> cases z
  · rcases start_cell e with ⟨a, e1, z⟩ | z <;> cases z
  · rcases start_cell e1 with ⟨a, e1, z⟩ | z <;> (subst z; cases o1)
end

/-- what must follow -/
def Post (K : PySem.W.Frag) (O_0 : List Addr) (H_0 : Hp) (W : WX) (cl : Nat → Value) (D : Ends) : Out → Prop
  | .nx ρ => ∀ σ H, Rep K O_0 H_0 σ H ρ → D.nx σ H
  | .rt d => ∀ v H, Same H_0 H → Dt K (hid O_0 H) v d → D.rt v H
  | .bk ρ => ∀ σ H, Rep K O_0 H_0 σ H ρ → D.bk σ H
  | .ct ρ => ∀ σ H, Rep K O_0 H_0 σ H ρ → D.ct σ H
  | .xc k ρ => ∀ σ H, Rep K O_0 H_0 σ H ρ → W (cl k) none σ H
def EvS (K : PySem.W.Frag) (W : WX) (cl : Nat → Value) (t : TS) (F : Ev → Option Out) : Prop :=
  ∀ (O_0 : List Addr) (H_0 : Hp) (σ : St) (H : Hp) (ρ : Ev) (out : Out) (D : Ends), Rep K O_0 H_0 σ H ρ → F ρ = some out → Post K O_0 H_0 W cl D out → t D σ H
section
variable {K : PySem.W.Frag} {W : WX} {cl : Nat → Value}
def sSeq (F G : Ev → Option Out) : Ev → Option Out := fun ρ => (F ρ).bind fun o => match o with
  | .nx ρ' => G ρ'
  | o => some o
theorem s_seq {t u : TS} {F G : Ev → Option Out} (h : EvS K W cl t F) (h' : EvS K W cl u G) : EvS K W cl (tSeq t u) (sSeq F G) := by
  intro O_0 H_0 σ H ρ out D r e p
  obtain ⟨o, e1, e⟩ := bind_some e
  cases o with
  | nx ρ' => exact h O_0 H_0 σ H ρ _ _ r e1 fun σ' H' r' => h' O_0 H_0 σ' H' ρ' out D r' e p
  | rt d => cases e; exact h O_0 H_0 σ H ρ _ _ r e1 p
  | bk ρ' => cases e; exact h O_0 H_0 σ H ρ _ _ r e1 p
  | ct ρ' => cases e; exact h O_0 H_0 σ H ρ _ _ r e1 p
  | xc k ρ' => cases e; exact h O_0 H_0 σ H ρ _ _ r e1 p
def sNext : Ev → Option Out := fun ρ => some (.nx ρ)
theorem s_next : EvS K W cl tNext sNext := by
  intro O_0 H_0 σ H ρ out D r e p
  cases e
  exact p σ H r
def sBreak : Ev → Option Out := fun ρ => some (.bk ρ)
theorem s_break : EvS K W cl tBreak sBreak := by
  intro O_0 H_0 σ H ρ out D r e p
  cases e
  exact p σ H r
/-- x = e -/
def sSet (i : Nat) (f : Ev → Option PyData) : Ev → Option Out := fun ρ => (f ρ).map fun d => .nx (ρ.set i (.dat d))
theorem map_some {α β : Type} {x : Option α} {f : α → β} {b : β} (h : x.map f = some b) : ∃ a, x = some a ∧ f a = b := by
  cases x with
  | none => cases h
  | some a => exact ⟨a, rfl, Option.some.inj h⟩
theorem s_set {i : Nat} {te : TE} {f : Ev → Option PyData} (h : EvE K te f) : EvS K W cl (tAsg te (gName i)) (sSet i f) := by
  intro O_0 H_0 σ H ρ out D ⟨L, r⟩ e p
  obtain ⟨d, e1, e⟩ := map_some e
  subst e
  exact h (L ++ O_0) σ H ρ d r.strong e1 _ fun v H' s hv => p _ H' ⟨L, (r.step s).setDat hv⟩
/-- .. where e reads owned lists: the value must not hold a list -/
def sSetV (i : Nat) (f : Ev → Option PyData) : Ev → Option Out := fun ρ => (f (view ρ)).bind fun d => if flatD d = true then some (.nx (ρ.set i (.dat d))) else none
theorem s_setV {i : Nat} {te : TE} {f : Ev → Option PyData} (h : EvE K te f) : EvS K W cl (tAsg te (gName i)) (sSetV i f) := by
  intro O_0 H_0 σ H ρ out D ⟨L, r⟩ e p
  obtain ⟨d, e1, e⟩ := bind_some e
  split at e
  · rename_i hf
    cases e
    refine h O_0 σ H (view ρ) d r.view e1 _ fun v H' s hv => p _ H' ⟨L, (r.step s).setDat (Dt.freed ((r.step s).tr) hf (hv.same (hid_sub _ _)))⟩
  · cases e
/-- targets -/
def sTgt (a : PyData → Option (List (Nat × PyData))) (f : Ev → Option PyData) : Ev → Option Out := fun ρ => (f ρ).bind fun d => (a d).map fun as => .nx (setD ρ as)
theorem s_tgt {g : TG} {a : PyData → Option (List (Nat × PyData))} {te : TE} {f : Ev → Option PyData} (h : EvE K te f) (hg : EvG K false g a) : EvS K W cl (tAsg te g) (sTgt a f) := by
  intro O_0 H_0 σ H ρ out D ⟨L, r⟩ e p
  obtain ⟨d, e1, e⟩ := bind_some e
  obtain ⟨as, e2, e⟩ := map_some e
  subst e
  exact h (L ++ O_0) σ H ρ d r.strong e1 _ fun v H' s hv => hg (L ++ O_0) v σ H' d as (.inl hv) e2 _ fun ws hw => p _ H' ⟨L, (r.step s).setDats hw⟩
def sTgtV (a : PyData → Option (List (Nat × PyData))) (f : Ev → Option PyData) : Ev → Option Out := fun ρ => (f (view ρ)).bind fun d => if flatD d = true then (a d).map fun as => .nx (setD ρ as) else none
theorem s_tgtV {g : TG} {a : PyData → Option (List (Nat × PyData))} {te : TE} {f : Ev → Option PyData} (h : EvE K te f) (hg : EvG K false g a) : EvS K W cl (tAsg te g) (sTgtV a f) := by
  intro O_0 H_0 σ H ρ out D ⟨L, r⟩ e p
  obtain ⟨d, e1, e⟩ := bind_some e
  split at e
  · rename_i hf
    obtain ⟨as, e2, e⟩ := map_some e
    subst e
    exact h O_0 σ H (view ρ) d r.view e1 _ fun v H' s hv => hg (L ++ O_0) v σ H' d as (.inl (Dt.freed ((r.step s).tr) hf (hv.same (hid_sub _ _)))) e2 _ fun ws hw => p _ H' ⟨L, (r.step s).setDats hw⟩
  · cases e
/-- return e -/
def sRet (f : Ev → Option PyData) : Ev → Option Out := fun ρ => (f (view ρ)).map .rt
theorem s_ret {te : TE} {f : Ev → Option PyData} (h : EvE K te f) : EvS K W cl (tRet te) (sRet f) := by
  intro O_0 H_0 σ H ρ out D ⟨L, r⟩ e p
  obtain ⟨d, e1, e⟩ := map_some e
  subst e
  exact h O_0 σ H (view ρ) d r.view e1 _ fun v H' s hv => p v H' (r.sm.trans s) hv
def sRetN : Ev → Option Out := fun _ => some (.rt .none)
theorem s_retN : EvS K W cl tRetN sRetN := by
  intro O_0 H_0 σ H ρ out D ⟨L, r⟩ e p
  cases e
  exact p _ H r.sm .non
/-- an expression alone -/
def sExpr (f : Ev → Option PyData) : Ev → Option Out := fun ρ => (f (view ρ)).map fun _ => .nx ρ
theorem s_expr {te : TE} {f : Ev → Option PyData} (h : EvE K te f) : EvS K W cl (tDrop te) (sExpr f) := by
  intro O_0 H_0 σ H ρ out D ⟨L, r⟩ e p
  obtain ⟨d, e1, e⟩ := map_some e
  subst e
  exact h O_0 σ H (view ρ) d r.view e1 _ fun v H' s hv => p σ H' ⟨L, r.step s⟩
/-- if -/
def sIf (c : Ev → Option Bool) (F G : Ev → Option Out) : Ev → Option Out := fun ρ => (c (view ρ)).bind fun b => if b = true then F ρ else G ρ
theorem s_if {c : TT} {t u : TS} {f : Ev → Option Bool} {F G : Ev → Option Out} (hc : EvT K c f) (h : EvS K W cl t F) (h' : EvS K W cl u G) : EvS K W cl (tIfS c t u) (sIf f F G) := by
  intro O_0 H_0 σ H ρ out D ⟨L, r⟩ e p
  obtain ⟨b, e1, e⟩ := bind_some e
  refine hc O_0 σ H (view ρ) b r.view e1 _ fun H' s => ?_
  cases b with
  | true => exact iteT (h O_0 H_0 σ H' ρ out D ⟨L, r.step s⟩ e p)
  | false => exact iteF (h' O_0 H_0 σ H' ρ out D ⟨L, r.step s⟩ e p)
/-- x += e, ints -/
def sAug (i : Nat) (op : PyData → PyData → Option PyData) (f : Ev → Option PyData) : Ev → Option Out := fun ρ => (dVar i ρ).bind fun a => (f (view ρ)).bind fun b => (op a b).map fun d => .nx (ρ.set i (.dat d))
theorem s_augAdd {i : Nat} {te : TE} {f : Ev → Option PyData} (h : EvE K te f) : EvS K W cl (tAug i te (ipI fun i j => i + j)) (sAug i (fun a b => match a, b with | .int x, .int y => some (.int (x + y)) | _, _ => none) f) := by
  intro O_0 H_0 σ H ρ out D ⟨L, r⟩ e p
  obtain ⟨a, e1, e⟩ := bind_some e
  obtain ⟨b, e2, e⟩ := bind_some e
  obtain ⟨d, e3, e⟩ := map_some e
  subst e
  obtain ⟨v, h1, h2⟩ := r.sl.2 i a (dVar_some e1)
  refine ⟨v, h1, h O_0 σ H (view ρ) b r.view e2 _ fun u H' s hu => ?_⟩
  cases h2 with
  | int x =>
    cases hu with
    | int y => cases e3; exact ⟨x, y, rfl, rfl, p _ H' ⟨L, (r.step s).setDat (.int _)⟩⟩
    | _ => cases e3
  | _ => cases e3

/-! ### owned lists -/
/-- a reading that makes a new list -/
def EvF (K : PySem.W.Frag) (t : TE) (f : Ev → Option (List PyData)) : Prop :=
  ∀ (O : List Addr) (σ : St) (H : Hp) (ρ : Ev) (ds : List PyData), RepD K O σ H ρ → f ρ = some ds → ∀ Q : VK,
    (∀ (l : Addr) (vs : List V) (H' : Hp), Same H H' → H l = none → H' l = some (.lst vs) → vs.length ≤ 65536 → DtAll K (hid (l :: O) H') vs ds → Q (.ref l) H') → t σ H Q
def fLst (g : Ev → Option (List PyData)) : Ev → Option (List PyData) := fun ρ => (g ρ).bind fun as => if as.length ≤ 65536 then some as else none
theorem f_lst {t : TA} {g : Ev → Option (List PyData)} (h : EvA K t g) : EvF K (tLst t) (fLst g) := by
  intro O σ H ρ ds rp e Q q
  obtain ⟨as, e1, e⟩ := bind_some e
  split at e
  · rename_i hl
    cases e
    refine h O σ H ρ ds rp e1 _ fun xs H1 s1 h1 => ?_
    have hl' : xs.length ≤ 65536 := by rw [h1.length]; exact hl
    refine ⟨line_of hl', fun p hp => q p xs _ (s1.trans (same_new hp)) (s1.free hp) upd_same hl' ?_⟩
    rw [hid_own, hid_out_new hp]
    exact h1
  · cases e
def fLc (vs : List Nat) (fi : Ev → Option (List PyData)) (a : PyData → Option (List (Nat × PyData))) (c : Ev → Option Bool) (f : Ev → Option PyData) : Ev → Option (List PyData) :=
  fun ρ => (fi ρ).bind fun ds => compD vs a c f ρ ds
theorem f_lc {wi : TI} {g : TG} {tt : TT} {te : TE} {vs : List Nat} {fi : Ev → Option (List PyData)} {a : PyData → Option (List (Nat × PyData))} {c : Ev → Option Bool} {f : Ev → Option PyData}
    {w : Bool} (hi : EvI K w wi fi) (hg : EvG K w g a) (ht : EvT K tt c) (he : EvE K te f) : EvF K (tLc wi g tt te vs) (fLc vs fi a c f) := by
  intro O σ H ρ ds rp e Q q
  obtain ⟨is, e1, e2⟩ := bind_some e
  exact lc_run hi hg ht he rp e1 e2 q
def fList (f : Ev → Option PyData) : Ev → Option (List PyData) := fun ρ => (f ρ).bind asSeq
theorem f_list {te : TE} {f : Ev → Option PyData} (h : EvE K te f) : EvF K (tCB (fun xs H Q => ∃ p ys, xs = [.ref p] ∧ (SqL K H p ys ∨ SqT K H p ys) ∧ ∀ l, H l = none → Q (.ref l) (upd H l (.lst ys))) (tCons te tNil)) (fList f) := by
  intro O σ H ρ ds rp e Q q
  obtain ⟨a, e1, e⟩ := bind_some e
  refine h O σ H ρ a rp e1 _ fun x H1 s1 h1 => ?_
  cases h1 with
  | lst g1 g2 g3 =>
    cases e
    refine ⟨_, _, rfl, .inl (SqL.of (hid_some g1).2), fun p hp => q p _ _ (s1.trans (same_new hp)) (s1.free hp) upd_same g2 ?_⟩
    rw [hid_own, hid_out_new hp]
    exact g3
  | tup g1 g2 g3 =>
    cases e
    refine ⟨_, _, rfl, .inr ((TupOk.same (hid_sub O H1) g1).sq), fun p hp => q p _ _ (s1.trans (same_new hp)) (s1.free hp) upd_same g2 ?_⟩
    rw [hid_own, hid_out_new hp]
    exact g3
  | _ => cases e
/-- list(range(..)) -/
def fLstRg (f : Ev → Option PyData) : Ev → Option (List PyData) := fun ρ => ((f ρ).bind asI).bind fun n => if 0 ≤ n ∧ n ≤ 65536 then some (rngD 0 n.toNat) else none
theorem rgV_dt {H : Hp} {n : Int} (h : 0 ≤ n) : DtAll K H (rgV 0 n) (rngD 0 n.toNat) ∧ (rgV 0 n).length = n.toNat := by
  have key : ∀ (l : List Nat), DtAll K H (l.map fun (i : Nat) => V.int ((0 : Int) + (i : Int))) (l.map fun (i : Nat) => PyData.int ((0 : Int) + (i : Int))) := fun l => by
    induction l with
    | nil => exact .nil
    | cons a l ih => exact .cons (.int _) ih
  have e : rgV 0 n = (List.range n.toNat).map fun (i : Nat) => V.int ((0 : Int) + (i : Int)) := by
    unfold rgV
    simp
  rw [e]
  exact ⟨key _, by simp⟩
theorem f_listRg {te : TE} {f : Ev → Option PyData} (h : EvE K te f) : EvF K (tLstRg (tRg1 te)) (fLstRg f) := by
  intro O σ H ρ ds rp e Q q
  obtain ⟨n, e1, e⟩ := bind_some e
  obtain ⟨a, e0, e1⟩ := bind_some e1
  cases asI_some e1
  split at e
  · rename_i hn
    cases e
    refine h O σ H ρ _ rp e0 _ fun x H1 s1 h1 => ?_
    cases h1
    obtain ⟨k1, k2⟩ := rgV_dt (K := K) (H := hid (O) H1) hn.1
    refine ⟨n, rfl, RgOk.of_le (Int.le_refl 0) (by omega) (by omega) hn.1, fun p hp => q p _ _ (s1.trans (same_new hp)) (s1.free hp) upd_same (by rw [k2]; omega) ?_⟩
    rw [hid_own, hid_out_new hp]
    exact k1
  · cases e
end
end CS
/-! D6: owned lists changed; for and while; a def's promise. -/
namespace CS
open PySem L2
section
variable {K : PySem.W.Frag} {W : WX} {cl : Nat → Value}
def ownAt (i : Nat) (ρ : Ev) : Option (List PyData) := match ρ[i]? with
  | some (.own ds) => some ds
  | _ => none
theorem ownAt_some {i : Nat} {ρ : Ev} {ds : List PyData} (h : ownAt i ρ = some ds) : ρ[i]? = some (.own ds) := by
  unfold ownAt at h
  split at h
  · rename_i e; cases h; exact e
  · cases h
/-- x = a new list -/
def sOwn (i : Nat) (f : Ev → Option (List PyData)) : Ev → Option Out := fun ρ => (f ρ).map fun ds => .nx (ρ.set i (.own ds))
theorem s_own {i : Nat} {te : TE} {f : Ev → Option (List PyData)} (h : EvF K te f) : EvS K W cl (tAsg te (gName i)) (sOwn i f) := by
  intro O_0 H_0 σ H ρ out D ⟨L, r⟩ e p
  obtain ⟨ds, e1, e⟩ := map_some e
  subst e
  exact h (L ++ O_0) σ H ρ ds r.strong e1 _ fun l vs H' s hn hl hz da => p _ H' ⟨_, r.own s hn hl hz da i⟩
/-- .. that reads owned lists -/
def sOwnV (i : Nat) (f : Ev → Option (List PyData)) : Ev → Option Out := fun ρ => (f (view ρ)).bind fun ds => if flatDs ds = true then some (.nx (ρ.set i (.own ds))) else none
theorem s_ownV {i : Nat} {te : TE} {f : Ev → Option (List PyData)} (h : EvF K te f) : EvS K W cl (tAsg te (gName i)) (sOwnV i f) := by
  intro O_0 H_0 σ H ρ out D ⟨L, r⟩ e p
  obtain ⟨ds, e1, e⟩ := bind_some e
  split at e
  · rename_i hf
    cases e
    refine h O_0 σ H (view ρ) ds r.view e1 _ fun l vs H' s hn hl hz da => p _ H' ⟨_, r.own s hn hl hz ?_ i⟩
    have t : Trk (l :: (L ++ O_0)) H' := fun b hb => by
      rcases List.mem_cons.mp hb with z | z
      · rw [z]; exact ⟨_, hl, trivial⟩
      · exact (r.tr.same s) b z
    exact DtAll.freed t hf (da.same (hid_sub _ _))
  · cases e
/-- xs.append(e) -/
def sApp (i : Nat) (f : Ev → Option PyData) : Ev → Option Out := fun ρ => (ownAt i ρ).bind fun ds => (f ρ).bind fun d => if ds.length < 65536 then some (.nx (ρ.set i (.own (ds ++ [d])))) else none
theorem tyL {H : Hp} {l : Addr} {vs : List V} (h : H l = some (.lst vs)) : tyV K "list" (.ref l) H := Or.inl ⟨rfl, vs, SqL.of h⟩
theorem s_app {i : Nat} {te : TE} {f : Ev → Option PyData} (h : EvE K te f) : EvS K W cl (tDrop (tBM K "list" rAppend (tVar i) (tCons te tNil))) (sApp i f) := by
  intro O_0 H_0 σ H ρ out D ⟨L, r⟩ e p
  obtain ⟨ds, e1, e⟩ := bind_some e
  obtain ⟨d, e2, e⟩ := bind_some e
  split at e
  · rename_i hz
    cases e
    obtain ⟨l, vs, h1, h2, h3, h4, h5⟩ := r.ow i ds (ownAt_some e1)
    refine ⟨_, h1, tyL h3, h (L ++ O_0) σ H ρ d r.strong e2 _ fun v H' s hv => ?_⟩
    have hl := h5.length
    refine ⟨l, vs, v, rfl, rfl, s _ _ h3, by rw [sizeLine_eq]; omega, p σ _ ⟨L, (r.step s).change (ownAt_some e1) h1 (by rw [List.length_append]; simp; omega) ?_⟩⟩
    exact (h5.same (hid_same s)).append (.cons hv .nil)
  · cases e
def sAppV (i : Nat) (f : Ev → Option PyData) : Ev → Option Out := fun ρ => (ownAt i ρ).bind fun ds => (f (view ρ)).bind fun d => if ds.length < 65536 ∧ flatD d = true then some (.nx (ρ.set i (.own (ds ++ [d])))) else none
theorem s_appV {i : Nat} {te : TE} {f : Ev → Option PyData} (h : EvE K te f) : EvS K W cl (tDrop (tBM K "list" rAppend (tVar i) (tCons te tNil))) (sAppV i f) := by
  intro O_0 H_0 σ H ρ out D ⟨L, r⟩ e p
  obtain ⟨ds, e1, e⟩ := bind_some e
  obtain ⟨d, e2, e⟩ := bind_some e
  split at e
  · rename_i hz
    cases e
    obtain ⟨l, vs, h1, h2, h3, h4, h5⟩ := r.ow i ds (ownAt_some e1)
    refine ⟨_, h1, tyL h3, h O_0 σ H (view ρ) d r.view e2 _ fun v H' s hv => ?_⟩
    have hl := h5.length
    refine ⟨l, vs, v, rfl, rfl, s _ _ h3, by rw [sizeLine_eq]; omega, p σ _ ⟨L, (r.step s).change (ownAt_some e1) h1 (by rw [List.length_append]; simp; omega) ?_⟩⟩
    exact (h5.same (hid_same s)).append (.cons (Dt.freed ((r.step s).tr) hz.2 (hv.same (hid_sub _ _))) .nil)
  · cases e
/-- xs.extend(a list) -/
def asL : PyData → Option (List PyData)
  | .list ds => some ds
  | _ => none
def sExt (i : Nat) (f : Ev → Option PyData) : Ev → Option Out := fun ρ => (ownAt i ρ).bind fun ds => ((f ρ).bind asL).bind fun es => if ds.length + es.length ≤ 65536 then some (.nx (ρ.set i (.own (ds ++ es)))) else none
theorem s_ext {i : Nat} {te : TE} {f : Ev → Option PyData} (h : EvE K te f) : EvS K W cl (tDrop (tBM K "list" rExtend (tVar i) (tCons te tNil))) (sExt i f) := by
  intro O_0 H_0 σ H ρ out D ⟨L, r⟩ e p
  obtain ⟨ds, e1, e⟩ := bind_some e
  obtain ⟨es, e2, e⟩ := bind_some e
  obtain ⟨a, e3, e2⟩ := bind_some e2
  split at e
  · rename_i hz
    cases e
    obtain ⟨l, vs, h1, h2, h3, h4, h5⟩ := r.ow i ds (ownAt_some e1)
    refine ⟨_, h1, tyL h3, h (L ++ O_0) σ H ρ a r.strong e3 _ fun v H' s hv => ?_⟩
    have hl := h5.length
    cases hv with
    | lst g1 g2 g3 =>
      cases e2
      have gl := g3.length
      refine ⟨l, _, vs, _, rfl, rfl, s _ _ h3, (hid_some g1).2, by rw [sizeLine_eq]; omega, p σ _ ⟨L, (r.step s).change (ownAt_some e1) h1 (by rw [List.length_append]; omega) ?_⟩⟩
      exact (h5.same (hid_same s)).append g3
    | _ => cases e2
  · cases e
/-- x = xs.pop(k) -/
def sPopAt (j i : Nat) (f : Ev → Option PyData) : Ev → Option Out := fun ρ => (ownAt i ρ).bind fun ds => ((f (view ρ)).bind asI).bind fun k => if 0 ≤ k ∧ k < ds.length ∧ i ≠ j then (ds[k.toNat]?).map fun d => .nx ((ρ.set i (.own (ds.eraseIdx k.toNat))).set j (.dat d)) else none
theorem s_popAt {i j : Nat} {te : TE} {f : Ev → Option PyData} (h : EvE K te f) : EvS K W cl (tAsg (tBM K "list" rPopAt (tVar i) (tCons te tNil)) (gName j)) (sPopAt j i f) := by
  intro O_0 H_0 σ H ρ out D ⟨L, r⟩ e p
  obtain ⟨ds, e1, e⟩ := bind_some e
  obtain ⟨k, e2, e⟩ := bind_some e
  obtain ⟨a, e3, e2⟩ := bind_some e2
  cases asI_some e2
  split at e
  · rename_i hk
    obtain ⟨d, e4, e⟩ := map_some e
    subst e
    obtain ⟨l, vs, h1, h2, h3, h4, h5⟩ := r.ow i ds (ownAt_some e1)
    refine ⟨_, h1, tyL h3, h O_0 σ H (view ρ) _ r.view e3 _ fun v H' s hv => ?_⟩
    cases hv
    have hl := h5.length
    obtain ⟨y, ey, hy⟩ := h5.get e4
    have hz : (vs.eraseIdx k.toNat).length ≤ 65536 := by
      rw [List.length_eraseIdx]
      split <;> omega
    have c := (r.step s).change (ownAt_some e1) h1 hz ((h5.same (hid_same s)).eraseIdx k.toNat)
    refine ⟨l, vs, k, k.toNat, y, rfl, rfl, s _ _ h3, by omega, by omega, ?_, ey, p _ _ ⟨L, c.setDat ?_⟩⟩
    · have h0 : ¬ k < 0 := by omega
      have h1 : k < (vs.length : Int) := by omega
      unfold seqIndex?
      simp [h0, h1, hk.1]
    · rw [hid_mem (List.mem_append_left _ h2)]
      exact hy.same (hid_same s)
  · cases e
/-- x = xs, xs owned so far -/
def sMove (j i : Nat) : Ev → Option Out := fun ρ => (ownAt i ρ).map fun ds => .nx ((ρ.set i .no).set j (.dat (.list ds)))
theorem s_move {i j : Nat} : EvS K W cl (tAsg (tVar i) (gName j)) (sMove j i) := by
  intro O_0 H_0 σ H ρ out D ⟨L, r⟩ e p
  obtain ⟨ds, e1, e⟩ := map_some e
  subst e
  obtain ⟨l, vs, h1, h2, h3, h4, h5⟩ := r.ow i ds (ownAt_some e1)
  obtain ⟨L', r', hd⟩ := r.freeze (ownAt_some e1) h1
  exact ⟨_, h1, p _ H ⟨L', r'.setDat hd⟩⟩

/-! ### loops -/
theorem RepL.rebase {O_0 : List Addr} {H_0 : Hp} {L : List Addr} {σ : St} {H : Hp} {ρ : Ev} (r : RepL K O_0 H_0 L σ H ρ) : RepL K O_0 (hid L H) L σ H ρ where
  t0 := fun b hb => by
    obtain ⟨o, e, m⟩ := r.t0 b hb
    refine ⟨o, ?_, m⟩
    rw [hid_out]
    · exact r.sm _ _ e
    · intro z; rw [r.fr b z] at e; cases e
  sm := hid_sub L H
  fr := fun l hl => by unfold hid; rw [if_pos hl]
  tr := r.tr
  sl := r.sl
  ow := r.ow
  dw := r.dw
  ij := r.ij
theorem RepL.under {O_0 : List Addr} {H_0 : Hp} {L : List Addr} {σ : St} {H : Hp} {ρ : Ev} (r : RepL K O_0 H_0 L σ H ρ) : Same H_0 (hid L H) := fun b o e => by
  rw [hid_out]
  · exact r.sm _ _ e
  · intro z; rw [r.fr b z] at e; cases e
theorem Rep.unbase {O_0 : List Addr} {H_0 H_1 : Hp} {σ : St} {H : Hp} {ρ : Ev} (t : Trk O_0 H_0) (s : Same H_0 H_1) (r : Rep K O_0 H_1 σ H ρ) : Rep K O_0 H_0 σ H ρ :=
  let ⟨L, r⟩ := r
  ⟨L, t, s.trans r.sm, fun l hl => s.free (r.fr l hl), r.tr, r.sl, r.ow, r.dw, r.ij⟩
def forD (a : PyData → Option (List (Nat × PyData))) (F : Ev → Option Out) : List PyData → Ev → Option Out
  | [], ρ => some (.nx ρ)
  | d :: ds, ρ => (a d).bind fun as => (F (setD ρ as)).bind fun o => match o with
    | .nx ρ' => forD a F ds ρ'
    | .ct ρ' => forD a F ds ρ'
    | .bk ρ' => some (.nx ρ')
    | o => some o
def sFor (fi : Ev → Option (List PyData)) (a : PyData → Option (List (Nat × PyData))) (F : Ev → Option Out) : Ev → Option Out := fun ρ => (fi ρ).bind fun ds => forD a F ds ρ
theorem s_forC {wi : TI} {g : TG} {tb : TS} {a : PyData → Option (List (Nat × PyData))} {F : Ev → Option Out} {w : Bool} (hg : EvG K w g a) (hb : EvS K W cl tb F) {O_0 : List Addr} {H_0 : Hp} {L : List Addr} {σ : St} {H : Hp} {ρ : Ev} {out : Out} {D : Ends} (r : RepL K O_0 H_0 L σ H ρ) {ds : List PyData}
    (hi : ∀ R : It → Hp → Prop, (∀ J H1, Same H H1 → ds.length ≤ 65536 → Feeds K w (L ++ O_0) H1 J ds → R J H1) → wi σ H R) (e : forD a F ds ρ = some out) (p : Post K O_0 H_0 W cl D out) : tFor wi g tb D σ H := by
  refine hi _ fun J H1 s1 hlen Fd => ?_
  have r1 := r.step s1
  have rb := r1.rebase
  have hu := r1.under
  -- the invariant, over the base hid L H1
  refine ⟨fun i m σ H => m = ds.length - i ∧ i ≤ ds.length ∧ ∃ ρi, Rep K O_0 (hid L H1) σ H ρi ∧ forD a F (ds.drop i) ρi = some out, ⟨ds.length, by simp, Nat.zero_le _, ρ, ⟨L, rb⟩, by simpa using e⟩, ?_⟩
  rintro i m σ2 H2 ⟨rfl, hil, ρi, ⟨L', r2⟩, e2⟩
  have keep : Same (hid (L ++ O_0) H1) (hid (L' ++ O_0) H2) := fun b o hb => by
    obtain ⟨n1, n2⟩ := hid_some hb
    have nl : b ∉ L := fun z => n1 (List.mem_append_left _ z)
    have no : b ∉ O_0 := fun z => n1 (List.mem_append_right _ z)
    have hb0 : hid L H1 b = some o := by rw [hid_out nl]; exact n2
    rw [hid_out]
    · exact r2.sm _ _ hb0
    · intro z
      rcases List.mem_append.mp z with z | z
      · rw [r2.fr b z] at hb0; cases hb0
      · exact no z
  obtain ⟨F1, F2⟩ := Fd i (L' ++ O_0) H2 keep r2.tr
  by_cases hlt : i < ds.length
  · obtain ⟨d, ed⟩ : ∃ d, ds[i]? = some d := ⟨ds[i], List.getElem?_eq_getElem hlt⟩
    obtain ⟨go, yl⟩ := F1 d ed
    have edd : ds[i] = d := by
      have := List.getElem?_eq_getElem hlt
      rw [ed] at this
      exact (Option.some.inj this).symm
    rw [List.drop_eq_getElem_cons hlt, edd] at e2
    unfold forD at e2
    obtain ⟨as, ea, e2⟩ := bind_some e2
    obtain ⟨o, eo, e2⟩ := bind_some e2
    refine .inr ⟨go, fun σ' H' => ∃ m', m' < ds.length - i ∧ (m' = ds.length - (i + 1) ∧ i + 1 ≤ ds.length ∧ ∃ ρi, Rep K O_0 (hid L H1) σ' H' ρi ∧ forD a F (ds.drop (i + 1)) ρi = some out), fun _ _ z => z, fun x H3 y => ?_⟩
    obtain ⟨s3, dx⟩ := yl x H3 y
    refine hg (L' ++ O_0) x σ2 H3 d as dx ea _ fun ws hws => ?_
    have r3 := (r2.step s3).setDats hws
    refine hb O_0 (hid L H1) _ H3 _ o _ ⟨L', r3⟩ eo ?_
    cases o with
    | nx ρ' => exact fun σ' H' r' => ⟨ds.length - (i + 1), by omega, rfl, hlt, ρ', r', e2⟩
    | ct ρ' => exact fun σ' H' r' => ⟨ds.length - (i + 1), by omega, rfl, hlt, ρ', r', e2⟩
    | bk ρ' =>
      cases e2
      exact fun σ' H' r' => p σ' H' (Rep.unbase r.t0 hu r')
    | rt d =>
      cases e2
      exact fun v H' s hv => p v H' (hu.trans s) hv
    | xc k ρ' =>
      cases e2
      exact fun σ' H' r' => p σ' H' (Rep.unbase r.t0 hu r')
  · have hie : i = ds.length := by omega
    rw [hie, List.drop_length] at e2
    cases e2
    exact .inl ⟨F2 hie, p σ2 H2 (Rep.unbase r.t0 hu ⟨L', r2⟩)⟩
theorem s_for {wi : TI} {g : TG} {tb : TS} {fi : Ev → Option (List PyData)} {a : PyData → Option (List (Nat × PyData))} {F : Ev → Option Out} {w : Bool} (hi : EvI K w wi fi) (hg : EvG K w g a) (hb : EvS K W cl tb F) : EvS K W cl (tFor wi g tb) (sFor fi a F) := by
  intro O_0 H_0 σ H ρ out D ⟨L, r⟩ e p
  obtain ⟨ds, e1, e⟩ := bind_some e
  exact s_forC hg hb r (fun R q => hi (L ++ O_0) σ H ρ ds r.strong e1 R q) e p
/-- the walk gives data that no heap can change -/
def EvIR (K : PySem.W.Frag) (wi : TI) (f : Ev → Option (List PyData)) : Prop :=
  ∀ (O : List Addr) (σ : St) (H : Hp) (ρ : Ev) (ds : List PyData), RepD K O σ H ρ → f ρ = some ds → ∀ R : It → Hp → Prop, (∀ J H1, Same H H1 → ds.length ≤ 65536 → (∀ O' H', Feeds K false O' H' J ds) → R J H1) → wi σ H R
theorem evi_rng1R {ta : TA} {f : Ev → Option PyData} (h : EvA K ta (dCons f dNil)) : EvIR K (iRng1 ta) (dRng (dCons f dNil)) := by
  intro O σ H ρ ds rp e R q
  obtain ⟨as, e1, e⟩ := bind_some e
  have hl := dCons_len dNil_len ρ as e1
  refine h O σ H ρ as rp e1 _ fun xs H1 s1 h1 => ?_
  cases h1 with
  | nil => cases hl
  | cons g r =>
    cases r with
    | cons _ _ => simp at hl
    | nil =>
      cases g with
      | int j =>
        simp only [pRng] at e
        split at e
        · rename_i hj
          cases e
          exact ⟨j, rfl, by omega, by omega, q _ H1 s1 (by rw [rngD_len]; omega) fun _ _ => feeds_rng⟩
        · cases e
      | _ => cases e
/-- for over a range whose ends read a list of the def -/
def sForV (fi : Ev → Option (List PyData)) (a : PyData → Option (List (Nat × PyData))) (F : Ev → Option Out) : Ev → Option Out := fun ρ => (fi (view ρ)).bind fun ds => forD a F ds ρ
theorem s_forV {wi : TI} {g : TG} {tb : TS} {fi : Ev → Option (List PyData)} {a : PyData → Option (List (Nat × PyData))} {F : Ev → Option Out} (hi : EvIR K wi fi) (hg : EvG K false g a) (hb : EvS K W cl tb F) : EvS K W cl (tFor wi g tb) (sForV fi a F) := by
  intro O_0 H_0 σ H ρ out D ⟨L, r⟩ e p
  obtain ⟨ds, e1, e⟩ := bind_some e
  exact s_forC hg hb r (fun R q => hi O_0 σ H (view ρ) ds r.view e1 R fun J H1 s1 hl F => q J H1 s1 hl (F _ _)) e p
/-- while, n turns at most -/
def whD (c : Ev → Option Bool) (F : Ev → Option Out) : Nat → Ev → Option Out
  | 0, _ => none
  | n + 1, ρ => (c (view ρ)).bind fun b => if b = true then (F ρ).bind fun o => match o with
      | .nx ρ' => whD c F n ρ'
      | .ct ρ' => whD c F n ρ'
      | .bk ρ' => some (.nx ρ')
      | o => some o
    else some (.nx ρ)
theorem s_while {c : TT} {tb : TS} {f : Ev → Option Bool} {F : Ev → Option Out} (n : Nat) (hc : EvT K c f) (hb : EvS K W cl tb F) : EvS K W cl (tWhile c tb) (whD f F n) := by
  intro O_0 H_0 σ H ρ out D r e p
  refine ⟨fun m σ H => ∃ ρi, Rep K O_0 H_0 σ H ρi ∧ whD f F m ρi = some out, ⟨n, ρ, r, e⟩, ?_⟩
  rintro m σ2 H2 ⟨ρi, ⟨L, r2⟩, e2⟩
  cases m with
  | zero => cases e2
  | succ m =>
    unfold whD at e2
    obtain ⟨b, e1, e2⟩ := bind_some e2
    refine hc O_0 σ2 H2 (view ρi) b r2.view e1 _ fun H3 s => ?_
    cases b with
    | false =>
      rw [if_neg Bool.false_ne_true] at e2
      cases e2
      exact iteF (p σ2 H3 ⟨L, r2.step s⟩)
    | true =>
      rw [if_pos rfl] at e2
      obtain ⟨o, eo, e2⟩ := bind_some e2
      refine iteT ⟨fun σ' H' => ∃ m', m' < m + 1 ∧ ∃ ρi, Rep K O_0 H_0 σ' H' ρi ∧ whD f F m' ρi = some out, fun _ _ z => z, ?_⟩
      refine hb O_0 H_0 _ H3 _ o _ ⟨L, r2.step s⟩ eo ?_
      cases o with
      | nx ρ' => exact fun σ' H' r' => ⟨m, Nat.lt_succ_self m, ρ', r', e2⟩
      | ct ρ' => exact fun σ' H' r' => ⟨m, Nat.lt_succ_self m, ρ', r', e2⟩
      | bk ρ' =>
        cases e2
        exact fun σ' H' r' => p σ' H' r'
      | rt d =>
        cases e2
        exact p
      | xc k ρ' =>
        cases e2
        exact p
end
/-! ### a def's body gives data -/
def start0 (n : Nat) (as : List PyData) : Ev := as.map Cell.dat ++ List.replicate (n - as.length) .no
def outD : Out → Option PyData
  | .nx _ => some .none
  | .rt d => some d
  | _ => none
/-- a def as a function on data: n slots -/
def fnD (n : Nat) (F : Ev → Option Out) (as : List PyData) : Option PyData := (F (start0 n as)).bind outD
theorem body_run {K : PySem.W.Frag} {cl : Nat → Value} {t : TS} {F : Ev → Option Out} {N : List Str} {m : List PyData → Option PyData} {k : Nat} (h : EvS K (fun _ _ _ _ => False) cl t F) (hm : ∀ as, m as = fnD N.length F as) {vs : List V} {H : Hp} {Q : VK} {E : XK} (sp : spD K m k vs H Q E) :
    t { nx := fun _ H' => Q .non H', rt := Q } (L2.start N vs) H := by
  obtain ⟨_, O, as, d, tk, da, e, q⟩ := sp
  rw [hm] at e
  unfold fnD at e
  obtain ⟨o, e1, e2⟩ := bind_some e
  refine h O H _ H (start0 N.length as) o _ (Rep.start tk da) e1 ?_
  cases o with
  | nx ρ =>
    cases e2
    exact fun σ H' ⟨L, r⟩ => q .non H' r.sm .non
  | rt d =>
    cases e2
    exact fun v H' s hv => q v H' s hv
  | bk ρ => cases e2
  | ct ρ => cases e2
  | xc k ρ => cases e2
end CS
/-! D7: sorted of lists and tuples of data. -/
namespace CS
open PySem L2 PyProof.Rows PySem.W
section
variable {prog : Program} {w : World} {A : Around} {E : Value → Shared → Prop} {s : Shared}
/-- a list's or a tuple's items -/
def SeqO (h : Heap) (l : Addr) (vs : List Value) : Prop := ∃ o n, h.get? l = some o ∧ (o.cls = .type "list" ∨ o.cls = .type "tuple") ∧ o.data = .seq vs.toArray n
theorem collect_seq {l : Addr} {vs : List Value} {Q : List Value → Shared → Prop} (hl : SeqO s.heap l vs)
    (h : Q vs { s with heap := (s.heap.push (seqObj "list" #[] 0)).update s.heap.objs.size (Obj.mapSeq (· ++ vs.toArray)) }) (hsz : vs.length ≤ sizeLine) :
    wpAny (model prog w) A (collect (.ref l)) Q E s := by
  obtain ⟨o, n, ho, hc, hd⟩ := id hl
  unfold collect
  refine wpAny_bind (wpAny_runValue (codeAny_builtin entry_proto_collect' ?_))
  show wpAny _ _ (do again (.builtin "list.__iadd__" ⟨[← newList [], .ref l], []⟩)) _ _ s
  refine wpAny_bind (wpAny_newList (wpAny_pure ⟨Code.quiet_builtin _ (by decide +kernel), codeAny_builtin entry_list_iadd' ?_⟩))
  show wpAny _ _ (Builtin.List.listExtendWith (.ref s.heap.objs.size) (.ref l) (.ref s.heap.objs.size)) _ _ { s with heap := s.heap.push (seqObj "list" #[] 0) }
  unfold Builtin.List.listExtendWith
  have ho' : (s.heap.push (seqObj "list" #[] 0)).get? l = some o := Heap.get?_push_of_some _ ho
  rcases hc with hc | hc
  · refine wpAny_bind (wpAny_typeOf (T := "list") ⟨o, ho', hc⟩ ?_)
    have ht : (Value.type "list" == Value.type "list") = true := by rfl
    rw [if_pos (by rw [ht]; simp)]
    refine wpAny_bind (listItems_at ho' hd ?_)
    refine wpAny_bind (listItems_at (xs := #[]) (n := 0) (Heap.get?_push_size _ rfl) rfl ?_)
    rw [if_neg (by simp)]
    refine wpAny_bind (listUpdate_at (xs := #[]) (n := 0) (Heap.get?_push_size _ rfl) rfl ?_ (Nat.zero_le _) (by show (#[] ++ vs.toArray).size ≤ sizeLine + 1; simp only [Array.size_append, List.size_toArray, List.length_nil]; omega))
    refine wpAny_pure ?_
    show wpAny (model prog w) A (do
        let o ← load s.heap.objs.size
        match o.data with
        | .seq xs _ => pure xs.toList
        | _ => unsupported "internal:collect") Q E { s with heap := (s.heap.push (seqObj "list" #[] 0)).update s.heap.objs.size (Obj.mapSeq (· ++ vs.toArray)) }
    refine wpAny_bind (wpAny_load (get?_update_seq (Heap.get?_push_size _ rfl) _) ?_)
    show wpAny _ _ (pure ((#[] : Array Value) ++ vs.toArray).toList) Q E _
    rw [show ((#[] : Array Value) ++ vs.toArray).toList = vs by simp]
    exact wpAny_pure h
  · refine wpAny_bind (wpAny_typeOf (T := "tuple") ⟨o, ho', hc⟩ ?_)
    have ht : (Value.type "tuple" == Value.type "tuple") = true := by rfl
    rw [if_pos (by rw [ht]; simp)]
    refine wpAny_bind (listItems_at ho' hd ?_)
    refine wpAny_bind (listItems_at (xs := #[]) (n := 0) (Heap.get?_push_size _ rfl) rfl ?_)
    rw [if_neg (by simp)]
    refine wpAny_bind (listUpdate_at (xs := #[]) (n := 0) (Heap.get?_push_size _ rfl) rfl ?_ (Nat.zero_le _) (by show (#[] ++ vs.toArray).size ≤ sizeLine + 1; simp only [Array.size_append, List.size_toArray, List.length_nil]; omega))
    refine wpAny_pure ?_
    show wpAny (model prog w) A (do
        let o ← load s.heap.objs.size
        match o.data with
        | .seq xs _ => pure xs.toList
        | _ => unsupported "internal:collect") Q E { s with heap := (s.heap.push (seqObj "list" #[] 0)).update s.heap.objs.size (Obj.mapSeq (· ++ vs.toArray)) }
    refine wpAny_bind (wpAny_load (get?_update_seq (Heap.get?_push_size _ rfl) _) ?_)
    show wpAny _ _ (pure ((#[] : Array Value) ++ vs.toArray).toList) Q E _
    rw [show ((#[] : Array Value) ++ vs.toArray).toList = vs by simp]
    exact wpAny_pure h
/-- sorted(xs), xs a list or a tuple -/
theorem sorted_seq {β : Type} {vs : List Value} {bs : List β} {enc : β → PyData} {R : Value → β → Prop} {l : Addr} {Q : Value → Shared → Prop} (hl : SeqO s.heap l vs) (e : EachIs R vs bs) (er : EachIs (fun v b => ∃ as, Reads s.heap v (enc b) as) vs bs) (hal : AllAlike (bs.map enc)) (hk : Sortable (bs.map enc)) (hL : bs.length ≤ sizeLine)
    (hu : ∀ b, b ∈ bs → A.units + 2 + (enc b).depth < cLine) (h : ∀ out, out.length = bs.length → EachIs R out (bs.mergeSort (dataLe false enc)) → Q (.ref (s.heap.objs.size + 1)) { s with heap := PyProof.Rows.sortedAll s.heap vs (List.toArray out) }) :
    wpAny (model prog w) A (call (.builtin "sorted") [.ref l]) Q E s := by
  have hLv : vs.length ≤ sizeLine := by rw [e.length]; exact hL
  have er' : EachIs (fun v b => ∃ as, Reads (sortingHeap (copyHeap s.heap vs) (s.heap.objs.size + 1) vs) v (enc b) as) vs bs := er.mono fun _ _ ⟨as, r⟩ => ⟨as, PyProof.Rows.Reads.keeps (fun _ _ => sorting_copy_old) r⟩
  have S : SortsAt prog w A.in1.in1 { s with heap := sortingHeap (copyHeap s.heap vs) (s.heap.objs.size + 1) vs } (dataKind (sortingHeap (copyHeap s.heap vs) (s.heap.objs.size + 1) vs) (bs.map enc)) vs :=
    SortsAt.data (s := { s with heap := sortingHeap (copyHeap s.heap vs) (s.heap.objs.size + 1) vs }) (each_map (R := fun v d => ∃ as, Reads (sortingHeap (copyHeap s.heap vs) (s.heap.objs.size + 1) vs) v d as) enc er') hal hk (bound_map hu)
  refine call_function_entry_kw kind_sorted plain_sorted entry_sorted (args_sorted1 _) ?_
  unfold Builtin.«sorted»
  refine wpAny_bind (m := checkCount "sorted" 1 1 _) (wpAny_pure ?_)
  refine wpAny_bind (collect_seq hl ?_ hLv)
  refine wpAny_bind (wpAny_newList ?_ hLv)
  have hsz : ((s.heap.push (seqObj "list" #[] 0)).update s.heap.objs.size (Obj.mapSeq (· ++ vs.toArray))).objs.size = s.heap.objs.size + 1 := by
    rw [Heap.size_update, size_push']
  show wpAny _ _ _ _ _ { s with heap := copyHeap s.heap vs }
  rw [hsz]
  refine wpAny_bind (wpAny_holding (wpAny_call_entry_kw slot_list_sort ⟨_, copyHeap_at s.heap vs, rfl⟩ entry_list_sort ?body (args_list_sort _)))
  case body =>
    show wpAny (model prog w) A.in1.in1 (Builtin.«list.sort» ⟨[.ref (s.heap.objs.size + 1)], []⟩) _ _ _
    refine list_sort_vals (s := { s with heap := copyHeap s.heap vs }) (copyHeap_at s.heap vs) S hLv ?_
    refine ⟨_, rfl, wpAny_pure ⟨_, rfl, ?_⟩⟩
    exact h _ (by rw [sortVals_length false rfl]; exact e.length) (sortVals_data false e er' hal)
end
end CS
namespace CS
open PySem L2 PyProof.Rows PySem.W
section
variable {X : Cx} {K : PySem.W.Frag}
def isTup1 : PyData → Bool
  | .tuple (_ :: _) => true
  | _ => false
def notTupN : PyData → Bool
  | .none => false
  | .tuple _ => false
  | _ => true
/-- may be sorted by the library's rule -/
def sortOk (ds : List PyData) : Bool := (ds.all fun d => ds.all fun e => alike d e) && (ds.all isTup1 || ds.all notTupN) && (ds.all fun d => decide (d.depth ≤ 8) && d.canLay0)
def sortD (ds : List PyData) : List PyData := ds.mergeSort (dataLe false id)
def pSort : List PyData → Option PyData
  | [d] => (asSeq d).bind fun ds => if sortOk ds = true then some (.list (sortD ds)) else none
  | _ => none
theorem sortOk_parts {ds : List PyData} (h : sortOk ds = true) : AllAlike ds ∧ Sortable ds ∧ (∀ d ∈ ds, d.depth ≤ 8) ∧ ∀ d ∈ ds, d.canLay0 = true := by
  unfold sortOk at h
  rw [Bool.and_eq_true, Bool.and_eq_true] at h
  obtain ⟨⟨h1, h2⟩, h3⟩ := h
  refine ⟨fun d hd e he => ?_, ?_, fun d hd => ?_, fun d hd => ?_⟩
  · exact List.all_eq_true.mp (List.all_eq_true.mp h1 d hd) e he
  · rcases (Bool.or_eq_true _ _).mp h2 with h | h
    · refine .inl fun d hd => ?_
      have := List.all_eq_true.mp h d hd
      unfold isTup1 at this
      split at this
      · exact ⟨_, _, rfl⟩
      · cases this
    · refine .inr fun d hd => ?_
      have := List.all_eq_true.mp h d hd
      unfold notTupN at this
      split at this
      · cases this
      · cases this
      · rename_i n1 n2
        exact ⟨n1, n2⟩
  · have := (Bool.and_eq_true _ _).mp (List.all_eq_true.mp h3 d hd)
    exact of_decide_eq_true this.1
  · exact ((Bool.and_eq_true _ _).mp (List.all_eq_true.mp h3 d hd)).2
/-- sorted(xs) of data: the pairs of value and data, sorted by the data -/
def rSortD (K : PySem.W.Frag) : List V → Hp → VK → Prop := fun vs H Q => ∃ (a : Addr) (xs : List V) (ds : List PyData), vs = [.ref a] ∧ (SqL K H a xs ∨ SqT K H a xs) ∧ DtAll K H xs ds ∧ sortOk ds = true ∧ xs.length ≤ 65536 ∧
  ∀ p, H p = none → Q (.ref p) (upd H p (.lst (((xs.zip ds).mergeSort (dataLe false Prod.snd)).map Prod.fst)))
theorem zip_snd {α β : Type} : ∀ {xs : List α} {ds : List β}, xs.length = ds.length → (xs.zip ds).map Prod.snd = ds
  | [], [], _ => rfl
  | x :: xs, d :: ds, h => by
    rw [List.zip_cons_cons, List.map_cons, zip_snd (by simpa using h)]
  | [], _ :: _, h => by simp at h
  | _ :: _, [], h => by simp at h
theorem zip_fst {α β : Type} : ∀ {xs : List α} {ds : List β}, xs.length = ds.length → (xs.zip ds).map Prod.fst = xs
  | [], [], _ => rfl
  | x :: xs, d :: ds, h => by
    rw [List.zip_cons_cons, List.map_cons, zip_fst (by simpa using h)]
  | [], _ :: _, h => by simp at h
  | _ :: _, [], h => by simp at h
theorem each_vals : ∀ {xs : List V} {its : List Value} {ds : List PyData}, Vals xs its → xs.length = ds.length → EachIs (fun v (b : V × PyData) => RelV b.1 v) its (xs.zip ds)
  | [], _, [], .nil, _ => .nil
  | x :: xs, _, d :: ds, .cons r t, h => .cons r (each_vals t (by simpa using h))
  | [], _, _ :: _, _, h => by simp at h
  | _ :: _, _, [], _, h => by simp at h
theorem vals_each : ∀ {its : List Value} {bs : List (V × PyData)}, EachIs (fun v (b : V × PyData) => RelV b.1 v) its bs → Vals (bs.map Prod.fst) its
  | _, _, .nil => .nil
  | _, _, .cons r t => .cons r (vals_each t)
theorem each_reads {pins : List (Addr × Obj)} {σ : L2.St} {H : Hp} {s : Shared} (I : Inv X pins σ H s) : ∀ {xs : List V} {its : List Value} {ds : List PyData}, Vals xs its → DtAll X.K H xs ds → (∀ d ∈ ds, d.canLay0 = true) → EachIs (fun v (b : V × PyData) => ∃ as, Reads s.heap v b.2 as) its (xs.zip ds)
  | _, _, _, .nil, .nil, _ => .nil
  | _, _, _, .cons r t, .cons h q, hl => by
    rw [List.zip_cons_cons]
    exact .cons (Dp.reads I _ _ _ (h.dp (hl _ List.mem_cons_self)) r) (each_reads I t q fun d hd => hl d (List.mem_cons_of_mem _ hd))
theorem cr_sortD {k : Nat} (hr : Room k X.A) : CallR X (.builtin "sorted") (rSortD X.K) := by
  intro pins s σ H vs us Q I r h
  obtain ⟨a, xs, ds, rfl, hs, da, ok, hz, q⟩ := h
  rw [Vals.ref1 r]
  obtain ⟨hal, hk, hd, hl⟩ := sortOk_parts ok
  have hlen := da.length
  obtain ⟨its, rv, so⟩ : ∃ its : List Value, Vals xs its ∧ SeqO s.heap a its := by
    rcases hs with hs | hs
    · obtain ⟨its, rv, pl, _⟩ := I.list hs
      obtain ⟨o, n, e, c, d, hd⟩ := id pl
      exact ⟨its, rv, o, n, e, .inl c, hd⟩
    · obtain ⟨its, rv, pl, _⟩ := I.tuple hs
      obtain ⟨o, e, c, n, hd⟩ := id pl
      exact ⟨its, rv, o, n, e, .inr c, hd⟩
  have hb : (xs.zip ds).map Prod.snd = ds := zip_snd hlen
  have hzl : (xs.zip ds).length ≤ sizeLine := by
    rw [List.length_zip]
    have := line_of hz
    omega
  refine sorted_seq (bs := xs.zip ds) (enc := Prod.snd) so (each_vals rv hlen) (each_reads I rv da hl) (by rw [hb]; exact hal) (by rw [hb]; exact hk) hzl (fun b hbm => ?_) fun out ho eo => ?_
  · have : b.2 ∈ ds := by
      rw [← hb]
      exact List.mem_map.mpr ⟨b, hbm, rfl⟩
    have h1 := hd _ this
    have h2 := hr.un
    omega
  · obtain ⟨ep, he'⟩ := PyProof.Rows.sortedAll_at s.heap its out.toArray
    have hvl := vals_each eo
    have hll : (((xs.zip ds).mergeSort (dataLe false Prod.snd)).map Prod.fst).length ≤ sizeLine := by
      rw [List.length_map, List.length_mergeSort]
      exact hzl
    exact ⟨.ref _, upd H (s.heap.objs.size + 1) (.lst _), I.laid (t' := s.toks) (fun _ _ => PyProof.Rows.sortedAll_old) (Nat.le_succ _) ⟨hll, out, ep, hvl, he'⟩, rfl, q _ (I.hok.fresh (Nat.le_succ _))⟩
theorem dtAll_pairs {H : Hp} : ∀ {bs : List (V × PyData)}, (∀ b ∈ bs, Dt K H b.1 b.2) → DtAll K H (bs.map Prod.fst) (bs.map Prod.snd)
  | [], _ => .nil
  | b :: bs, h => .cons (h b List.mem_cons_self) (dtAll_pairs fun c hc => h c (List.mem_cons_of_mem _ hc))
theorem dtAll_zip {H : Hp} : ∀ {xs : List V} {ds : List PyData}, DtAll K H xs ds → ∀ b ∈ xs.zip ds, Dt K H b.1 b.2
  | _, _, .nil, b, hb => by simp at hb
  | _, _, .cons h t, b, hb => by
    rw [List.zip_cons_cons] at hb
    rcases List.mem_cons.mp hb with z | z
    · rw [z]; exact h
    · exact dtAll_zip t b z
theorem sorted_dt {H : Hp} {xs : List V} {ds : List PyData} (h : DtAll K H xs ds) : DtAll K H (((xs.zip ds).mergeSort (dataLe false Prod.snd)).map Prod.fst) (sortD ds) := by
  have e : sortD ds = ((xs.zip ds).mergeSort (dataLe false Prod.snd)).map Prod.snd := by
    have := sort_maps (r := dataLe false Prod.snd) (s := dataLe false id) Prod.snd (l := xs.zip ds) (fun _ _ _ _ => rfl)
    rw [this, zip_snd h.length]
    rfl
  rw [e]
  exact dtAll_pairs fun b hb => dtAll_zip h b (List.mem_mergeSort.mp hb)
theorem evl_sort : EvL K (rSortD K) pSort := by
  intro O H xs as d t ha e Q q
  cases ha with
  | nil => cases e
  | cons h r =>
    cases r with
    | cons _ _ => simp [pSort] at e
    | nil =>
      simp only [pSort] at e
      obtain ⟨ds, e1, e⟩ := bind_some e
      split at e
      · rename_i ok
        cases e
        cases h with
        | lst g1 g2 g3 =>
          cases e1
          refine ⟨_, _, _, rfl, .inl (SqL.of (hid_some g1).2), g3.same (hid_sub O H), ok, g2, fun p hp => q _ _ (same_new hp) (Dt.newLst t hp (sorted_dt g3) ?_)⟩
          rw [List.length_map, List.length_mergeSort, List.length_zip]; omega
        | tup g1 g2 g3 =>
          cases e1
          refine ⟨_, _, _, rfl, .inr ((TupOk.same (hid_sub O H) g1).sq), g3.same (hid_sub O H), ok, g2, fun p hp => q _ _ (same_new hp) (Dt.newLst t hp (sorted_dt g3) ?_)⟩
          rw [List.length_map, List.length_mergeSort, List.length_zip]; omega
        | _ => cases e1
      · cases e
end
end CS
/-! D8: tests by comparison, negation, index, len(set(..)), sorted(set(..)), parallel assignment. -/
namespace CS
open PySem L2 PyProof.Rows
section
variable {X : Cx} {K : PySem.W.Frag} {W : WX} {cl : Nat → Value}
theorem hu65 {k : Nat} {A : Around} (hr : Room k A) : A.units + 65 < cLine := by have := hr.un; omega
theorem ev_tTest {t : TE} {f : Ev → Option PyData} (h : EvE K t f) : EvT K (tTest t) (dT f) := by
  intro O σ H ρ b rp e Q q
  obtain ⟨a, e1, e⟩ := bind_some e
  cases asB_some e
  refine h O σ H ρ _ rp e1 _ fun x H1 s1 h1 => ?_
  cases h1
  exact ⟨b, rfl, q H1 s1⟩
def pNeg : PyData → Option PyData
  | .int i => some (.int (-i))
  | _ => none
theorem e1_neg : Ev1 K (rU fun i => .int (-i)) pNeg := by
  intro O H x a d t ha e Q q
  cases ha with
  | int i => cases e; exact ⟨i, rfl, q _ H (Same.refl H) (.int _)⟩
  | _ => cases e
def pAddI : PyData → PyData → Option PyData
  | .int x, .int y => some (.int (x + y))
  | _, _ => none
theorem s_augI {i : Nat} {te : TE} {f : Ev → Option PyData} (h : EvE K te f) : EvS K W cl (tAug i te (ipI fun i j => i + j)) (sAug i pAddI f) := by
  intro O_0 H_0 σ H ρ out D ⟨L, r⟩ e p
  obtain ⟨a, e1, e⟩ := bind_some e
  obtain ⟨b, e2, e⟩ := bind_some e
  obtain ⟨d, e3, e⟩ := map_some e
  subst e
  obtain ⟨v, h1, h2⟩ := r.sl.2 i a (dVar_some e1)
  refine ⟨v, h1, h O_0 σ H (view ρ) b r.view e2 _ fun u H' s hu => ?_⟩
  cases h2 with
  | int x =>
    cases hu with
    | int y => cases e3; exact ⟨x, y, rfl, rfl, p _ H' ⟨L, (r.step s).setDat (.int _)⟩⟩
    | _ => cases e3
  | _ => cases e3
def dLstRg (f : Ev → Option PyData) : Ev → Option PyData := fun ρ => (fLstRg f ρ).map .list
theorem ev_of_f {te : TE} {f : Ev → Option (List PyData)} (h : EvF K te f) : EvE K te (fun ρ => (f ρ).map .list) := by
  intro O σ H ρ d rp e Q q
  obtain ⟨ds, e1, e⟩ := map_some e
  subst e
  refine h O σ H ρ ds rp e1 _ fun l vs H' s hn hl hz da => q _ H' s ?_
  have hno : l ∉ O := rp.1.new hn
  exact .lst (by rw [hid_out hno]; exact hl) hz (da.same (hid_le fun b hb => List.mem_cons_of_mem _ hb))
theorem ev_listRg {te : TE} {f : Ev → Option PyData} (h : EvE K te f) : EvE K (tLstRg (tRg1 te)) (dLstRg f) := ev_of_f (f_listRg h)

/-! ### t.index(x) -/
def idxD (x : PyData) : List PyData → Option Nat
  | [] => none
  | d :: ds => if PyData.eqv d x = true then some 0 else (idxD x ds).map (· + 1)
theorem idxD_some {x : PyData} : ∀ {ds : List PyData} {j : Nat}, idxD x ds = some j → (∃ z, ds[j]? = some z ∧ PyData.eqv z x = true) ∧ ∀ m z, m < j → ds[m]? = some z → PyData.eqv z x = false
  | [], _, h => by cases h
  | d :: ds, j, h => by
    unfold idxD at h
    split at h
    · rename_i hd
      cases h
      exact ⟨⟨d, rfl, hd⟩, fun m z hm _ => absurd hm (Nat.not_lt_zero m)⟩
    · rename_i hd
      obtain ⟨i, h1, h2⟩ := map_some h
      subst h2
      obtain ⟨⟨z, hz, hzx⟩, hno⟩ := idxD_some h1
      refine ⟨⟨z, by simpa using hz, hzx⟩, fun m w hm hw => ?_⟩
      cases m with
      | zero => simp at hw; subst hw; simpa using hd
      | succ m => exact hno m w (by omega) (by simpa using hw)
theorem tupOk_dict {pins : List (Addr × Obj)} {σ : L2.St} {H : Hp} {s : Shared} {a : Addr} {xs : List V} (I : Inv X pins σ H s) (h : TupOk X.K H a xs) : ∃ o, s.heap.get? a = some o ∧ o.cls = .type "tuple" ∧ o.dict = none := by
  rcases h with ⟨o, h, d⟩ | ⟨o, its, n, h1, h2, h3, h4, h5, h6⟩
  · obtain ⟨e, _, its, _, o', e', c, _⟩ := I.hok a _ h
    rw [e] at e'; cases e'
    exact ⟨o, e, c, d⟩
  · exact ⟨o, I.kIn _ _ h1, h2, h6⟩
/-- a method of a known tuple -/
def tBMT (K : PySem.W.Frag) (r : V → List V → Hp → VK → Prop) (to : TE) (t : TA) : TE := fun σ H Q => to σ H fun x H1 => (∃ a xs, x = .ref a ∧ TupOk K H1 a xs) ∧ t σ H1 fun xs H2 => r x xs H2 Q
theorem pe_bmT {o e : Expr} {es : List Expr} {to : TE} {t : TA} {name : Str} {apos cpos : Pos} {id : String} {r : V → List V → Hp → VK → Prop} (slot : Slot "tuple" name id) (hty : typeOf (.builtin id) = pure (.type "method_descriptor")) (hm : MtR X id r) (ho : PE X o to) (ha : PA X (e :: es) t)
    (hbase : attributeBase o name X.env (eval o X.env) = eval o X.env := by rfl)
    (hfew : ((backTo cpos (starEach (e :: es) X.env)).all (fun x => !x.1) && (backToKw cpos (keywordEach [] X.env)).all (fun x => x.1.isSome)
      && decide ((e :: es).length + ([] : List Keyword).length + (if ([] : List Keyword).isEmpty then 0 else 1) < 30)) = true := by rfl)
    (hline : (apos.endLine == cpos.line) = true := by rfl) (hs : starEach (e :: es) X.env = (false, eval e X.env) :: starEach es X.env := by rfl) (hplain : (backTo cpos (starEach es X.env)).any (·.1) = false := by rfl) :
    PE X (.Call (.Attribute o name apos) (e :: es) [] cpos) (tBMT X.K r to t) := by
  refine ⟨fun pins s σ H Q I h => ?_⟩
  refine wpAny_Call_method_late hbase hfew hline rfl (thn (ho.run pins s σ H _ I h) fun v s1 ⟨x, H1, I1, r1, ⟨a0, xs0, ex0, tk0⟩, q1⟩ => ?_)
  subst ex0
  have r1' := r1
  cases r1
  obtain ⟨ob, hob, hc, hdn⟩ := tupOk_dict I1 tk0
  refine ⟨"tuple", id, PySem.F.plainAttrs_tuple, slot, hty, ⟨ob, hob, hc⟩, fun a e => by cases e; exact ⟨ob, hob, hdn⟩, ?_⟩
  have hA := ha.run cpos pins s1 σ H1 _ I1 q1
  rw [hs] at hA ⊢
  refine Calls.callWith_builtin (by show (false || (backTo cpos (starEach es X.env)).any (·.1)) = false; rw [hplain] <;> rfl) (Calls.evalArgs_plain ?_)
  exact thn hA fun us s2 ⟨vs, H2, I2, r2, q2⟩ => hm pins s2 σ H2 (.ref a0) vs (.ref a0) us Q I2 r1' r2 q2
def rIdxA (K : PySem.W.Frag) : V → List V → Hp → VK → Prop := fun x vs H Q => ∃ (a : Addr) (y : V) (xs : List V) (ds : List PyData) (d : PyData) (j : Nat), x = .ref a ∧ vs = [y] ∧ SqT K H a xs ∧ DpAll K H xs ds ∧ Dp K H y d ∧
  SeqAt.shaped (.list ds) = true ∧ SeqAt.shaped d = true ∧ idxD d ds = some j ∧ Q (.int (j : Nat)) H
theorem mt_tindexD {k : Nat} (hr : Room k X.A) : MtR X "tuple.index" (rIdxA X.K) := by
  intro pins s σ H x vs v us Q I rx rxs h
  obtain ⟨a, y, xs, ds, d, j, rfl, rfl, hl, ha, hy, sl, sd, hj, q⟩ := h
  obtain ⟨⟨z, hz, hzj⟩, hno⟩ := idxD_some hj
  cases rx
  cases rxs with
  | cons ry rt =>
    rename_i uy ut
    cases rt
    obtain ⟨bs, r1⟩ := Dp.reads I d y uy hy ry
    have hxs : PyData.canLayAll0 ds = true := lays_of sl
    have hroom : X.A.units + 1 + min (PyData.depthAll ds) d.depth < cLine := by
      have h3 : d.depth ≤ 64 := of_decide_eq_true ((Bool.and_eq_true _ _).mp sd).2
      have := hu65 hr
      omega
    obtain ⟨its, rv, ⟨⟨cls, dd, data, sls⟩, ho, hc, n, hdt⟩, hlen⟩ := I.tuple hl
    simp only at hc hdt
    subst hc hdt
    obtain ⟨as, h4⟩ := Dp.readsAll I ds _ its ha rv
    have hn : its.length = ds.length := SeqAt.ReadsAll.length ds its as h4
    have hmap : its.map (SeqAt.readOf s.heap) = ds := SeqAt.readsAll_map ds its as hxs h4
    obtain ⟨hjd, _⟩ := List.getElem?_eq_some_iff.mp hz
    have hjl : j < its.toArray.size := by rw [List.size_toArray]; omega
    have at_ : ∀ (m : Nat) (hm : m < its.toArray.size) (z' : PyData), ds[m]? = some z' → SeqAt.readOf s.heap its.toArray[m] = z' := by
      intro m hm z' hz'
      have hml : m < its.length := by simpa using hm
      rw [← hmap, List.getElem?_map, List.getElem?_eq_getElem hml] at hz'
      have e1 : SeqAt.readOf s.heap its[m] = z' := Option.some.inj (show some (SeqAt.readOf s.heap its[m]) = some z' from hz')
      simpa using e1
    refine call_meets PySem.F.slot_tuple_index ⟨_, ho, rfl⟩ PySem.F.entry_tuple_index (PySem.F.args_tuple_index_2 _ _)
      (TI.tuple_indexAt a its.toArray n dd sls uy (fun u => PyData.eqv (SeqAt.readOf s.heap u) d) j hjl ?_ ?_) ⟨ho, SeqAt.items_eqAt (vs := its.toArray) (show ReadsAll s.heap its.toArray.toList ds as from h4) r1 hxs (lay_of sd) hroom, ?_⟩
    · show PyData.eqv (SeqAt.readOf s.heap its.toArray[j]) d = true
      rw [at_ j hjl z hz]
      exact hzj
    · intro m hm hmj
      have hmd : m < ds.length := by omega
      have hz' : ds[m]? = some ds[m] := List.getElem?_eq_getElem hmd
      show PyData.eqv (SeqAt.readOf s.heap its.toArray[m]) d = false
      rw [at_ m hm _ hz']
      exact hno m _ hmj hz'
    · exact ⟨.int (j : Nat), H, I.tok _, ⟨_, rfl⟩, q⟩
def pTIndex : PyData → PyData → Option PyData
  | .tuple ds, d => if SeqAt.shaped (.list ds) = true ∧ SeqAt.shaped d = true then (idxD d ds).map fun j => .int (j : Nat) else none
  | _, _ => none
theorem ev_tindex {to te : TE} {f g : Ev → Option PyData} (h : EvE K to f) (h' : EvE K te g) : EvE K (tBMT K (rIdxA K) to (tCons te tNil)) (d2 pTIndex f g) := by
  intro O σ H ρ d rp e Q q
  obtain ⟨a, e1, e⟩ := bind_some e
  obtain ⟨b, e2, e⟩ := bind_some e
  refine h O σ H ρ a rp e1 _ fun x H1 s1 h1 => ?_
  cases h1 with
  | tup g1 g2 g3 =>
    simp only [pTIndex] at e
    split at e
    · rename_i hs
      obtain ⟨j, e3, e⟩ := map_some e
      subst e
      refine ⟨⟨_, _, rfl, TupOk.same (hid_sub O H1) g1⟩, h' O σ H1 ρ b (rp.same s1) e2 _ fun y H2 s2 h2 => ?_⟩
      exact ⟨_, y, _, _, b, j, rfl, rfl, (TupOk.same ((hid_sub O H1).trans s2) g1).sq, (g3.same ((hid_sub O H1).trans s2)).dp (lays_of hs.1), (h2.same (hid_sub O H2)).dp (lay_of hs.2), hs.1, hs.2, e3, q _ H2 (s1.trans s2) (.int _)⟩
    · cases e
  | _ => cases e
/-! ### len(set(xs)), ints -/
def nubL (ns : List Int) : Nat := (firstMet (fun i => ns.getD i 0) ns.length).length
def tLenSetD (K : PySem.W.Frag) (ta : TE) : TE := fun σ H Q => ta σ H fun x H1 => ∃ (l : Addr) (ns : List Int), x = .ref l ∧ SqL K H1 l (ns.map V.int) ∧ ns.length ≤ 4000 ∧ Q (.int (nubL ns : Nat)) H1
theorem pe_lenSetD {a : Expr} {ta : TE} {p p2 q pos : Pos} (hg : Gl X "len") (hm : X.mg "len" = none) (hg2 : Gl X "set") (hm2 : X.mg "set" = none) (ha : PE X a ta) (hc : X.calm = true := by rfl)
    (na : starEach [a] X.env = (false, eval a X.env) :: starEach [] X.env := by rfl) : PE X (.Call (.Name "len" p) [.Call (.Name "set" p2) [a] [] q] [] pos) (tLenSetD X.K ta) := by
  refine ⟨fun pins s σ H Q I h => ?_⟩
  refine Call_ (ld_blt I hg hm boot_len ?_)
  refine PyProof.Rows.callWith_builtin1 (PyProof.Rows.args_cons ?_ rfl) rfl rfl
  refine Call_ (ld_blt I hg2 hm2 boot_set ?_)
  refine PyProof.Rows.callWith_type1 (PyProof.Rows.args_cons (thn (ha.run pins s σ H _ I h) fun v s1 ⟨x, H1, I1, r1, q1⟩ => PyProof.Rows.args_nil ?_) na) na rfl
  obtain ⟨l, ns, rfl, hq, hl, q1⟩ := q1
  cases r1
  obtain ⟨its, r, pl, hz⟩ := I1.list hq
  have hlen : its.toArray.size = ns.length := by rw [List.size_toArray, ← r.length, List.length_map]
  refine call_set_list (I1.ok.hd hc) pl.isList (by simpa using RZ.intsAre_vals r) (by rw [hlen]; unfold scanBound; omega) fun h' tk hS hk => ?_
  refine PyProof.Rows.args_nil ?_
  rw [hlen] at hS
  have hb := firstMet_length_le (fun i => ns.getD i 0) ns.length
  obtain ⟨o, es, ep, t, ho, hex, hd, _, _, _, hf, hn⟩ := hS
  have I2 : Inv X pins σ H1 { s1 with heap := h', toks := tk } := I1.kept fun b o e => hk b o (Heap.lt_size e) e
  exact call_len_set ho hex hd hf (by rw [hn] <;> omega) ⟨.int (nubL ns : Nat), H1, I2.tok _, ⟨_, by unfold nubL; rw [hn]⟩, q1⟩
def dLenSet (f : Ev → Option PyData) : Ev → Option PyData := fun ρ => (f ρ).bind fun a => (asL a).bind fun ds => (intsOf ds).bind fun ns => if ns.length ≤ 4000 then some (.int (nubL ns : Nat)) else none
theorem ev_lenSet {te : TE} {f : Ev → Option PyData} (h : EvE K te f) : EvE K (tLenSetD K te) (dLenSet f) := by
  intro O σ H ρ d rp e Q q
  obtain ⟨a, e1, e⟩ := bind_some e
  obtain ⟨ds, e2, e⟩ := bind_some e
  obtain ⟨ns, e3, e⟩ := bind_some e
  split at e
  · rename_i hn
    cases e
    refine h O σ H ρ a rp e1 _ fun x H1 s1 h1 => ?_
    cases h1 with
    | lst g1 g2 g3 =>
      cases e2
      rw [intsOf_some e3] at g3
      have := g3.asInts
      subst this
      exact ⟨_, ns, rfl, SqL.of (hid_some g1).2, hn, q _ H1 s1 (.int _)⟩
    | _ => cases e2
  · cases e
end
end CS
namespace CS
open PySem L2
theorem boot_isinstance : bootBuiltins "isinstance" = some (.builtin "isinstance") := by decide +kernel
theorem boot_sorted : bootBuiltins "sorted" = some (.builtin "sorted") := by decide +kernel
theorem boot_len : bootBuiltins "len" = some (.builtin "len") := by decide +kernel
theorem boot_min : bootBuiltins "min" = some (.builtin "min") := by decide +kernel
theorem boot_max : bootBuiltins "max" = some (.builtin "max") := by decide +kernel
theorem boot_int : bootBuiltins "int" = some (.type "int") := by decide +kernel
theorem boot_bool : bootBuiltins "bool" = some (.type "bool") := by decide +kernel
theorem boot_str : bootBuiltins "str" = some (.type "str") := by decide +kernel
theorem boot_tuple : bootBuiltins "tuple" = some (.type "tuple") := by decide +kernel
theorem boot_list : bootBuiltins "list" = some (.type "list") := by decide +kernel
theorem boot_set : bootBuiltins "set" = some (.type "set") := by decide +kernel
end CS
namespace CS
open PySem L2
/-! ### short names of readings, for comprehensions -/
abbrev rSubD : R2 := rI0 fun i j => .int (i - j)
abbrev rModD : R2 := rI (fun _ j => 0 < j) fun i j => .int (i % j)
abbrev rFdivD : R2 := rI CDiv fun i j => .int (i / j)
abbrev rPowD : R2 := rI CPow fun i j => .int (i ^ j.toNat)
abbrev rLtD : R2 := rI0 fun i j => .bl (decide (i < j))
abbrev rLeD : R2 := rI0 fun i j => .bl (decide (i ≤ j))
abbrev rGtD : R2 := rI0 fun i j => .bl (decide (j < i))
abbrev rGeD : R2 := rI0 fun i j => .bl (decide (j ≤ i))
abbrev rInSg : R2 := fun x y H Q => ∃ (c : Nat) (z : Str), x = .str ⟨#[c]⟩ ∧ y = .str z ∧ Q (.bl (decide (c ∈ z.cps.toList))) H
abbrev rNotInSg : R2 := fun x y H Q => ∃ (c : Nat) (z : Str), x = .str ⟨#[c]⟩ ∧ y = .str z ∧ Q (.bl (!decide (c ∈ z.cps.toList))) H
abbrev rIsND : R2 := fun x y H Q => y = .non ∧ Q (.bl (decide (x = .non))) H
abbrev rNotND : R2 := fun x y H Q => y = .non ∧ Q (.bl (!decide (x = .non))) H
abbrev rLenD (K : PySem.W.Frag) : List V → Hp → VK → Prop := fun xs H Q => ∃ x n, xs = [x] ∧ LenV K x H n ∧ Q (.int n) H
abbrev rIntD : List V → Hp → VK → Prop := fun xs H Q => (∃ i, xs = [.int i] ∧ Q (.int i) H) ∨ ∃ k, xs = [.bl k] ∧ Q (.int (if k then 1 else 0)) H
abbrev rListD (K : PySem.W.Frag) : List V → Hp → VK → Prop := fun xs H Q => ∃ p ys, xs = [.ref p] ∧ (SqL K H p ys ∨ SqT K H p ys) ∧ ∀ l, H l = none → Q (.ref l) (upd H l (.lst ys))
abbrev rMaxD (K : PySem.W.Frag) : List V → Hp → VK → Prop := fun xs H Q => rMax K xs H Q ∨ (∃ i j, xs = [.int i, .int j] ∧ Q (.int (if j > i then j else i)) H)
abbrev rMinD (K : PySem.W.Frag) : List V → Hp → VK → Prop := fun xs H Q => rMin K xs H Q ∨ (∃ i j, xs = [.int i, .int j] ∧ Q (.int (if j < i then j else i)) H)
abbrev rNegD : V → Hp → VK → Prop := rU fun i => .int (-i)
abbrev tTruD (K : PySem.W.Frag) (t : TE) : TT := fun σ H Q => t σ H fun x H' => ∃ k, TruV K x H' k ∧ Q k H'
end CS
/-! D9: dicts with pairs of ints as keys; several targets; what raises. -/
namespace CS
open PySem L2
section
variable {X : Cx} {K : PySem.W.Frag} {W : WX} {cl : Nat → Value}
/-! ### dicts -/
def dctAt (i : Nat) (ρ : Ev) : Option (List (List Key × PyData)) := match ρ[i]? with
  | some (.dct ds) => some ds
  | _ => none
theorem dctAt_some {i : Nat} {ρ : Ev} {ds : List (List Key × PyData)} (h : dctAt i ρ = some ds) : ρ[i]? = some (.dct ds) := by
  unfold dctAt at h
  split at h
  · rename_i e; cases h; exact e
  · cases h
def valD (kvs : List (List Key × PyData)) (k : List Key) : Option PyData := (kvs.find? fun kv => decide (kv.1 = k)).map (·.2)
def putD (kvs : List (List Key × PyData)) (k : List Key) (d : PyData) : List (List Key × PyData) :=
  if (kvs.any fun kv => decide (kv.1 = k)) = true then kvs.map (fun kv => if kv.1 = k then (kv.1, d) else kv) else kvs ++ [(k, d)]
theorem kvd_val {H : Hp} {k : List Key} {d : PyData} : ∀ {vs : List (List Key × V)} {kvs : List (List Key × PyData)}, KvD K H vs kvs → valD kvs k = some d → ∃ v, valV vs k = some v ∧ Dt K H v d
  | _, _, .nil, e => by cases e
  | (a, v) :: vs, (b, x) :: kvs, .cons r t, e => by
    obtain ⟨r1, r2⟩ := r
    simp only at r1 r2
    subst r1
    unfold valD at e
    rw [List.find?_cons] at e
    by_cases h : a = k
    · simp [h] at e
      subst e
      exact ⟨v, valV_pos (p := (a, v)) h, r2⟩
    · simp [h] at e
      obtain ⟨w, hw, hd⟩ := kvd_val (k := k) (d := d) t (by unfold valD; simpa using e)
      exact ⟨w, by rw [valV_neg (p := (a, v)) h]; exact hw, hd⟩
theorem kvd_any {H : Hp} {k : List Key} : ∀ {vs : List (List Key × V)} {kvs : List (List Key × PyData)}, KvD K H vs kvs → (vs.any fun kv => decide (kv.1 = k)) = (kvs.any fun kv => decide (kv.1 = k))
  | _, _, .nil => rfl
  | _ :: _, _ :: _, .cons r t => by
    rw [List.any_cons, List.any_cons, kvd_any t, r.1]
theorem kvd_put {H : Hp} {k : List Key} {v : V} {d : PyData} {vs : List (List Key × V)} {kvs : List (List Key × PyData)} (h : KvD K H vs kvs) (hv : Dt K H v d) : KvD K H (putK vs k v) (putD kvs k d) := by
  unfold putK putD
  rw [kvd_any h]
  split
  · have key : ∀ {vs : List (List Key × V)} {kvs : List (List Key × PyData)}, KvD K H vs kvs → KvD K H (vs.map fun kv => if kv.1 = k then (kv.1, v) else kv) (kvs.map fun kv => if kv.1 = k then (kv.1, d) else kv) := by
      intro vs kvs h
      induction h with
      | nil => exact .nil
      | @cons a b _ _ r t ih =>
        rw [List.map_cons, List.map_cons]
        refine .cons ?_ ih
        obtain ⟨r1, r2⟩ := r
        rw [r1]
        split
        · exact ⟨rfl, hv⟩
        · exact ⟨r1, r2⟩
    exact key h
  · have key : ∀ {vs : List (List Key × V)} {kvs : List (List Key × PyData)}, KvD K H vs kvs → KvD K H (vs ++ [(k, v)]) (kvs ++ [(k, d)]) := by
      intro vs kvs h
      induction h with
      | nil => exact .cons ⟨rfl, hv⟩ .nil
      | cons r t ih => exact .cons r ih
    exact key h
theorem kvd_len {H : Hp} {vs : List (List Key × V)} {kvs : List (List Key × PyData)} (h : KvD K H vs kvs) : vs.length = kvs.length := Paired.length h
theorem vsOf_val (k : List Int) : ∀ ads : Ads, valV (vsOf ads) (k.map Sum.inl) = valI ads k
  | [] => rfl
  | p :: r => by
    have inj : ∀ a : List Int, (a.map (Sum.inl : Int → Key) = k.map Sum.inl) ↔ a = k := fun a => ⟨fun h => (List.map_inj_right (fun _ _ e => Sum.inl.inj e)).mp h, fun h => by rw [h]⟩
    have ih := vsOf_val k r
    unfold vsOf valV valI at *
    rw [List.map_cons, List.find?_cons, List.find?_cons]
    by_cases e : p.1 = k
    · simp [e]
    · rw [show decide (List.map (Sum.inl : Int → Key) p.1 = k.map Sum.inl) = false from decide_eq_false fun z => e ((inj _).mp z), show decide (p.1 = k) = false from decide_eq_false e]; exact ih
theorem vsOf_put (ads : Ads) (k : List Int) (b : Addr) (v : V) : putK (vsOf ads) (k.map Sum.inl) v = vsOf (putI ads k b v) := by
  have inj : ∀ a : List Int, (a.map (Sum.inl : Int → Key) = k.map Sum.inl) ↔ a = k := fun a => ⟨fun h => (List.map_inj_right (fun _ _ e => Sum.inl.inj e)).mp h, fun h => by rw [h]⟩
  have ea : ((vsOf ads).any fun kv => decide (kv.1 = k.map Sum.inl)) = ads.any fun e => decide (e.1 = k) := by
    unfold vsOf
    rw [List.any_map]
    exact congrArg (fun f => List.any ads f) (funext fun e => by simp [Function.comp, inj])
  unfold putK putI
  rw [ea]
  split
  · unfold vsOf
    rw [List.map_map, List.map_map]
    refine List.map_congr_left fun e _ => ?_
    by_cases h : e.1 = k
    · simp [h]
    · simp [h, inj]
  · unfold vsOf
    rw [List.map_append]
    rfl
theorem putI_keys {H : Hp} {ads : Ads} {k : List Int} {b : Addr} {v : V} (h : ∀ e ∈ ads, TupOk K H e.2.1 (e.1.map V.int)) (hb : TupOk K H b (k.map V.int)) : ∀ e ∈ putI ads k b v, TupOk K H e.2.1 (e.1.map V.int) := by
  intro e he
  unfold putI at he
  split at he
  · obtain ⟨f, hf, rfl⟩ := List.mem_map.mp he
    split
    · exact h f hf
    · exact h f hf
  · rcases List.mem_append.mp he with z | z
    · exact h e z
    · rw [List.mem_singleton.mp z]; exact hb
/-- a key: a tuple of ints -/
def asInts : List PyData → Option (List Int)
  | [] => some []
  | .int i :: r => (asInts r).map (i :: ·)
  | _ => none
theorem asInts_some : ∀ {ds : List PyData} {k : List Int}, asInts ds = some k → ds = k.map PyData.int
  | [], _, h => by cases h; rfl
  | .int i :: r, k, h => by
    simp only [asInts] at h
    obtain ⟨l, h1, h2⟩ := map_some h
    subst h2
    rw [asInts_some h1]; rfl
  | .none :: _, _, h | .bool _ :: _, _, h | .str _ :: _, _, h | .list _ :: _, _, h | .tuple _ :: _, _, h | .dict _ :: _, _, h => by cases h
def asKey : PyData → Option (List Int)
  | .tuple ds => asInts ds
  | _ => none
theorem asKey_some {d : PyData} {k : List Int} (h : asKey d = some k) : d = .tuple (k.map PyData.int) := by
  cases d <;> first | (cases h; done) | exact congrArg PyData.tuple (asInts_some h)
theorem key_tup {H : Hp} {O : List Addr} {v : V} {d : PyData} {k : List Int} (h : Dt K (hid O H) v d) (e : asKey d = some k) : ∃ b, v = .ref b ∧ TupOk K H b (k.map V.int) := by
  rw [asKey_some e] at h
  cases h with
  | tup h1 h2 h3 =>
    rw [DtAll.asInts h3] at h1
    exact ⟨_, rfl, h1.same (hid_sub O H)⟩
/-- the key that an expression gives -/
def keyD (f : Ev → Option PyData) : Ev → Option (List Key) := fun ρ => ((f ρ).bind asKey).map (·.map Sum.inl)
theorem keyD_some {f : Ev → Option PyData} {ρ : Ev} {k : List Key} (h : keyD f ρ = some k) : ∃ d ks, f ρ = some d ∧ asKey d = some ks ∧ k = ks.map Sum.inl := by
  obtain ⟨ks, h1, h2⟩ := map_some h
  obtain ⟨d, h3, h4⟩ := bind_some h1
  exact ⟨d, ks, h3, h4, h2.symm⟩
def dDGetK (i : Nat) (f : Ev → Option PyData) : Ev → Option PyData := fun ρ => (dctAt i ρ).bind fun kvs => (keyD f ρ).bind fun k => valD kvs k
theorem ev_dgetK {i : Nat} {t : TE} {f : Ev → Option PyData} (h : EvE K t f) : EvE K (tDGetI K (tVar i) t) (dDGetK i f) := by
  intro O σ H ρ d rp e Q q
  obtain ⟨kvs, e1, e⟩ := bind_some e
  obtain ⟨k, e2, e⟩ := bind_some e
  obtain ⟨dk, ks, e3, e4, rfl⟩ := keyD_some e2
  obtain ⟨l, vs, h1, ⟨ads, hv, hl, hk⟩, h3⟩ := rp.2.2 i kvs (dctAt_some e1)
  refine ⟨_, h1, h O σ H ρ dk rp e3 _ fun y H' s hy => ?_⟩
  obtain ⟨b, rfl, hb⟩ := key_tup hy e4
  obtain ⟨v, ev, hd⟩ := kvd_val h3 e
  refine ⟨l, ads, ks, b, v, rfl, ⟨s _ _ hl, fun e he => ((hk e he).same s).sq⟩, rfl, hb.sq, by rw [← vsOf_val, ← hv]; exact ev, q v H' s (hd.same (hid_same s))⟩
def dDNotIn (i : Nat) (f : Ev → Option PyData) : Ev → Option PyData := fun ρ => (keyD f ρ).bind fun k => (dctAt i ρ).map fun kvs => .bool (!(valD kvs k).isSome)
theorem kvd_some {H : Hp} {k : List Key} : ∀ {vs : List (List Key × V)} {kvs : List (List Key × PyData)}, KvD K H vs kvs → (valV vs k).isSome = (valD kvs k).isSome
  | _, _, .nil => rfl
  | (a, v) :: vs, (b, x) :: kvs, .cons r t => by
    obtain ⟨r1, r2⟩ := r
    simp only at r1 r2
    subst r1
    by_cases h : a = k
    · rw [valV_pos (p := (a, v)) h]; simp [valD, List.find?_cons, h]
    · rw [valV_neg (p := (a, v)) h, kvd_some t]; simp [valD, List.find?_cons, h]
theorem ev_dnotin {i : Nat} {t : TE} {f : Ev → Option PyData} (h : EvE K t f) : EvE K (tDNotInI K t (tVar i)) (dDNotIn i f) := by
  intro O σ H ρ d rp e Q q
  obtain ⟨k, e2, e⟩ := bind_some e
  obtain ⟨kvs, e1, e⟩ := map_some e
  subst e
  obtain ⟨dk, ks, e3, e4, rfl⟩ := keyD_some e2
  obtain ⟨l, vs, h1, ⟨ads, hv, hl, hk⟩, h3⟩ := rp.2.2 i kvs (dctAt_some e1)
  refine h O σ H ρ dk rp e3 _ fun y H' s hy => ⟨_, h1, ?_⟩
  obtain ⟨b, rfl, hb⟩ := key_tup hy e4
  refine ⟨l, ads, ks, b, rfl, ⟨s _ _ hl, fun e he => ((hk e he).same s).sq⟩, rfl, hb.sq, ?_⟩
  rw [← vsOf_val, ← hv, kvd_some h3]
  exact q _ H' s (.bl _)
/-- a key of two ints, made at once -/
def key2 (f g : Ev → Option PyData) : Ev → Option (List Key) := fun ρ => ((f ρ).bind asI).bind fun a => ((g ρ).bind asI).map fun b => [Sum.inl a, Sum.inl b]
theorem keyD_of2 {f g : Ev → Option PyData} {ρ : Ev} {k : List Key} (h : key2 f g ρ = some k) : keyD (dTup (dCons f (dCons g dNil))) ρ = some k := by
  obtain ⟨a, e1, e⟩ := bind_some h
  obtain ⟨b, e2, e⟩ := map_some e
  subst e
  obtain ⟨x, e3, e1⟩ := bind_some e1
  cases asI_some e1
  obtain ⟨y, e4, e2⟩ := bind_some e2
  cases asI_some e2
  simp [keyD, dTup, dCons, dNil, e3, e4, asKey, asInts]
def dDGet (i : Nat) (f g : Ev → Option PyData) : Ev → Option PyData := fun ρ => (dctAt i ρ).bind fun kvs => (key2 f g ρ).bind fun k => valD kvs k
theorem ev_dget {i : Nat} {ta tb : TE} {f g : Ev → Option PyData} (ha : EvE K ta f) (hb : EvE K tb g) : EvE K (tDGetI K (tVar i) (tTupF (tCons ta (tCons tb tNil)))) (dDGet i f g) := by
  intro O σ H ρ d rp e Q q
  refine ev_dgetK (ev_tup (ev_cons ha (ev_cons hb ev_nil))) O σ H ρ d rp ?_ Q q
  obtain ⟨kvs, e1, e⟩ := bind_some e
  obtain ⟨k, e2, e⟩ := bind_some e
  unfold dDGetK
  rw [e1, keyD_of2 e2]
  exact e
def sDNew (i : Nat) : Ev → Option Out := fun ρ => some (.nx (ρ.set i (.dct [])))
theorem s_dnew {i : Nat} : EvS K W cl (tAsg tDNewI (gName i)) (sDNew i) := by
  intro O_0 H_0 σ H ρ out D ⟨L, r⟩ e p
  cases e
  exact fun l hl => p _ _ ⟨_, r.newOwn (u := dcO l []) (same_new hl) hl upd_same trivial i rfl (fun ds z => by cases z) (fun ds z => by cases z; exact ⟨[], ⟨[], rfl, upd_same, fun e he => nomatch he⟩, by simp, .nil⟩)⟩
def sDPutK (i : Nat) (f h : Ev → Option PyData) : Ev → Option Out := fun ρ => (dctAt i ρ).bind fun kvs => (keyD f ρ).bind fun k => (h ρ).bind fun d => if kvs.length < 65536 then some (.nx (ρ.set i (.dct (putD kvs k d)))) else none
theorem putD_len (kvs : List (List Key × PyData)) (k : List Key) (d : PyData) : (putD kvs k d).length ≤ kvs.length + 1 := by
  unfold putD
  split
  · rw [List.length_map]; omega
  · rw [List.length_append]; simp
theorem s_dputK {i : Nat} {t tv : TE} {f h : Ev → Option PyData} (ha : EvE K t f) (hv : EvE K tv h) : EvS K W cl (sDPutI K (tVar i) t tv) (sDPutK i f h) := by
  intro O_0 H_0 σ H ρ out D ⟨L, r⟩ e p
  obtain ⟨kvs, e1, e⟩ := bind_some e
  obtain ⟨k, e2, e⟩ := bind_some e
  obtain ⟨d, e3, e⟩ := bind_some e
  obtain ⟨dk, ks, e4, e5, rfl⟩ := keyD_some e2
  split at e
  · rename_i hz
    cases e
    obtain ⟨l, vs, h1, h2, ⟨ads, hv', hl, hk⟩, h4, h5⟩ := r.dw i kvs (dctAt_some e1)
    refine hv (L ++ O_0) σ H ρ d r.strong e3 _ fun v H1 s1 hd => ?_
    refine ⟨_, h1, ha (L ++ O_0) σ H1 ρ dk (r.strong.same s1) e4 _ fun y H2 s2 hy => ?_⟩
    obtain ⟨b, rfl, hb⟩ := key_tup hy e5
    have s12 := s1.trans s2
    have hln := kvd_len h5
    have hkk : KvD K (hid (L ++ O_0) H2) (putK vs (ks.map Sum.inl) v) (putD kvs (ks.map Sum.inl) d) := kvd_put (h5.same (hid_same s12)) (hd.same (hid_same s2))
    have hpl := putD_len kvs (ks.map Sum.inl) d
    have hal : ads.length = vs.length := by rw [hv']; unfold vsOf; rw [List.length_map]
    have hk2 : ∀ e ∈ ads, TupOk K H2 e.2.1 (e.1.map V.int) := fun e he => (hk e he).same s12
    refine ⟨l, ads, ks, b, rfl, ⟨s12 _ _ hl, fun e he => (hk2 e he).sq⟩, rfl, hb.sq, by rw [sizeLine_eq]; omega, p σ _ ⟨L, (r.step s12).changeOwn (dctAt_some e1) rfl rfl h1 trivial (fun ds z => by cases z) (fun ds z => by
      cases z
      refine ⟨_, ?_, by rw [kvd_len hkk]; omega, hkk⟩
      have hmu : Mut (H2 l) := by rw [s12 _ _ hl]; exact True.intro
      refine ⟨putI ads ks b v, by rw [hv']; exact vsOf_put ads ks b v, upd_same, fun e he => ?_⟩
      rcases putI_keys hk2 hb e he with ⟨o, g, dd⟩ | g
      · refine .inl ⟨o, ?_, dd⟩
        rw [upd_ne]; exact g
        intro z; rw [← z, g] at hmu; exact hmu
      · exact .inr g)⟩⟩
  · cases e
def sDPut' (i : Nat) (f g h : Ev → Option PyData) : Ev → Option Out := fun ρ => (dctAt i ρ).bind fun kvs => (key2 f g ρ).bind fun k => (h ρ).bind fun d => if kvs.length < 65536 then some (.nx (ρ.set i (.dct (putD kvs k d)))) else none
theorem s_dput {i : Nat} {ta tb tv : TE} {f g h : Ev → Option PyData} (ha : EvE K ta f) (hb : EvE K tb g) (hv : EvE K tv h) : EvS K W cl (sDPutI K (tVar i) (tTupF (tCons ta (tCons tb tNil))) tv) (sDPut' i f g h) := by
  intro O_0 H_0 σ H ρ out D rr e p
  refine s_dputK (ev_tup (ev_cons ha (ev_cons hb ev_nil))) hv O_0 H_0 σ H ρ out D rr ?_ p
  obtain ⟨kvs, e1, e⟩ := bind_some e
  obtain ⟨k, e2, e⟩ := bind_some e
  unfold sDPutK
  rw [e1, keyD_of2 e2]
  exact e

/-! ### several targets -/
theorem RepL.strongWith {O_0 : List Addr} {H_0 : Hp} {L : List Addr} {σ : St} {H H' : Hp} {ρ : Ev} {l : Addr} {vs : List V} (r : RepL K O_0 H_0 L σ H ρ) (s : Same H H') (hn : H l = none) (hl : H' l = some (.lst vs)) : RepD K (l :: (L ++ O_0)) σ H' ρ := by
  have h0 : Same (hid (L ++ O_0) H) (hid (l :: (L ++ O_0)) H') := by
    rw [← hid_out_new hn]
    exact hid_same s
  refine ⟨fun b hb => ?_, r.sl.same h0, fun i kvs e => ?_⟩
  · rcases List.mem_cons.mp hb with z | z
    · rw [z]; exact ⟨_, hl, trivial⟩
    · exact (r.tr.same s) b z
  · obtain ⟨l', ws, h1, h2, h3⟩ := r.strong.2.2 i kvs e
    exact ⟨l', ws, h1, h2.same s, h3.same h0⟩
/-- a, b = x, y: data both -/
def sPar (i j : Nat) (f g : Ev → Option PyData) : Ev → Option Out := fun ρ => (f ρ).bind fun a => (g ρ).bind fun b => some (.nx ((ρ.set i (.dat a)).set j (.dat b)))
theorem s_par {i j : Nat} {ta tb : TE} {f g : Ev → Option PyData} (ha : EvE K ta f) (hb : EvE K tb g) : EvS K W cl (tPar i j (tCons ta (tCons tb tNil))) (sPar i j f g) := by
  intro O_0 H_0 σ H ρ out D ⟨L, r⟩ e p
  obtain ⟨a, e1, e⟩ := bind_some e
  obtain ⟨b, e2, e⟩ := bind_some e
  cases e
  refine ha _ σ H ρ a r.strong e1 _ fun v H1 s1 h1 => hb _ σ H1 ρ b (r.step s1).strong e2 _ fun u H2 s2 h2 => ?_
  exact ⟨v, u, rfl, p _ H2 ⟨L, ((r.step (s1.trans s2)).setDat (h1.same (hid_same s2))).setDat h2⟩⟩
/-- a, b = a new list, y -/
def sParO (i j : Nat) (f : Ev → Option (List PyData)) (g : Ev → Option PyData) : Ev → Option Out := fun ρ => (f ρ).bind fun a => (g ρ).bind fun b => some (.nx ((ρ.set i (.own a)).set j (.dat b)))
theorem s_parO {i j : Nat} {ta tb : TE} {f : Ev → Option (List PyData)} {g : Ev → Option PyData} (ha : EvF K ta f) (hb : EvE K tb g) : EvS K W cl (tPar i j (tCons ta (tCons tb tNil))) (sParO i j f g) := by
  intro O_0 H_0 σ H ρ out D ⟨L, r⟩ e p
  obtain ⟨a, e1, e⟩ := bind_some e
  obtain ⟨b, e2, e⟩ := bind_some e
  cases e
  refine ha _ σ H ρ a r.strong e1 _ fun l vs H1 s1 hn hl hz da => hb (l :: (L ++ O_0)) σ H1 ρ b (r.strongWith s1 hn hl) e2 _ fun u H2 s2 h2 => ?_
  exact ⟨_, u, rfl, p _ H2 ⟨_, (r.own (s1.trans s2) hn (s2 _ _ hl) hz (da.same (hid_same s2)) i).setDat h2⟩⟩
/-- a, b, c = x, y, z: data -/
def sPar3 (i j k : Nat) (f g h : Ev → Option PyData) : Ev → Option Out := fun ρ => (f ρ).bind fun a => (g ρ).bind fun b => (h ρ).bind fun c => some (.nx (((ρ.set i (.dat a)).set j (.dat b)).set k (.dat c)))
theorem s_par3 {i j k : Nat} {ta tb tc : TE} {f g h : Ev → Option PyData} (ha : EvE K ta f) (hb : EvE K tb g) (hc : EvE K tc h) : EvS K W cl (tPar3 i j k (tCons ta (tCons tb (tCons tc tNil)))) (sPar3 i j k f g h) := by
  intro O_0 H_0 σ H ρ out D ⟨L, r⟩ e p
  obtain ⟨a, e1, e⟩ := bind_some e
  obtain ⟨b, e2, e⟩ := bind_some e
  obtain ⟨c, e3, e⟩ := bind_some e
  cases e
  refine ha _ σ H ρ a r.strong e1 _ fun v H1 s1 h1 => hb _ σ H1 ρ b (r.step s1).strong e2 _ fun u H2 s2 h2 => hc _ σ H2 ρ c (r.step (s1.trans s2)).strong e3 _ fun w H3 s3 h3 => ?_
  exact ⟨v, u, w, rfl, p _ H3 ⟨L, (((r.step ((s1.trans s2).trans s3)).setDat (h1.same (hid_same (s2.trans s3)))).setDat (h2.same (hid_same s3))).setDat h3⟩⟩
/-- a, b, c = [], an int, [] by a tuple -/
def sOIO (i j k : Nat) (n : Int) : Ev → Option Out := fun ρ => some (.nx (((ρ.set i (.own [])).set j (.dat (.int n))).set k (.own [])))
theorem s_oio {i j k : Nat} {n : Int} : EvS K W cl (tAsg (tTupF (tCons (tLst tNil) (tCons (tC (.int n)) (tCons (tLst tNil) tNil)))) (gTup K 3 (gNames [i, j, k]))) (sOIO i j k n) := by
  intro O_0 H_0 σ H ρ out D ⟨L, r⟩ e p
  cases e
  refine ⟨by decide, fun l1 n1 => ⟨by decide, fun l2 n2 => ⟨by show 3 ≤ sizeLine; decide, fun t o nt ho => ?_⟩⟩⟩
  refine ⟨t, _, rfl, .inl (.inr ⟨o, upd_same⟩), rfl, ?_⟩
  have ne2 : l1 ≠ l2 := fun z => by rw [z, upd_same] at n2; cases n2
  have r1 := r.own (same_new n1) n1 upd_same (by simp) .nil i
  have r2 := (r1.setDat (i := j) (.int n)).own (same_new n2) n2 upd_same (by simp) .nil k
  exact ⟨_, _, rfl, _, _, rfl, _, _, rfl, rfl, p _ _ ⟨_, r2.step (same_new nt)⟩⟩

/-! ### what raises -/
def EvR (K : PySem.W.Frag) (W : WX) (cl : Nat → Value) (t : TE) (f : Ev → Option (Except Nat PyData)) : Prop :=
  ∀ (O : List Addr) (σ : St) (H : Hp) (ρ : Ev) (r : Except Nat PyData), RepD K O σ H ρ → f ρ = some r → ∀ Q : VK, (∀ d, r = .ok d → ∀ v H', Same H H' → Dt K (hid O H') v d → Q v H') → (∀ k, r = .error k → ∀ H', Same H H' → W (cl k) none σ H') → t σ H Q
def rOk (f : Ev → Option PyData) : Ev → Option (Except Nat PyData) := fun ρ => (f ρ).map .ok
theorem evr_of {t : TE} {f : Ev → Option PyData} (h : EvE K t f) : EvR K W cl t (rOk f) := by
  intro O σ H ρ r rp e Q q x
  obtain ⟨d, e1, e⟩ := map_some e
  subst e
  exact h O σ H ρ d rp e1 Q (q d rfl)
def spX (K : PySem.W.Frag) (cl : Nat → Value) (m : List PyData → Option (Except Nat PyData)) (n : Nat) : Sp := fun vs H Q E => vs.length = n ∧ ∃ (O : List Addr) (as : List PyData) (r : Except Nat PyData), Trk O H ∧ DtAll K (hid O H) vs as ∧ m as = some r ∧
  (∀ d, r = .ok d → ∀ v H', Same H H' → Dt K (hid O H') v d → Q v H') ∧ ∀ k, r = .error k → ∀ H', Same H H' → E (cl k) none H'
def dBR (m : List PyData → Option (Except Nat PyData)) (g : Ev → Option (List PyData)) : Ev → Option (Except Nat PyData) := fun ρ => (g ρ).bind m
theorem evr_call {m : List PyData → Option (Except Nat PyData)} {n : Nat} {t : TA} {g : Ev → Option (List PyData)} (h : EvA K t g) (hn : ∀ ρ as, g ρ = some as → as.length = n) : EvR K W cl (tCallS (spX K cl m n) (WE W) t) (dBR m g) := by
  intro O σ H ρ r rp e Q q x
  obtain ⟨as, e1, e⟩ := bind_some e
  refine h O σ H ρ as rp e1 _ fun xs H1 s1 h1 => ?_
  exact ⟨by rw [h1.length]; exact hn ρ as e1, O, as, r, rp.1.same s1, h1, e, fun d ed v H2 s2 h2 => q d ed v H2 (s1.trans s2) h2, fun k ek H2 s2 => x k ek H2 (s1.trans s2)⟩
def okD : Except Nat PyData → Option PyData
  | .ok d => some d
  | .error _ => none
/-- .. where it does not raise -/
def dBX (m : List PyData → Option (Except Nat PyData)) (g : Ev → Option (List PyData)) : Ev → Option PyData := fun ρ => ((g ρ).bind m).bind okD
theorem ev_callX {m : List PyData → Option (Except Nat PyData)} {n : Nat} {E : XK} {t : TA} {g : Ev → Option (List PyData)} (h : EvA K t g) (hn : ∀ ρ as, g ρ = some as → as.length = n) : EvE K (tCall (spX K cl m n) [] E t) (dBX m g) := by
  intro O σ H ρ d rp e Q q
  obtain ⟨r, e0, e⟩ := bind_some e
  obtain ⟨as, e1, e0⟩ := bind_some e0
  cases r with
  | error k => cases e
  | ok d' =>
    cases e
    refine h O σ H ρ as rp e1 _ fun xs H1 s1 h1 => ?_
    rw [List.append_nil]
    exact ⟨by rw [h1.length]; exact hn ρ as e1, O, as, .ok d, rp.1.same s1, h1, e0, fun d' ed v H2 s2 h2 => by cases ed; exact q v H2 (s1.trans s2) h2, fun k ek => by cases ek⟩
def rIf (c : Ev → Option Bool) (f g : Ev → Option (Except Nat PyData)) : Ev → Option (Except Nat PyData) := fun ρ => (c ρ).bind fun b => if b = true then f ρ else g ρ
theorem evr_if {t : TT} {ta tb : TE} {c : Ev → Option Bool} {f g : Ev → Option (Except Nat PyData)} (h : EvT K t c) (ha : EvR K W cl ta f) (hb : EvR K W cl tb g) : EvR K W cl (tIf t ta tb) (rIf c f g) := by
  intro O σ H ρ r rp e Q q x
  obtain ⟨b, e1, e⟩ := bind_some e
  refine h O σ H ρ b rp e1 _ fun H1 s1 => ?_
  cases b with
  | true => exact iteT (ha O σ H1 ρ r (rp.same s1) e Q (fun d ed v H2 s2 h2 => q d ed v H2 (s1.trans s2) h2) fun k ek H2 s2 => x k ek H2 (s1.trans s2))
  | false => exact iteF (hb O σ H1 ρ r (rp.same s1) e Q (fun d ed v H2 s2 h2 => q d ed v H2 (s1.trans s2) h2) fun k ek H2 s2 => x k ek H2 (s1.trans s2))
def sRetR (f : Ev → Option (Except Nat PyData)) : Ev → Option Out := fun ρ => (f (view ρ)).map fun r => match r with
  | .ok d => .rt d
  | .error k => .xc k ρ
theorem s_retR {te : TE} {f : Ev → Option (Except Nat PyData)} (h : EvR K W cl te f) : EvS K W cl (tRet te) (sRetR f) := by
  intro O_0 H_0 σ H ρ out D ⟨L, r⟩ e p
  obtain ⟨x, e1, e⟩ := map_some e
  subst e
  exact h O_0 σ H (view ρ) x r.view e1 _ (fun d ed v H' s hv => by subst ed; exact p v H' (r.sm.trans s) hv) fun k ek H' s => by subst ek; exact p σ H' ⟨L, r.step s⟩
def sExprR (f : Ev → Option (Except Nat PyData)) : Ev → Option Out := fun ρ => (f (view ρ)).map fun r => match r with
  | .ok _ => .nx ρ
  | .error k => .xc k ρ
theorem s_exprR {te : TE} {f : Ev → Option (Except Nat PyData)} (h : EvR K W cl te f) : EvS K W cl (tDrop te) (sExprR f) := by
  intro O_0 H_0 σ H ρ out D ⟨L, r⟩ e p
  obtain ⟨x, e1, e⟩ := map_some e
  subst e
  exact h O_0 σ H (view ρ) x r.view e1 _ (fun d ed v H' s hv => by subst ed; exact p σ H' ⟨L, r.step s⟩) fun k ek H' s => by subst ek; exact p σ H' ⟨L, r.step s⟩
def sSetR (i : Nat) (f : Ev → Option (Except Nat PyData)) : Ev → Option Out := fun ρ => (f ρ).map fun r => match r with
  | .ok d => .nx (ρ.set i (.dat d))
  | .error k => .xc k ρ
theorem s_setR {i : Nat} {te : TE} {f : Ev → Option (Except Nat PyData)} (h : EvR K W cl te f) : EvS K W cl (tAsg te (gName i)) (sSetR i f) := by
  intro O_0 H_0 σ H ρ out D ⟨L, r⟩ e p
  obtain ⟨x, e1, e⟩ := map_some e
  subst e
  exact h _ σ H ρ x r.strong e1 _ (fun d ed v H' s hv => by subst ed; exact p _ H' ⟨L, (r.step s).setDat hv⟩) fun k ek H' s => by subst ek; exact p σ H' ⟨L, r.step s⟩
def sRaise (k : Nat) : Ev → Option Out := fun ρ => some (.xc k ρ)
theorem s_raise {k : Nat} {C : Addr} (hc : cl k = .ref C) : EvS K W cl (fun _ σ H => (fun (_ : St) (H : Hp) (Q : XK) => Q (.ref C) none H) σ H fun cls d H' => W cls d σ H') (sRaise k) := by
  intro O_0 H_0 σ H ρ out D r e p
  cases e
  have := p σ H r
  rw [hc] at this
  exact this
def outX : Out → Option (Except Nat PyData)
  | .nx _ => some (.ok .none)
  | .rt d => some (.ok d)
  | .xc k _ => some (.error k)
  | _ => none
def fnX (n : Nat) (F : Ev → Option Out) (as : List PyData) : Option (Except Nat PyData) := (F (start0 n as)).bind outX
theorem body_runX {t : TS} {F : Ev → Option Out} {N : List Str} {m : List PyData → Option (Except Nat PyData)} {k : Nat} {vs : List V} {H : Hp} {Q : VK} {E : XK} (h : EvS K (fun cls d _ H => E cls d H) cl t F) (hm : ∀ as, m as = fnX N.length F as) (sp : spX K cl m k vs H Q E) :
    t { nx := fun _ H' => Q .non H', rt := Q } (L2.start N vs) H := by
  obtain ⟨_, O, as, r, tk, da, e, q, x⟩ := sp
  rw [hm] at e
  unfold fnX at e
  obtain ⟨o, e1, e2⟩ := bind_some e
  refine h O H _ H (start0 N.length as) o _ (Rep.start tk da) e1 ?_
  cases o with
  | nx ρ => cases e2; exact fun σ H' ⟨L, r⟩ => q .none rfl .non H' r.sm .non
  | rt d => cases e2; exact fun v H' s hv => q d rfl v H' s hv
  | bk ρ => cases e2
  | ct ρ => cases e2
  | xc k ρ => cases e2; exact fun σ H' ⟨L, r⟩ => x k rfl H' r.sm
end
end CS
namespace CS
open PySem L2
theorem fnok_none {P : Program} {w : World} {K : PySem.W.Frag} {mg : Str → Option Value} {base : Heap} {CX : CXT} {k n : Nat} {f : Addr} {fd : FuncData} {ps : List Str} (hn : ps.length = n) : FnOk P w K mg base CX k f fd ps (spD K (fun _ => none) n) :=
  ⟨fun vs H Q E h => h.1.trans hn.symm, fun A outer s H args us vs Q E hr he hb hv hs => by obtain ⟨_, O, as, d, _, _, e, _⟩ := hs; cases e⟩
/-- the script -/
def encS (ns : List Int) : PyData := .dict [(.list (ns.map PyData.int), .none)]
/-- law's: a list of at most 63 ints is handed in, True comes out -/
def spLaw (K : PySem.W.Frag) : Sp := fun vs H Q _ => ∃ (a : Addr) (ns : List Int), vs = [.ref a] ∧ SqL K H a (ns.map V.int) ∧ ns.length ≤ 63 ∧ ∀ H', Q (.bl true) H'
theorem law_imp {K : PySem.W.Frag} {m : List PyData → Option PyData} (h : ∀ ns : List Int, ns.length ≤ 63 → m [encS ns] = some (.bool true)) : ∀ vs H Q E, spLaw K vs H Q E → spD K m 1 vs H Q E := by
  rintro vs H Q E ⟨a, ns, rfl, hS, hl, q⟩
  refine ⟨rfl, [], [encS ns], .bool true, Trk.nil, .cons (.scr (by rw [hid_nil]; exact hS) (by rw [List.length_map]; omega) (DtAll.ints ns)) .nil, h ns hl, fun v H' s hv => ?_⟩
  cases hv
  exact q H'
end CS
/-! D10: a tuple backwards, pop into a tuple. -/
namespace HT
open PySem PyProof PyProof.Rows PySem.Spec
section
variable {prog : Program} {w : World} {A : Around} {E : Value → Shared → Prop} {s : Shared}
theorem rev_pick (xs : Array Value) : ((List.range xs.size).filterMap (fun (m : Nat) => xs[(((xs.size : Nat) : Int) - 1 + (m : Int) * (-1)).toNat]?)).toArray = xs.toList.reverse.toArray := by
  have e : ∀ m ∈ List.range xs.size, xs[(((xs.size : Nat) : Int) - 1 + (m : Int) * (-1)).toNat]? = xs.toList.reverse.toArray[m]? := by
    intro m hm
    have hm' : m < xs.size := List.mem_range.mp hm
    have e : (((xs.size : Nat) : Int) - 1 + (m : Int) * (-1)).toNat = xs.size - 1 - m := by omega
    rw [e, show xs.toList.reverse.toArray[m]? = xs.toList.reverse[m]? from by simp, List.getElem?_reverse (by rw [Array.length_toList]; exact hm'), Array.length_toList, Array.getElem?_toList]
  have fm : ∀ (l : List Nat) (f g : Nat → Option Value), (∀ m ∈ l, f m = g m) → l.filterMap f = l.filterMap g := by
    intro l f g h
    induction l with
    | nil => rfl
    | cons a t ih => rw [List.filterMap_cons, List.filterMap_cons, h a (List.mem_cons_self ..), ih fun m hm => h m (List.mem_cons_of_mem _ hm)]
  rw [fm _ _ _ e]
  have := pick_run xs.toList.reverse.toArray 0 xs.size
  simp only [Nat.zero_add, List.map_id', List.drop_zero] at this
  rw [this, List.take_of_length_le]
  simp
theorem getItem_tuple_rev {t sl : Addr} {items : Array Value} {vl vu vs : Value} {Q : Value → Shared → Prop} (ht : IsTup s.heap t items) (hs : s.heap.IsSliceOf sl vl vu vs) (pl : IsPart vl none) (pu : IsPart vu none) (ps : IsPart vs (some (-1)))
    (h : Q (.ref s.heap.objs.size) { s with heap := s.heap.push { cls := .type "tuple", data := .seq (items.toList.reverse).toArray } })
    (hsz : items.size ≤ sizeLine) : wpAny (model prog w) A (getItem (.ref t) (.ref sl)) Q E s := by
  have htake : sizeOk (.seq (items.toList.reverse).toArray) := by
    show (items.toList.reverse).toArray.size ≤ sizeLine
    rw [List.size_toArray, List.length_reverse, Array.length_toList]
    omega
  obtain ⟨os, hos, hcs, hds⟩ := id hs
  have hTs : s.TypeIs (.ref sl) "slice" := ⟨os, hos, hcs⟩
  unfold getItem
  try with_reducible refine wpAny_holding ?_
  first | refine wpAny_bind (wpAny_pure ?_) | skip
  refine wpAny_bind (wpAny_sequenceKey ht.typeIs (by decide) ?_)
  refine wpAny_bind (wpAny_callSpecial?_slot (name := Str.ofString "__getitem__") ht.typeIs PyProof.Rows.slot_tuple_getitem
    (wpAny_call_entry PyProof.Rows.slot_tuple_getitem ht.typeIs entry_tuple_getitem ?_ (args_tuple_getitem _ _)))
  show wpAny _ _ (Builtin.Tuple.tupleItemsOf (.ref t) >>= _) _ _ s
  refine wpAny_bind (tupleItemsOf_ ht ?_)
  refine wpAny_bind (wpAny_typeOf hTs ?_)
  rw [if_pos (by decide)]
  have sa : ∀ {Q : Int × Int × Nat → Shared → Prop}, Q (((items.size : Nat) : Int) - 1, -1, items.size) s → wpAny (model prog w) A.in1 (Builtin.Slice.sliceApplied (.ref sl) (pure ((items.size : Nat) : Int))) Q E s := by
    intro Q hq
    unfold Builtin.Slice.sliceApplied Builtin.Slice.sliceFields
    refine wpAny_bind (wpAny_bind (wpAny_field hos hds (x := vl) rfl (wpAny_bind (wpAny_field hos hds (x := vu) rfl (wpAny_bind (wpAny_field hos hds (x := vs) rfl (wpAny_pure ?_)))))))
    refine wpAny_bind (slicePart_ ps ?_)
    show wpAny _ _ (if ((-1 : Int) == 0) = true then _ else _) _ _ s
    rw [if_neg (by decide)]
    refine wpAny_bind (slicePart_ pl (wpAny_bind (slicePart_ pu (wpAny_bind (wpAny_pure ?_)))))
    have e : (match Builtin.Slice.sliceAdjust none none (-1) ((items.size : Nat) : Int) with | (lo, hi) => (pure (lo, (-1 : Int), Builtin.Slice.slicePlaces lo hi (-1)) : Sem (Int × Int × Nat))) = pure (((items.size : Nat) : Int) - 1, -1, items.size) := by
      simp only [Builtin.Slice.sliceAdjust, Builtin.Slice.slicePlaces]
      have h1 : (-1 : Int) < 0 := by decide
      simp only [h1, if_true]
      have h2 : ¬ ((-1 : Int) > 0) := by decide
      simp only [h2, if_false]
      have h3 : -(-1 : Int) = 1 := by decide
      rw [h3]
      simp only [Int.ediv_one]
      congr 3
      split <;> omega
    show wpAny _ _ (match Builtin.Slice.sliceAdjust none none (-1) ((items.size : Nat) : Int) with | (lo, hi) => (pure (lo, (-1 : Int), Builtin.Slice.slicePlaces lo hi (-1)) : Sem (Int × Int × Nat))) _ _ s
    rw [e]
    exact wpAny_pure hq
  refine wpAny_bind (sa ?_)
  have hno : ¬ ((((items.size : Nat) : Int) - 1 == 0 && (-1 : Int) == 1 && items.size == items.size) = true) := by
    simp
  show wpAny _ _ (if (((items.size : Nat) : Int) - 1 == 0 && (-1 : Int) == 1 && items.size == items.size) = true then _ else _) _ _ s
  rw [if_neg hno, rev_pick]
  first
    | exact wpAny_bind (m := Builtin.Tuple.tupleExact _) (wpAny_newObj_type (wpAny_pure ⟨_, rfl, wpAny_pure h⟩) htake)
    | exact wpAny_bind (m := Builtin.Tuple.tupleExact _) (wpAny_newObj_type (wpAny_bind (wpAny_pure (wpAny_pure ⟨_, rfl, wpAny_pure h⟩))) htake)
    | exact wpAny_bind (wpAny_bind (m := Builtin.Tuple.tupleExact _) (wpAny_newObj_type (wpAny_pure (wpAny_pure ⟨_, rfl, wpAny_pure h⟩)) htake))
    | exact wpAny_bind (wpAny_bind (m := Builtin.Tuple.tupleExact _) (wpAny_newObj_type (wpAny_pure ⟨_, rfl, wpAny_pure h⟩) htake))
end
end HT
namespace CS
open PySem L2 PyProof.Rows PySem.Spec
section
variable {X : Cx}
def tRevT (K : PySem.W.Frag) (te : TE) : TE := fun σ H Q => te σ H fun x H1 => ∃ a xs, x = .ref a ∧ SqT K H1 a xs ∧ NewT H1 xs.reverse Q
theorem pe_revT {e : Expr} {te : TE} {k : Nat} {p1 p2 p3 pos : Pos} (he : PE X e te) : PE X (.Subscript e (.Slice none none (some (.UnaryOp .USub (.Constant (.int 1) k p1) p2)) p3) pos) (tRevT X.K te) := by
  refine ⟨fun pins s σ H Q I h => ?_⟩
  refine Subscript_ (thn (he.run pins s σ H _ I h) fun v s1 ⟨x, H1, I1, r1, q1⟩ => ?_)
  obtain ⟨a, xs, ex, hx, q⟩ := q1
  subst ex
  cases r1
  have hst : PO X (some (.UnaryOp .USub (.Constant (.int 1) k p1) p2)) (tPart (tUn (rU fun i => .int (-i)) (tC (.int 1)))) := po_some (pe_un un_neg pe_int)
  refine wpAny_Slice (thn (po_none.run pins s1 σ H1 (fun o H2 => o = none ∧ H2 = H1) I1 ⟨rfl, rfl⟩) fun vl s2 ⟨l, H2, I2, pl, el, e2⟩ => ?_)
  subst el e2
  refine thn (po_none.run pins s2 σ H2 (fun o H3 => o = none ∧ H3 = H2) I2 ⟨rfl, rfl⟩) fun vu s3 ⟨u, H3, I3, pu, eu, e3⟩ => ?_
  subst eu e3
  refine thn (hst.run pins s3 σ H3 (fun o H4 => o = some (-1) ∧ H4 = H3) I3 ⟨1, rfl, -1, rfl, rfl, rfl⟩) fun vs s4 ⟨o, H4, I4, ps, eo, e4⟩ => ?_
  subst eo e4
  have I5 : Inv X pins σ H4 { s4 with heap := s4.heap.push { cls := .type "slice", data := .fields #[vl, vu, vs] } } := I4.kept (t' := s4.toks) fun b ob q => Heap.get?_push_of_some _ q
  obtain ⟨its, r, ht, hz⟩ := I5.tuple hx
  have hlen := r.length
  show wpAny (model X.prog X.w) X.A (subscriptTail e (.Slice none none (some (.UnaryOp .USub (.Constant (.int 1) k p1) p2)) p3) (.ref a) (.ref s4.heap.objs.size)) (EP X pins σ Q) X.xe { s4 with heap := s4.heap.push { cls := .type "slice", data := .fields #[vl, vu, vs] } }
  refine tail_any (ops := [.ref a, .ref s4.heap.objs.size]) ht.typeIs (PyProof.Rows.slot_tuple_getitem.lookup) ?_ (by with_unfolding_all rfl)
  refine HT.getItem_tuple_rev ht (Heap.IsSliceOf.new _ vl vu vs) pl pu ps ?_ (by rw [List.size_toArray]; omega)
  exact ⟨.ref _, _, tnew I5 s4.toks r.reverse (by rw [List.length_reverse]; exact hz), rfl, q _ _ (I5.hok.fresh (Nat.le_refl _)) rfl⟩
end
section
variable {K : PySem.W.Frag} {W : WX} {cl : Nat → Value}
def dRevT (f : Ev → Option PyData) : Ev → Option PyData := fun ρ => (f ρ).bind fun a => match a with
  | .tuple ds => some (.tuple ds.reverse)
  | _ => none
theorem ev_revT {te : TE} {f : Ev → Option PyData} (h : EvE K te f) : EvE K (tRevT K te) (dRevT f) := by
  intro O σ H ρ d rp e Q q
  obtain ⟨a, e1, e⟩ := bind_some e
  refine h O σ H ρ a rp e1 _ fun x H1 s1 h1 => ?_
  cases h1 with
  | tup g1 g2 g3 =>
    cases e
    exact ⟨_, _, rfl, (TupOk.same (hid_sub O H1) g1).sq, fun p o hp hd => q _ _ (s1.trans (same_new hp)) (Dt.newTup (rp.1.same s1) hp hd g3.reverse (by rw [List.length_reverse]; exact g2))⟩
  | _ => cases e
/-- x = x + (xs.pop(k),) -/
def sPopTup (j i : Nat) (f : Ev → Option PyData) : Ev → Option Out := fun ρ => (ownAt i ρ).bind fun ds => ((f (view ρ)).bind asI).bind fun k => (dVar j ρ).bind fun x =>
  if 0 ≤ k ∧ k < ds.length ∧ i ≠ j then (ds[k.toNat]?).bind fun d => (pAdd x (.tuple [d])).map fun z => .nx ((ρ.set i (.own (ds.eraseIdx k.toNat))).set j (.dat z)) else none
theorem s_popTup {i j : Nat} {te : TE} {f : Ev → Option PyData} (h : EvE K te f) : EvS K W cl (tAsg (tOp (rAddD K) (tVar j) (tTupF (tCons (tBM K "list" rPopAt (tVar i) (tCons te tNil)) tNil))) (gName j)) (sPopTup j i f) := by
  intro O_0 H_0 σ H ρ out D ⟨L, r⟩ e p
  obtain ⟨ds, e1, e⟩ := bind_some e
  obtain ⟨k, e2, e⟩ := bind_some e
  obtain ⟨a, e3, e2⟩ := bind_some e2
  obtain ⟨x, e5, e⟩ := bind_some e
  cases asI_some e2
  split at e
  · rename_i hk
    obtain ⟨d, e4, e⟩ := bind_some e
    obtain ⟨z, e6, e⟩ := map_some e
    subst e
    obtain ⟨l, vs, h1, h2, h3, h4, h5⟩ := r.ow i ds (ownAt_some e1)
    obtain ⟨xv, hx1, hx2⟩ := r.sl.2 j x (dVar_some e5)
    refine ⟨xv, hx1, _, h1, tyL h3, h O_0 σ H (view ρ) _ r.view e3 _ fun v H' s hv => ?_⟩
    cases hv
    have hl := h5.length
    obtain ⟨y, ey, hy⟩ := h5.get e4
    have hz : (vs.eraseIdx k.toNat).length ≤ 65536 := by
      rw [List.length_eraseIdx]
      split <;> omega
    have c := (r.step s).change (ownAt_some e1) h1 hz ((h5.same (hid_same s)).eraseIdx k.toNat)
    have hh : hid (L ++ O_0) (upd H' l (.lst (vs.eraseIdx k.toNat))) = hid (L ++ O_0) H' := hid_mem (List.mem_append_left _ h2)
    refine ⟨l, vs, k, k.toNat, y, rfl, rfl, s _ _ h3, by omega, by omega, ?_, ey, ?_⟩
    · have h0 : ¬ k < 0 := by omega
      have h1 : k < (vs.length : Int) := by omega
      unfold seqIndex?
      simp [h0, h1, hk.1]
    · refine ⟨by show 1 ≤ sizeLine; decide, fun t o ht ho => ?_⟩
      have c2 := c.step (same_new (o := .frz o (.tup [y])) ht)
      have hy2 : DtAll K (hid (L ++ O_0) (upd H' l (.lst (vs.eraseIdx k.toNat)))) [y] [d] := .cons (by rw [hh]; exact hy.same (hid_same s)) .nil
      have htup := Dt.newTup (K := K) c.tr ht ho hy2 (by show 1 ≤ 65536; decide)
      have hx3 := (hx2.same (hid_same s))
      rw [← hh] at hx3
      refine e2_add (L ++ O_0) _ xv (.ref t) x (.tuple [d]) z c2.tr (hx3.same (hid_same (same_new ht))) htup e6 _ fun v H4 s4 hv => p _ H4 ⟨L, (c2.step s4).setDat hv⟩
  · cases e
end
end CS
/-! D11: a def that puts data to the end of its caller's list, and calls itself. -/
namespace CS
open PySem L2
section
variable {K : PySem.W.Frag} {W : WX} {cl : Nat → Value}
/-- the def changes the list at l; O: what else the callers own -/
def spExt (K : PySem.W.Frag) (m : PyData → PyData → List PyData → PyData → Option (List PyData)) : Sp := fun vs H Q E => vs.length = 4 ∧ ∃ (O : List Addr) (l : Addr) (S Od M : PyData) (ds ds' : List PyData) (sv ov mv : V) (ys : List V),
  vs = [sv, ov, .ref l, mv] ∧ l ∉ O ∧ Trk (l :: O) H ∧ Dt K (hid (l :: O) H) sv S ∧ Dt K (hid (l :: O) H) ov Od ∧ Dt K (hid (l :: O) H) mv M ∧ H l = some (.lst ys) ∧ ys.length ≤ 65536 ∧ DtAll K (hid (l :: O) H) ys ds ∧ m S Od ds M = some ds' ∧
  ∀ H' ys', Same (hid [l] H) H' → H' l = some (.lst ys') → ys'.length ≤ 65536 → DtAll K (hid (l :: O) H') ys' ds' → Q .non H'
def extGo (c2 : Ev → Option Bool) (self : PyData → PyData → List PyData → PyData → Option (List PyData)) (S Od M : PyData) : List PyData → List PyData → Option (List PyData)
  | [], ds => some ds
  | k :: ks, ds => (c2 [.dat S, .dat Od, .dat (.list ds), .dat M, .dat k]).bind fun b => if b = true then (pAdd Od (.tuple [k])).bind fun Od' => (self S Od' ds M).bind fun ds1 => extGo c2 self S Od M ks ds1 else extGo c2 self S Od M ks ds
def extD (c1 c2 : Ev → Option Bool) : Nat → PyData → PyData → List PyData → PyData → Option (List PyData)
  | 0 => fun _ _ _ _ => none
  | n + 1 => fun S Od ds M => (c1 [.dat S, .dat Od, .dat (.list ds), .dat M, .no]).bind fun b => if b = true then (if ds.length < 65536 then some (ds ++ [Od]) else none) else
      ((pLen [S]).bind fun k => pRng [k]).bind fun is => extGo c2 (extD c1 c2 n) S Od M is ds
/-- how the slots stand -/
structure XR (K : PySem.W.Frag) (O : List Addr) (l : Addr) (H_0 : Hp) (S Od M : PyData) (c : Option PyData) (ds : List PyData) (σ : St) (H : Hp) : Prop where
  no : l ∉ O
  tr : Trk (l :: O) H
  len : σ.length = 5
  s0 : ∃ v, σ[0]? = some (some v) ∧ Dt K (hid (l :: O) H) v S
  s1 : ∃ v, σ[1]? = some (some v) ∧ Dt K (hid (l :: O) H) v Od
  s2 : σ[2]? = some (some (.ref l))
  s3 : ∃ v, σ[3]? = some (some v) ∧ Dt K (hid (l :: O) H) v M
  s4 : ∀ k, c = some k → ∃ v, σ[4]? = some (some v) ∧ Dt K (hid (l :: O) H) v k
  ls : ∃ ys, H l = some (.lst ys) ∧ ys.length ≤ 65536 ∧ DtAll K (hid (l :: O) H) ys ds
  sm : Same H_0 H
  h0 : H_0 l = none
def cOf : Option PyData → Cell
  | none => .no
  | some k => .dat k
variable {O : List Addr} {l : Addr} {H_0 H H' : Hp} {S Od M : PyData} {c : Option PyData} {ds ds' : List PyData} {σ : St}
theorem XR.step (r : XR K O l H_0 S Od M c ds σ H) (s : Same H H') : XR K O l H_0 S Od M c ds σ H' where
  no := r.no
  tr := r.tr.same s
  len := r.len
  s0 := let ⟨v, h1, h2⟩ := r.s0; ⟨v, h1, h2.same (hid_same s)⟩
  s1 := let ⟨v, h1, h2⟩ := r.s1; ⟨v, h1, h2.same (hid_same s)⟩
  s2 := r.s2
  s3 := let ⟨v, h1, h2⟩ := r.s3; ⟨v, h1, h2.same (hid_same s)⟩
  s4 := fun k e => let ⟨v, h1, h2⟩ := r.s4 k e; ⟨v, h1, h2.same (hid_same s)⟩
  ls := let ⟨ys, h1, h2, h3⟩ := r.ls; ⟨ys, s _ _ h1, h2, h3.same (hid_same s)⟩
  sm := r.sm.trans s
  h0 := r.h0
theorem hid_one (s : Same (hid [l] H) H') : Same (hid (l :: O) H) (hid (l :: O) H') := fun b o h => by
  obtain ⟨n, h⟩ := hid_some h
  rw [hid_out n]
  refine s b o ?_
  rw [hid_out]
  · exact h
  · intro z
    rw [List.mem_singleton] at z
    exact n (z ▸ List.mem_cons_self ..)
/-- the list has been changed -/
theorem XR.put (r : XR K O l H_0 S Od M c ds σ H) {ys' : List V} (s : Same (hid [l] H) H') (h1 : H' l = some (.lst ys')) (h2 : ys'.length ≤ 65536) (h3 : DtAll K (hid (l :: O) H') ys' ds') : XR K O l H_0 S Od M c ds' σ H' where
  no := r.no
  tr := fun b hb => by
    by_cases z : b = l
    · rw [z]; exact ⟨_, h1, trivial⟩
    · obtain ⟨o, e, m⟩ := r.tr b hb
      exact ⟨o, s b o (by rw [hid_out (by simpa using z)]; exact e), m⟩
  len := r.len
  s0 := let ⟨v, g1, g2⟩ := r.s0; ⟨v, g1, g2.same (hid_one s)⟩
  s1 := let ⟨v, g1, g2⟩ := r.s1; ⟨v, g1, g2.same (hid_one s)⟩
  s2 := r.s2
  s3 := let ⟨v, g1, g2⟩ := r.s3; ⟨v, g1, g2.same (hid_one s)⟩
  s4 := fun k e => let ⟨v, g1, g2⟩ := r.s4 k e; ⟨v, g1, g2.same (hid_one s)⟩
  ls := ⟨ys', h1, h2, h3⟩
  sm := fun b o e => by
    have z : b ≠ l := fun z => by rw [z, r.h0] at e; cases e
    exact s b o (by rw [hid_out (by simpa using z)]; exact r.sm b o e)
  h0 := r.h0
theorem XR.set4 (r : XR K O l H_0 S Od M c ds σ H) {v : V} {k : PyData} (h : Dt K (hid (l :: O) H) v k) : XR K O l H_0 S Od M (some k) ds (σ.set 4 (some v)) H where
  no := r.no
  tr := r.tr
  len := by rw [List.length_set]; exact r.len
  s0 := let ⟨w, g1, g2⟩ := r.s0; ⟨w, by rw [List.getElem?_set_ne (by decide)]; exact g1, g2⟩
  s1 := let ⟨w, g1, g2⟩ := r.s1; ⟨w, by rw [List.getElem?_set_ne (by decide)]; exact g1, g2⟩
  s2 := by rw [List.getElem?_set_ne (by decide)]; exact r.s2
  s3 := let ⟨w, g1, g2⟩ := r.s3; ⟨w, by rw [List.getElem?_set_ne (by decide)]; exact g1, g2⟩
  s4 := fun k' e => by
    cases e
    exact ⟨v, by rw [List.getElem?_set_self (by rw [r.len]; decide)], h⟩
  ls := r.ls
  sm := r.sm
  h0 := r.h0
/-- its own list not seen -/
theorem XR.repH (r : XR K O l H_0 S Od M c ds σ H) : RepD K (l :: O) σ H [.dat S, .dat Od, .no, .dat M, cOf c] := by
  refine ⟨r.tr, ⟨r.len, fun i d e => ?_⟩, fun i kvs e => ?_⟩
  · match i, e with
    | 0, e => cases e; exact r.s0
    | 1, e => cases e; exact r.s1
    | 2, e => cases e
    | 3, e => cases e; exact r.s3
    | 4, e =>
      cases hc : c with
      | none => rw [hc] at e; cases e
      | some k => rw [hc] at e; cases e; exact r.s4 _ hc
    | i + 5, e => cases e
  · match i, e with
    | 0, e => cases e
    | 1, e => cases e
    | 2, e => cases e
    | 3, e => cases e
    | 4, e => cases c <;> cases e
    | i + 5, e => cases e
/-- its own list as data -/
theorem XR.repD (r : XR K O l H_0 S Od M c ds σ H) : RepD K O σ H [.dat S, .dat Od, .dat (.list ds), .dat M, cOf c] := by
  have sub : Same (hid (l :: O) H) (hid O H) := fun b o h => by
    obtain ⟨n, h⟩ := hid_some h
    rw [hid_out (fun z => n (List.mem_cons_of_mem _ z))]
    exact h
  have tO : Trk O H := fun b hb => r.tr b (List.mem_cons_of_mem _ hb)
  refine ⟨tO, ⟨r.len, fun i d e => ?_⟩, fun i kvs e => ?_⟩
  · match i, e with
    | 0, e => cases e; obtain ⟨v, h1, h2⟩ := r.s0; exact ⟨v, h1, h2.same sub⟩
    | 1, e => cases e; obtain ⟨v, h1, h2⟩ := r.s1; exact ⟨v, h1, h2.same sub⟩
    | 2, e =>
      cases e
      obtain ⟨ys, h1, h2, h3⟩ := r.ls
      exact ⟨_, r.s2, .lst (by rw [hid_out r.no]; exact h1) h2 (h3.same sub)⟩
    | 3, e => cases e; obtain ⟨v, h1, h2⟩ := r.s3; exact ⟨v, h1, h2.same sub⟩
    | 4, e =>
      cases hc : c with
      | none => rw [hc] at e; cases e
      | some k => rw [hc] at e; cases e; obtain ⟨v, h1, h2⟩ := r.s4 _ hc; exact ⟨v, h1, h2.same sub⟩
    | i + 5, e => cases e
  · match i, e with
    | 0, e => cases e
    | 1, e => cases e
    | 2, e => cases e
    | 3, e => cases e
    | 4, e => cases c <;> cases e
    | i + 5, e => cases e
theorem ext_run {t1 t2 : TT} {c1 c2 : Ev → Option Bool} (h1 : EvT K t1 c1) (h2 : EvT K t2 c2) {N : List Str} (hN : N.length = 5) {n : Nat} {vs : List V} {Q : VK} {E : XK} (sp : spExt K (extD c1 c2 (n + 1)) vs H Q E) :
    (tSeq (tIfS t1 (tSeq (tDrop (tBM K "list" rAppend (tVar 2) (tCons (tVar 1) tNil))) tRetN) tNext) (tFor (iRng1 (tCons (tCB (rLenD K) (tCons (tVar 0) tNil)) tNil)) (gName 4)
      (tIfS t2 (tDrop (tCall (spExt K (extD c1 c2 n)) [] E0 (tCons (tVar 0) (tCons (tOp (rAddD K) (tVar 1) (tTupF (tCons (tVar 4) tNil))) (tCons (tVar 2) (tCons (tVar 3) tNil)))))) tNext))) { nx := fun _ H' => Q .non H', rt := Q } (L2.start N vs) H := by
  obtain ⟨_, O, l, S, Od, M, ds, ds', sv, ov, mv, ys, rfl, hno, tr, d0, d1, d3, hl, hz, hy, e, q⟩ := sp
  have hst : L2.start N [sv, ov, .ref l, mv] = [some sv, some ov, some (.ref l), some mv, none] := by
    unfold L2.start
    rw [hN]; rfl
  rw [hst]
  have X0 : XR K O l (hid [l] H) S Od M none ds [some sv, some ov, some (.ref l), some mv, none] H :=
    ⟨hno, tr, rfl, ⟨_, rfl, d0⟩, ⟨_, rfl, d1⟩, rfl, ⟨_, rfl, d3⟩, fun _ z => (nomatch z), ⟨ys, hl, hz, hy⟩, hid_sub _ _, by unfold hid; rw [if_pos (List.mem_singleton.mpr rfl)]⟩
  have fin : ∀ {σ : St} {H' : Hp} {c : Option PyData}, XR K O l (hid [l] H) S Od M c ds' σ H' → Q .non H' := fun r => by
    obtain ⟨ys', g1, g2, g3⟩ := r.ls
    exact q _ ys' r.sm g1 g2 g3
  simp only [extD] at e
  obtain ⟨b, e1, e⟩ := bind_some e
  refine h1 O _ H _ b X0.repD e1 _ fun H1 s1 => ?_
  have X1 := X0.step s1
  cases b with
  | true =>
    rw [if_pos rfl] at e
    split at e
    · rename_i hlen
      cases e
      obtain ⟨ys1, g1, g2, g3⟩ := X1.ls
      have gl := g3.length
      obtain ⟨ov1, o1, o2⟩ := X1.s1
      refine iteT ⟨_, rfl, tyL g1, ov1, o1, l, ys1, ov1, rfl, rfl, g1, by rw [sizeLine_eq]; omega, ?_⟩
      have sU : Same (hid [l] H1) (upd H1 l (.lst (ys1 ++ [ov1]))) := fun b o h => by
        obtain ⟨n, h⟩ := hid_some h
        rw [upd_ne (fun z => n (by rw [z]; exact List.mem_singleton.mpr rfl))]
        exact h
      have X2 := X1.put sU upd_same (by rw [List.length_append]; simp; omega) ((g3.append (.cons o2 .nil)).same (hid_one sU))
      exact fin X2
    · cases e
  | false =>
    rw [if_neg Bool.false_ne_true] at e
    obtain ⟨is, e2, e⟩ := bind_some e
    refine iteF ?_
    unfold tNext
    dsimp only
    unfold tFor
    have hw : dRng (dCons (dB pLen (dCons (dVar 0) dNil)) dNil) [.dat S, .dat Od, .dat (.list ds), .dat M, .no] = some is := by
      obtain ⟨k, e3, e4⟩ := bind_some e2
      show ((((((some S).bind fun a => (some []).bind fun as => some (a :: as)).bind pLen).bind fun a => (some []).bind fun as => some (a :: as))).bind pRng) = some is
      simp only [Option.bind_some, e3]
      exact e4
    refine evi_rng1R (ev_cons (ev_B evl_len (ev_cons (ev_var 0) ev_nil)) ev_nil) O _ H1 _ is X1.repD hw _ fun J H2 s2 hlen Fd => ?_
    refine ⟨fun i m σ H' => m = is.length - i ∧ i ≤ is.length ∧ ∃ (c : Option PyData) (di : List PyData), XR K O l (hid [l] H) S Od M c di σ H' ∧ extGo c2 (extD c1 c2 n) S Od M (is.drop i) di = some ds', ⟨is.length, by simp, Nat.zero_le _, none, ds, X1.step s2, by simpa using e⟩, ?_⟩
    rintro i m σ3 H3 ⟨rfl, hil, c, di, X3, e3⟩
    obtain ⟨F1, F2⟩ := Fd O H3 i O H3 (Same.refl _) (fun b hb => X3.tr b (List.mem_cons_of_mem _ hb))
    by_cases hlt : i < is.length
    · obtain ⟨k, ek⟩ : ∃ k, is[i]? = some k := ⟨is[i], List.getElem?_eq_getElem hlt⟩
      obtain ⟨go, yl⟩ := F1 k ek
      have ekk : is[i] = k := by
        have := List.getElem?_eq_getElem hlt
        rw [ek] at this
        exact (Option.some.inj this).symm
      rw [List.drop_eq_getElem_cons hlt, ekk] at e3
      unfold extGo at e3
      obtain ⟨b, eb, e3⟩ := bind_some e3
      refine .inr ⟨go, fun σ' H' => ∃ m', m' < is.length - i ∧ (m' = is.length - (i + 1) ∧ i + 1 ≤ is.length ∧ ∃ (c : Option PyData) (di : List PyData), XR K O l (hid [l] H) S Od M c di σ' H' ∧ extGo c2 (extD c1 c2 n) S Od M (is.drop (i + 1)) di = some ds'), fun _ _ z => z, fun x H4 y => ?_⟩
      obtain ⟨F3, _⟩ := Fd (l :: O) H3 i (l :: O) H3 (Same.refl _) X3.tr
      obtain ⟨s4, dx⟩ := (F3 k ek).2 x H4 y
      have dx : Dt K (hid (l :: O) H4) x k := dx.elim id fun z => nomatch z.1
      have X4 := (X3.step s4).set4 dx
      refine h2 O _ H4 _ b X4.repD eb _ fun H5 s5 => ?_
      have X5 := X4.step s5
      cases b with
      | false =>
        rw [if_neg Bool.false_ne_true] at e3
        refine iteF ?_
        exact ⟨is.length - (i + 1), by omega, rfl, hlt, _, _, X5, e3⟩
      | true =>
        rw [if_pos rfl] at e3
        obtain ⟨Od', eo, e3⟩ := bind_some e3
        obtain ⟨d1', ed, e3⟩ := bind_some e3
        refine iteT ?_
        obtain ⟨v0, a0, b0⟩ := X5.s0
        refine ⟨v0, a0, ?_⟩
        have hop : d2 pAdd (dVar 1) (dTup (dCons (dVar 4) dNil)) [.dat S, .dat Od, .no, .dat M, cOf (some k)] = some Od' := by
          show ((some Od).bind fun a => ((((some k).bind fun a => (some []).bind fun as => some (a :: as)).bind fun as => if as.length ≤ 65536 then some (PyData.tuple as) else none)).bind fun b => pAdd a b) = some Od'
          simpa using eo
        refine ev_op e2_add (ev_var 1) (ev_tup (ev_cons (ev_var 4) ev_nil)) (l :: O) _ H5 _ Od' X5.repH hop _ fun ov' H6 s6 ho => ?_
        have X6 := X5.step s6
        obtain ⟨v3, a3, b3⟩ := X6.s3
        obtain ⟨ys6, g1, g2, g3⟩ := X6.ls
        refine ⟨_, X6.s2, v3, a3, ?_⟩
        refine ⟨rfl, O, l, S, Od', M, di, d1', v0, ov', v3, ys6, rfl, X6.no, X6.tr, b0.same (hid_same s6), ho, b3, g1, g2, g3, ed, fun H7 ys7 s7 g4 g5 g6 => ?_⟩
        exact ⟨is.length - (i + 1), by omega, rfl, hlt, _, _, X6.put s7 g4 g5 g6, e3⟩
    · have hie : i = is.length := by omega
      rw [hie, List.drop_length] at e3
      cases e3
      exact .inl ⟨F2 hie, fin X3⟩
/-- extend(a, b, xs, c), xs this def's own list -/
def sExt4 (i : Nat) (m : PyData → PyData → List PyData → PyData → Option (List PyData)) (f g h : Ev → Option PyData) : Ev → Option Out := fun ρ => (ownAt i ρ).bind fun ds => (f ρ).bind fun a => (g ρ).bind fun b => (h ρ).bind fun c => (m a b ds c).map fun ds' => .nx (ρ.set i (.own ds'))
theorem s_ext4 {i : Nat} {m : PyData → PyData → List PyData → PyData → Option (List PyData)} {ta tb tc : TE} {f g h : Ev → Option PyData} (ha : EvE K ta f) (hb : EvE K tb g) (hc : EvE K tc h) :
    EvS K W cl (tDrop (tCall (spExt K m) [] E0 (tCons ta (tCons tb (tCons (tVar i) (tCons tc tNil)))))) (sExt4 i m f g h) := by
  intro O_0 H_0 σ H ρ out D ⟨L, r⟩ e p
  obtain ⟨ds, e1, e⟩ := bind_some e
  obtain ⟨a, e2, e⟩ := bind_some e
  obtain ⟨b, e3, e⟩ := bind_some e
  obtain ⟨c, e4, e⟩ := bind_some e
  obtain ⟨ds', e5, e⟩ := map_some e
  subst e
  obtain ⟨l, vs, h1, h2, h3, h4, h5⟩ := r.ow i ds (ownAt_some e1)
  refine ha (L ++ O_0) σ H ρ a r.strong e2 _ fun va H1 s1 d1 => ?_
  have r1 := r.step s1
  refine hb (L ++ O_0) σ H1 ρ b r1.strong e3 _ fun vb H2 s2 d2 => ?_
  have r2 := r1.step s2
  refine ⟨_, h1, ?_⟩
  refine hc (L ++ O_0) σ H2 ρ c r2.strong e4 _ fun vc H3 s3 d3 => ?_
  have r3 := r2.step s3
  have s13 := s1.trans (s2.trans s3)
  have mem : ∀ b, b ∈ l :: (L ++ O_0).filter (fun b => b ≠ l) ↔ b ∈ L ++ O_0 := fun b => by
    rw [List.mem_cons, List.mem_filter]
    constructor
    · rintro (z | z)
      · rw [z]; exact List.mem_append_left _ h2
      · exact z.1
    · intro z
      by_cases c : b = l
      · exact .inl c
      · exact .inr ⟨z, by simpa using c⟩
  have hh : ∀ H : Hp, hid (l :: (L ++ O_0).filter (fun b => b ≠ l)) H = hid (L ++ O_0) H := fun H => by
    funext b
    unfold hid
    by_cases c : b ∈ L ++ O_0
    · rw [if_pos c, if_pos ((mem b).mpr c)]
    · rw [if_neg c, if_neg (fun z => c ((mem b).mp z))]
  have hl3 : H3 l = some (.lst vs) := s13 _ _ h3
  refine ⟨rfl, (L ++ O_0).filter (fun b => b ≠ l), l, a, b, c, ds, ds', va, vb, vc, vs, rfl, ?_, ?_, ?_, ?_, ?_, hl3, h4, ?_, e5, fun H' ys' s4 g1 g2 g3 => ?_⟩
  · intro z
    have := (List.mem_filter.mp z).2
    simp at this
  · exact fun b hb => r3.tr b ((mem b).mp hb)
  · rw [hh]; exact d1.same (hid_same (s2.trans s3))
  · rw [hh]; exact d2.same (hid_same s3)
  · rw [hh]; exact d3
  · rw [hh]; exact h5.same (hid_same s13)
  · rw [hh] at g3
    have sU : Same H3 (upd H' l (.lst vs)) := fun b o h => by
      by_cases z : b = l
      · subst z
        rw [hl3] at h
        cases h
        exact upd_same
      · rw [upd_ne z]
        exact s4 b o (by rw [hid_out (by simpa using z)]; exact h)
    have rU := r3.step sU
    have hid2 : hid (L ++ O_0) (upd H' l (.lst vs)) = hid (L ++ O_0) H' := hid_mem (List.mem_append_left _ h2)
    have c := rU.change (ownAt_some e1) h1 g2 (by rw [hid2]; exact g3)
    have eU : upd (upd H' l (.lst vs)) l (.lst ys') = H' := by
      funext b
      by_cases z : b = l
      · rw [z, upd_same]; exact g1.symm
      · rw [upd_ne z, upd_ne z]
    rw [eU] at c
    exact p σ _ ⟨L, c⟩
theorem fnok_ext0 {P : Program} {w : World} {mg : Str → Option Value} {base : Heap} {CX : CXT} {k : Nat} {f : Addr} {fd : FuncData} {ps : List Str} {c1 c2 : Ev → Option Bool} (hn : ps.length = 4) : FnOk P w K mg base CX k f fd ps (spExt K (extD c1 c2 0)) :=
  ⟨fun vs H Q E h => h.1.trans hn.symm, fun A outer s H args us vs Q E hr he hb hv hs => by obtain ⟨_, O, l, S, Od, M, ds, ds', sv, ov, mv, ys, _, _, _, _, _, _, _, _, _, e, _⟩ := hs; cases e⟩
end
end CS
/-! D12: try: return f(..), except C as e: return a text that isinstance of e decides. -/
namespace CS
open PySem L2
/-- the suite is read for exceptions of the class D0 alone -/
def tsNo (D0 : Addr) (cls : Value) (d : Option Addr) (t : TS) : TS := fun E σ H => (cls = .ref D0 ∧ d = none) ∧ t E σ H
theorem tsNo_of {X : Cx} {ss : List Stmt} {cls : Value} {d : Option Addr} {D0 : Addr} {t : TS} (h : cls = .ref D0 → d = none → PSs X ss t) : PSs X ss (tsNo D0 cls d t) :=
  ⟨fun pins s σ H D I h' => (h h'.1.1 h'.1.2).run pins s σ H D I h'.2⟩
section
variable {K : PySem.W.Frag} {W : WX} {cl : Nat → Value}
def sTry (i : Nat) (f : Ev → Option (Except Nat PyData)) (hs : List (Nat × PyData)) : Ev → Option Out := fun ρ => if i < ρ.length then (f (view ρ)).bind fun r => match r with
  | .ok d => some (.rt d)
  | .error k => (hs.lookup k).map .rt else none
/-- isinstance(e, c) of the caught e, as a test -/
abbrev tIsE (K : PySem.W.Frag) (D a : Addr) (i : Nat) (C : Addr) : TT := tTruD K (tCB (rIsE K D a) (tCons (tVar i) (tCons (tC (.ref C)) tNil)))
theorem isE_run {D a C : Addr} {i : Nat} {b : Bool} (h : PySem.W.kitOne K (.ref D) (.ref C) = some b) {σ : St} {H : Hp} {Q : Bool → Hp → Prop} (hσ : σ[i]? = some (some (.ref a))) (q : Q b H) : tIsE K D a i C σ H Q := by
  refine ⟨_, hσ, ?_⟩
  refine ⟨_, _, b, rfl, fun u r => ?_, h, b, ?_, q⟩
  · cases r; rfl
  · first | exact .bl b | exact rfl | (unfold TruV; exact rfl)
theorem s_try1 {c : Value} {i : Nat} {te : WX → TE} {f : Ev → Option (Except Nat PyData)} {k0 : Nat} {D0 : Addr} {tt : Addr → TS} {z : Str} {Wout : WX} (hc0 : cl k0 = .ref D0) (hx : PySem.W.exmOne K (.ref D0) c = some true)
    (hz : z.length ≤ 65536) (hte : ∀ W, EvR K W cl (te W) f) (hsu : ∀ (a : Addr) (σ : St) (H : Hp) (E : Ends), σ[i]? = some (some (.ref a)) → E.rt (.str z) H → tt a E σ H) :
    EvS K W cl (fun D σ H => tRet (te (wAs K c i (fun a cls d => tsNo D0 cls d (tt a)) Wout D)) D σ H) (sTry i f [(k0, .str z)]) := by
  intro O_0 H_0 σ H ρ out D ⟨L, r⟩ e p
  unfold sTry at e
  split at e
  · rename_i hi
    obtain ⟨x, e1, e⟩ := bind_some e
    have hlen : i < σ.length := by
      have := r.view.2.1.1
      unfold view at this
      rw [List.length_map] at this
      omega
    refine hte _ O_0 σ H (view ρ) x r.view e1 _ (fun d ed v H' s hv => ?_) fun k ek H' s => ?_
    · subst ed
      cases e
      exact p v H' (r.sm.trans s) hv
    · subst ek
      have hk : k = k0 ∧ out = .rt (.str z) := by
        simp only [List.lookup_cons, List.lookup_nil] at e
        by_cases c : k = k0
        · subst c
          simp at e
          exact ⟨rfl, e.symm⟩
        · have c2 : (k == k0) = false := by simpa using c
          rw [c2] at e
          cases e
      obtain ⟨rfl, rfl⟩ := hk
      refine ⟨true, by rw [hc0]; exact hx, fun _ a _ => ⟨⟨hc0, rfl⟩, ?_⟩, fun z => (nomatch z)⟩
      exact hsu a _ H' _ (List.getElem?_set_self hlen) (p (.str z) H' (r.sm.trans s) (.str z hz))
  · cases e
/-- .. 'no' if e is a C1 and no C2 -/
theorem suite_no {D a C1 C2 : Addr} {i : Nat} {z z' : Str} (h1 : PySem.W.kitOne K (.ref D) (.ref C1) = some true) (h2 : PySem.W.kitOne K (.ref D) (.ref C2) = some false) (σ : St) (H : Hp) (E : Ends) (hσ : σ[i]? = some (some (.ref a))) (q : E.rt (.str z) H) :
    tRet (tIf (tAnd (tIsE K D a i C1) (tNot (tIsE K D a i C2))) (tC (.str z)) (tC (.str z'))) E σ H := by
  refine isE_run h1 hσ ?_
  refine iteT ?_
  refine isE_run h2 hσ ?_
  exact iteT q
theorem kit_of {D C : Addr} {b : Bool} (hs : PySem.W.subIn K (.ref D) (.ref D) = some true) (hd : PySem.W.hasDictIn K C = true) (ht : PySem.W.typeIn K (.ref C) = some (.type "type")) (h : PySem.W.subIn K (.ref D) (.ref C) = some b) : PySem.W.kitOne K (.ref D) (.ref C) = some b := by
  unfold PySem.W.kitOne
  by_cases c : ((Value.ref D) == (Value.ref C)) = true
  · have e : D = C := by simpa using c
    subst e
    rw [if_pos c]
    rw [hs] at h
    exact h
  · rw [if_neg c]
    obtain ⟨cd, hc, _⟩ := PySem.W.any_some hd
    have e2 : ((PySem.W.clsIn K C).isSome && PySem.W.typeIn K (.ref C) == some (.type "type")) = true := by rw [hc, ht] <;> rfl
    show (if ((PySem.W.clsIn K C).isSome && PySem.W.typeIn K (.ref C) == some (.type "type")) = true then PySem.W.subIn K (.ref D) (.ref C) else none) = some b
    rw [if_pos e2]
    exact h
end
end CS
/-! D13: several except clauses that give the exception the same name. -/
namespace CS
open PySem L2 PySem.Spec PyProof.Rows
/-- behind a suite that holds the exception in slot i -/
def offE (i : Nat) (D : Ends) : Ends := { nx := fun σ' H' => D.nx (σ'.set i none) H', rt := D.rt, bk := fun σ' H' => D.bk (σ'.set i none) H', ct := fun σ' H' => D.ct (σ'.set i none) H' }
abbrev Clause := Value × (Addr → Value → Option Addr → TS)
/-- the first clause whose class fits -/
def wFirst (K : PySem.W.Frag) (i : Nat) (Wout : WX) (D : Ends) : List Clause → WX
  | [] => Wout
  | p :: r => fun cls d σ H => ∃ b, PySem.W.exmOne K cls p.1 = some b ∧ (b = true → ∀ a, H a = none → p.2 a cls d (offE i D) (σ.set i (some (.ref a))) H) ∧ (b = false → wFirst K i Wout D r cls d σ H)
inductive Clauses (X : Cx) (n : Str) : List ExceptHandler → List Clause → Prop
  | nil : Clauses X n [] []
  | cons {x : Str} {c : Value} {ts : Addr → Value → Option Addr → TS} {b : Stmt} {bs : List Stmt} {np p2 : Pos} {hds : List ExceptHandler} {l : List Clause} (hc : Names X x c)
      (hu : ∀ (a : Addr) (oe : Obj) (cls : Value) (d : Option Addr) (pn : List (Addr × Obj)), Zc cls d oe → (∃ vs, oe.data = .fields vs) → PSs (X.suite a ((a, oe) :: pn)) (b :: bs) (ts a cls d)) (r : Clauses X n hds l) :
      Clauses X n (.ExceptHandler (some (.Name x np)) (some n) (b :: bs) p2 :: hds) ((c, ts) :: l)
section
variable {X : Cx} {n : Str} {i : Nat} {body : List Stmt} {h1 : ExceptHandler} {hds : List ExceptHandler} {l : List Clause} {pos : Pos} {tb : WX → TS} {Wout : WX}
theorem ps_tryAs (st : X.stack = X.env :: X.outer) (fr : X.env.frame = some X.env.locals) (nd : X.N.Nodup) (hi : X.N[i]? = some n) (lc : X.env.kindOf n = some .local) (tk : Takes X Wout)
    (hb : ∀ (W : WX) (pn : List (Addr × Obj)) (xe : Value → Shared → Prop), Takes (X.tr pn xe) W → PassesOwn (model X.prog X.w) X.A X.env xe → PSs (X.tr pn xe) body (tb W))
    (hc : Clauses X n (h1 :: hds) l) : PS X (.Try body (h1 :: hds) [] [] pos) (fun D σ H => tb (wFirst X.K i Wout D l) D σ H) := by
  constructor
  intro pins s σ H D I wish
  have good := I.ok
  have frames : X.A.frames = some (X.env :: X.outer) := st ▸ good.frames
  have catch_ : Takes (X.tr (X.pn ++ pins) (fun e s₁ => wpAny (model X.prog X.w) X.A (noteFrame e X.env) (fun _ s₂ => wpAny (model X.prog X.w) X.A (setFlight e none) (fun _ s₃ =>
      wpAny (model X.prog X.w) X.A (handleBy e X.env (h1 :: hds)) (SP X pins D) X.xe s₃) X.xe s₂) X.xe s₁)) (wFirst X.K i Wout D l) := by
    intro u s' given
    obtain ⟨a, B, sI, pins', σ', H', cls, d, rfl, J', nb, up, sky, fresh, os, ag, wsh⟩ := given
    have J : Inv X pins σ' H' sI := J'.ofTry good
    show wpAny (model X.prog X.w) X.A (noteFrame (.ref a) X.env) _ _ _
    refine Sky.land Zc.steady frames fr (st ▸ sky) fun h3 fl3 up3 => ?_
    have J3 : Inv X pins σ' H' { s' with heap := h3 } := J.landed nb fl3.1 (up.trans up3) os ag
    obtain ⟨o3, vs3, at3, z3, dt3⟩ := fl3.there
    have outside : a ∉ frs (X.env :: X.outer) := fun inside => by
      obtain ⟨_, o', at', no⟩ := fl3.2.2.1.mem inside
      cases at3.symm.trans at'
      exact no _ dt3
    have offL : a ≠ X.env.locals := fun z => outside (List.mem_filterMap.mpr ⟨X.env, List.mem_cons_self, by rw [fr, z]⟩)
    have offF : a ∉ X.fs := fun inside => by
      obtain ⟨e, he, q⟩ := List.mem_filterMap.mp inside
      exact outside (List.mem_filterMap.mpr ⟨e, List.mem_cons_of_mem _ he, q⟩)
    have S3 := J3.suite at3 dt3 fresh offL offF
    -- the clauses, one after the other
    have walk : ∀ {hs : List ExceptHandler} {cs : List Clause}, Clauses X n hs cs → wFirst X.K i Wout D cs cls d σ' H' → wpAny (model X.prog X.w) X.A (handleBy (.ref a) X.env hs) (SP X pins D) X.xe { s' with heap := h3 } := by
      intro hs cs ok
      induction ok with
      | nil =>
        intro w
        refine wpAny_handleBy_nil ?_
        obtain ⟨_, _, _, _, vs, T, _, _, at4, _, dt4, v1, _⟩ := id fl3
        unfold PySem.passOn
        refine wpAny_bind (wpAny_field at4 dt4 v1 ?_)
        have tracked : ¬ ((Value.ref T == Value.none) = true) := by simp
        rw [if_neg tracked]
        have go : wpAny (model X.prog X.w) X.A (setFlight (.ref a) X.env.frame) (fun _ s4 => wpAny (model X.prog X.w) X.A (throw (.ref a) : Sem Flow) (SP X pins D) X.xe s4) X.xe { s' with heap := h3 } := by
          rw [fr]
          refine HandSPX.setFlight_upZ fl3 fun h4 hh4 up4 => wpAny_throw (tk _ _ ?_)
          exact ⟨a, B, sI, pins, σ', H', cls, d, rfl, J, nb, (up.trans up3).trans up4, .inr (.inr (st ▸ hh4)), fresh, os, ag, w⟩
        first
          | exact wpAny_bind (wpAny_pure (wpAny_bind go))
          | exact wpAny_bind go
      | @cons x c ts b bs np p2 hds2 l2 nm hu r ih =>
        intro w
        obtain ⟨fits, ex, yes, no⟩ := w
        refine wpAny_handleBy_cons (codeAny_handlers_test ?_) (by intro q; cases q)
        have ty : PySem.W.Looks (model X.prog X.w) h3 (typeOf (.ref a)) cls := fun A Q E s k q => wpAny_typeOf_ref (k _ _ at3) (by rw [z3.1]; exact q)
        have asks := PySem.W.exm_one (M := model X.prog X.w) J3.kIn ty ex
        have named : ∀ {Q E : Value → Shared → Prop}, Q c { s' with heap := h3 } → wpAny (model X.prog X.w) (X.A.mark (some (.ref a))) (eval (.Name x np) X.env) Q E { s' with heap := h3 } := by
          intro Q E q
          rcases nm with ⟨g, dbg, m | ⟨m, v, nn⟩⟩
          · exact ld_glob (X := X.suite a ((a, o3) :: (X.pn ++ pins))) S3 g m q dbg
          · exact ld_blt (X := X.suite a ((a, o3) :: (X.pn ++ pins))) S3 g m v q nn dbg
        refine named (asks.here ?_)
        cases fits with
        | false => exact ih (no rfl)
        | true =>
          refine codeAny_handlers_suite_as ?_
          refine HandSPX.lands_againZ fl3 fun h4 fl4 up4 => ?_
          have J4 : Inv X pins σ' H' { s' with heap := h4 } := J.landed nb fl4.1 ((up.trans up3).trans up4) os ag
          obtain ⟨o4, vs4, at4, z4, dt4⟩ := fl4.there
          refine store_ok (X := X.suite a ((a, o4) :: (X.pn ++ pins))) (v := .ref a) (J4.suite at4 dt4 fresh offL offF) nd hi (.inl lc) rfl (fun s5 S5 => ?_) (.inr lc)
          refine wpAny_mono ((hu a o4 cls d (X.pn ++ pins) z4 ⟨_, dt4⟩).run [] s5 _ H' _ S5 (yes rfl a fresh)) (fun f s6 done => ?_) (fun _ _ z => False.elim z)
          have wiped : ∀ {σ6 : L2.St} {H6 : Hp} {Q : Shared → Prop}, Inv (X.suite a ((a, o4) :: (X.pn ++ pins))) [] σ6 H6 s6 → (∀ s7, Inv X pins (σ6.set i none) H6 s7 → Q s7) → wpAny (model X.prog X.w) X.A (do bindName X.env n .none; unbindBehindTheSuite X.env n p2) (fun _ s7 => Q s7) X.xe s6 :=
            fun {σ6 H6 Q} S6 q => gone_ok (S6.unsuite good) nd hi lc q
          cases f with
          | next => obtain ⟨_, _, S6, q6⟩ := done; exact wiped S6 fun _ J7 => ⟨_, _, J7, q6⟩
          | brk => obtain ⟨_, _, S6, q6⟩ := done; exact wiped S6 fun _ J7 => ⟨_, _, J7, q6⟩
          | cont => obtain ⟨_, _, S6, q6⟩ := done; exact wiped S6 fun _ J7 => ⟨_, _, J7, q6⟩
          | ret u => obtain ⟨_, _, _, S6, r6, q6⟩ := done; exact wiped S6 fun _ J7 => ⟨_, _, _, J7, r6, q6⟩
    exact walk hc wsh
  refine wpAny_Try_except (wpAny_mono ((hb _ (X.pn ++ pins) _ catch_ PassesOwn.looking).run [] s σ H D (I.toTry _) wish) (fun f s1 done => ?_) (fun e s1 he => he))
  cases f with
  | next => obtain ⟨_, _, J', q⟩ := done; exact wpAny_execs_nil ⟨_, _, J'.ofTry good, q⟩
  | brk => obtain ⟨_, _, J', q⟩ := done; exact ⟨_, _, J'.ofTry good, q⟩
  | cont => obtain ⟨_, _, J', q⟩ := done; exact ⟨_, _, J'.ofTry good, q⟩
  | ret u => obtain ⟨_, _, _, J', r, q⟩ := done; exact ⟨_, _, _, J'.ofTry good, r, q⟩
end
section
variable {K : PySem.W.Frag} {W : WX} {cl : Nat → Value}
theorem s_try2 {i : Nat} {te : WX → TE} {f : Ev → Option (Except Nat PyData)} {k1 k2 : Nat} {D1 D2 : Addr} {t1 t2 : Addr → TS} {z1 z2 : Str} {Wout : WX} (c1 : cl k1 = .ref D1) (c2 : cl k2 = .ref D2)
    (x11 : PySem.W.exmOne K (.ref D1) (.ref D1) = some true) (x21 : PySem.W.exmOne K (.ref D2) (.ref D1) = some false) (x22 : PySem.W.exmOne K (.ref D2) (.ref D2) = some true) (hz1 : z1.length ≤ 65536) (hz2 : z2.length ≤ 65536) (hte : ∀ W, EvR K W cl (te W) f)
    (u1 : ∀ (a : Addr) (σ : L2.St) (H : Hp) (E : Ends), σ[i]? = some (some (.ref a)) → E.rt (.str z1) H → t1 a E σ H) (u2 : ∀ (a : Addr) (σ : L2.St) (H : Hp) (E : Ends), σ[i]? = some (some (.ref a)) → E.rt (.str z2) H → t2 a E σ H) :
    EvS K W cl (fun D σ H => tRet (te (wFirst K i Wout D [(.ref D1, fun a cls d => tsNo D1 cls d (t1 a)), (.ref D2, fun a cls d => tsNo D2 cls d (t2 a))])) D σ H) (sTry i f [(k1, .str z1), (k2, .str z2)]) := by
  intro O_0 H_0 σ H ρ out D ⟨L, r⟩ e p
  unfold sTry at e
  split at e
  · rename_i hi
    obtain ⟨x, e1, e⟩ := bind_some e
    have hlen : i < σ.length := by
      have := r.view.2.1.1
      unfold view at this
      rw [List.length_map] at this
      omega
    refine hte _ O_0 σ H (view ρ) x r.view e1 _ (fun d ed v H' s hv => ?_) fun k ek H' s => ?_
    · subst ed
      cases e
      exact p v H' (r.sm.trans s) hv
    · subst ek
      simp only [List.lookup_cons, List.lookup_nil] at e
      by_cases h1 : k = k1
      · subst h1
        simp at e
        subst e
        refine ⟨true, by rw [c1]; exact x11, fun _ a _ => ⟨⟨c1, rfl⟩, ?_⟩, fun z => (nomatch z)⟩
        exact u1 a _ H' _ (List.getElem?_set_self hlen) (p (.str z1) H' (r.sm.trans s) (.str z1 hz1))
      · have n1 : (k == k1) = false := by simpa using h1
        rw [n1] at e
        by_cases h2 : k = k2
        · subst h2
          simp at e
          subst e
          refine ⟨false, by rw [c2]; exact x21, fun z => (nomatch z), fun _ => ⟨true, by rw [c2]; exact x22, fun _ a _ => ⟨⟨c2, rfl⟩, ?_⟩, fun z => (nomatch z)⟩⟩
          exact u2 a _ H' _ (List.getElem?_set_self hlen) (p (.str z2) H' (r.sm.trans s) (.str z2 hz2))
        · have n2 : (k == k2) = false := by simpa using h2
          rw [n2] at e
          cases e
  · cases e
end
end CS
namespace CS
open PySem L2
def b_in_range : Ev → Option Out :=
  (sRet (dAnd (dIsi "int" (dVar 0)) (dAnd (dNot (dIsi "bool" (dVar 0))) (dChain pLe pLe (dVar 1) (dVar 0) (dVar 2)))))
def m_in_range : List PyData → Option PyData := fnD 3 b_in_range
def b_is_operation : Ev → Option Out :=
  (sSeq (sIf (dOrT (dNotT (dTru (dIsi "tuple" (dVar 0)))) (dOrT (dT (d2 pNe (dB pLen (dCons (dVar 0) dNil)) (dC (.int 4)))) (dOrT (dNotT (dTru (dIsi "str" (d2 pIx (dVar 0) (dC (.int 0)))))) (dT (d2 (pInA true) (d2 pIx (dVar 0) (dC (.int 0))) (dC (.tuple [(.str "write"), (.str "read")]))))))) (sRet (dC (.bool false))) sNext)
    (sSeq (sIf (dNotT (dTru (dB m_in_range (dCons (d2 pIx (dVar 0) (dC (.int 1))) (dCons (dIf (dT (d2 pEq (d2 pIx (dVar 0) (dC (.int 0))) (dC (.str "read")))) (dC (.int 0)) (dC (.int 1))) (dCons (dC (.int 9)) dNil)))))) (sRet (dC (.bool false))) sNext)
    (sRet (dAnd (dB m_in_range (dCons (d2 pIx (dVar 0) (dC (.int 2))) (dCons (dC (.int 0)) (dCons (dC (.int 99)) dNil)))) (dB m_in_range (dCons (d2 pIx (dVar 0) (dC (.int 3))) (dCons (d2 pAdd (d2 pIx (dVar 0) (dC (.int 2))) (dC (.int 1))) (dCons (dC (.int 99)) dNil))))))))
def m_is_operation : List PyData → Option PyData := fnD 1 b_is_operation
def b_is_story : Ev → Option Out :=
  (sSeq (sIf (dOrT (dNotT (dTru (dIsi "tuple" (dVar 0)))) (dT (d2 pGt (dB pLen (dCons (dVar 0) dNil)) (dC (.int 6))))) (sRet (dC (.bool false))) sNext)
    (sSeq (sIf (dTru (dLc [3] (dSeqI (dVar 0)) (aName 3) (dNotT (dTru (dB m_is_operation (dCons (dVar 3) dNil)))) (dVar 3))) (sRet (dC (.bool false))) sNext)
    (sSeq (sIf (dTru (dLc [3, 4] (dZip (dCons (dVar 0) (dCons (dSl (dVar 0) (dPart (dC (.int 1))) dNoPart) dNil))) (aTup [3, 4]) (dT (d2 pGe (d2 pIx (dVar 3) (dC (.int 2))) (d2 pIx (dVar 4) (dC (.int 2))))) (dC (.int 1)))) (sRet (dC (.bool false))) sNext)
    (sSeq (sSet 1 (d2 pAdd (dLc [3] (dSeqI (dVar 0)) (aName 3) dYes (d2 pIx (dVar 3) (dC (.int 2)))) (dLc [3] (dSeqI (dVar 0)) (aName 3) dYes (d2 pIx (dVar 3) (dC (.int 3))))))
    (sSeq (sSet 2 (dLc [3] (dSeqI (dVar 0)) (aName 3) (dT (d2 pEq (d2 pIx (dVar 3) (dC (.int 0))) (dC (.str "write")))) (d2 pIx (dVar 3) (dC (.int 1)))))
    (sRet (dAnd (d2 pEq (dLenSet (dVar 1)) (dB pLen (dCons (dVar 1) dNil))) (d2 pEq (dLenSet (dVar 2)) (dB pLen (dCons (dVar 2) dNil))))))))))
def m_is_story : List PyData → Option PyData := fnD 5 b_is_story
def b__law_cell : Ev → Option Out :=
  (sSeq (sIf (dT (d2 pLt (dVar 1) (dB pLen (dCons (dVar 0) dNil)))) (sRet (d2 pIx (dVar 0) (dVar 1))) sNext)
    (sRet (dC (.int 0))))
def m__law_cell : List PyData → Option PyData := fnD 2 b__law_cell
def b__law_row : Ev → Option Out :=
  (sSeq (sSet 2 (dB m__law_cell (dCons (dVar 0) (dCons (dVar 1) dNil))))
    (sSeq (sOwn 3 (fLst dNil))
    (sSeq (sFor (dRng (dCons (dC (.int 60)) dNil)) (aName 4) (sIf (dT (d2 pLt (dB m__law_cell (dCons (dVar 0) (dCons (dVar 1) dNil))) (d2 pPow (dC (.int 10)) (dC (.int 18))))) (sSeq (sSet 2 (d2 pMod (d2 pAdd (d2 pAdd (d2 pAdd (d2 pMul (dVar 2) (dC (.int 48271))) (d2 pMul (dC (.int 131)) (dVar 4))) (dC (.int 7))) (dB m__law_cell (dCons (dVar 0) (dCons (d2 pMod (d2 pAdd (d2 pAdd (dVar 1) (dC (.int 1))) (dVar 4)) (dC (.int 20))) dNil)))) (dC (.int 2147483647))))
    (sApp 3 (d2 pMod (d2 pFdiv (dVar 2) (dC (.int 11))) (dC (.int 1000))))) (sSeq (sApp 3 (d2 pMod (dVar 2) (dC (.int 1000))))
    (sSet 2 (d2 pFdiv (dVar 2) (dC (.int 1000)))))))
    (sRet (dVar 3)))))
def m__law_row : List PyData → Option PyData := fnD 5 b__law_row
def b__law_story : Ev → Option Out :=
  (sSeq (sSet 3 (dB m__law_row (dCons (dVar 0) (dCons (dVar 1) dNil))))
    (sSeq (sSet 4 (d2 pMod (d2 pIx (dVar 3) (dC (.int 0))) (d2 pAdd (dVar 2) (dC (.int 1)))))
    (sSeq (sOwn 5 (fLst dNil))
    (sSeq (sFor (dRng (dCons (dVar 4) dNil)) (aName 6) (sSeq (sSet 7 (dIf (dT (d2 pGt (d2 pMod (d2 pIx (dVar 3) (dC (.int 1))) (dC (.int 4))) (dC (.int 0)))) (d2 pMul (dC (.int 10)) (dVar 6)) (d2 pMod (d2 pIx (dVar 3) (d2 pAdd (dC (.int 2)) (dVar 6))) (dC (.int 60)))))
    (sSeq (sApp 5 (dTup (dCons (d2 pSub (dVar 7) (d2 pMod (d2 pIx (dVar 3) (d2 pAdd (dC (.int 10)) (dVar 6))) (d2 pAdd (dC (.int 8)) (d2 pMod (d2 pIx (dVar 3) (dC (.int 20))) (dC (.int 20)))))) (dCons (dVar 6) (dCons (dC (.int 0)) dNil)))))
    (sApp 5 (dTup (dCons (d2 pAdd (d2 pAdd (dVar 7) (dC (.int 1))) (d2 pMod (d2 pIx (dVar 3) (d2 pAdd (dC (.int 30)) (dVar 6))) (d2 pAdd (dC (.int 8)) (d2 pMod (d2 pIx (dVar 3) (dC (.int 21))) (dC (.int 20)))))) (dCons (dVar 6) (dCons (dC (.int 1)) dNil))))))))
    (sSeq (sDNew 8)
    (sSeq (sForV (dRng (dCons (dB pLen (dCons (dB pSort (dCons (dVar 5) dNil)) dNil)) dNil)) (aName 9) (sSeq (sSetV 10 (d2 pIx (dB pSort (dCons (dVar 5) dNil)) (dVar 9)))
    (sDPut' 8 (d2 pIx (dVar 10) (dC (.int 1))) (d2 pIx (dVar 10) (dC (.int 2))) (d2 pAdd (d2 pMul (dC (.int 3)) (dVar 9)) (d2 pMod (d2 pIx (dVar 3) (d2 pAdd (dC (.int 40)) (dVar 9))) (dC (.int 3)))))))
    (sSeq (sOIO 11 12 13 0)
    (sSeq (sFor (dRng (dCons (dVar 4) dNil)) (aName 6) (sSeq (sSet 14 (dIf (dT (d2 pEq (d2 pMod (d2 pIx (dVar 3) (d2 pAdd (dC (.int 22)) (dVar 6))) (dC (.int 2))) (dC (.int 0)))) (dC (.str "write")) (dC (.str "read"))))
    (sSeq (sIf (dT (d2 pEq (dVar 14) (dC (.str "write")))) (sSeq (sSetV 12 (d2 pIx (dLc [16] (dRng (dCons (dC (.int 1)) (dCons (dC (.int 10)) dNil))) (aName 16) (dT (d2 (pInA true) (dVar 16) (dVar 13))) (dVar 16)) (d2 pMod (d2 pIx (dVar 3) (d2 pAdd (dC (.int 50)) (dVar 6))) (dC (.int 3)))))
    (sApp 13 (dVar 12))) sNext)
    (sSeq (sSet 15 (dVar 12))
    (sSeq (sIf (dAndT (dT (d2 pEq (dVar 14) (dC (.str "read")))) (dT (d2 pEq (d2 pMod (d2 pIx (dVar 3) (dC (.int 1))) (dC (.int 3))) (dC (.int 0))))) (sSetV 15 (d2 pIx (d2 pAdd (d2 pAdd (dLst (dCons (dC (.int 0)) dNil)) (dVar 13)) (dLst (dCons (dC (.int 9)) dNil))) (d2 pMod (d2 pIx (dVar 3) (d2 pAdd (dC (.int 50)) (dVar 6))) (d2 pAdd (dB pLen (dCons (dVar 13) dNil)) (dC (.int 2)))))) sNext)
    (sApp 11 (dTup (dCons (dVar 14) (dCons (dVar 15) (dCons (dDGet 8 (dVar 6) (dC (.int 0))) (dCons (dDGet 8 (dVar 6) (dC (.int 1))) dNil)))))))))))
    (sRet (dB pTuple (dCons (dLc [17, 16] (dSeqI (dB pSort (dCons (dLc [16] (dSeqI (dVar 11)) (aName 16) dYes (dTup (dCons (d2 pIx (dVar 16) (dC (.int 2))) (dCons (dVar 16) dNil)))) dNil))) (aTup [17, 16]) dYes (dVar 16)) dNil)))))))))))
def m__law_story : List PyData → Option PyData := fnD 18 b__law_story
def b__law_whole : Ev → Option Out :=
  (sRet (dAnd (dIsi "int" (dVar 0)) (dNot (dIsi "bool" (dVar 0)))))
def m__law_whole : List PyData → Option PyData := fnD 1 b__law_whole
def b__law_in : Ev → Option Out :=
  (sRet (dAnd (dB m__law_whole (dCons (dVar 0) dNil)) (dChain pLe pLe (dVar 1) (dVar 0) (dVar 2))))
def m__law_in : List PyData → Option PyData := fnD 3 b__law_in
def b__law_is_operation : Ev → Option Out :=
  (sSeq (sIf (dOrT (dNotT (dTru (dIsi "tuple" (dVar 0)))) (dOrT (dT (d2 pNe (dB pLen (dCons (dVar 0) dNil)) (dC (.int 4)))) (dT (d2 (pInA true) (d2 pIx (dVar 0) (dC (.int 0))) (dTup (dCons (dC (.str "write")) (dCons (dC (.str "read")) dNil))))))) (sRet (dC (.bool false))) sNext)
    (sSeq (sIf (dOrT (dNotT (dTru (dB m__law_in (dCons (d2 pIx (dVar 0) (dC (.int 1))) (dCons (dB pInt (dCons (d2 pEq (d2 pIx (dVar 0) (dC (.int 0))) (dC (.str "write"))) dNil)) (dCons (dC (.int 9)) dNil)))))) (dNotT (dTru (dB m__law_in (dCons (d2 pIx (dVar 0) (dC (.int 2))) (dCons (dC (.int 0)) (dCons (dC (.int 99)) dNil))))))) (sRet (dC (.bool false))) sNext)
    (sRet (dB m__law_in (dCons (d2 pIx (dVar 0) (dC (.int 3))) (dCons (d2 pAdd (d2 pIx (dVar 0) (dC (.int 2))) (dC (.int 1))) (dCons (dC (.int 99)) dNil)))))))
def m__law_is_operation : List PyData → Option PyData := fnD 1 b__law_is_operation
def b_check_story : Ev → Option Out :=
  (sIf (dNotT (dTru (dB m_is_story (dCons (dVar 0) dNil)))) (sRaise 0) sNext)
def m_check_story : List PyData → Option (Except Nat PyData) := fnX 1 b_check_story
def b_precedes : Ev → Option Out :=
  (sRet (d2 pLt (d2 pIx (dVar 0) (dC (.int 3))) (d2 pIx (dVar 1) (dC (.int 2)))))
def m_precedes : List PyData → Option PyData := fnD 2 b_precedes
def b_before_pairs : Ev → Option Out :=
  (sSeq (sOwn 1 (fLst dNil))
    (sSeq (sFor (dEnum (dVar 0)) (aTup [2, 3]) (sExt 1 (dLc [4, 5] (dEnum (dVar 0)) (aTup [4, 5]) (dTru (dB m_precedes (dCons (dVar 3) (dCons (dVar 5) dNil)))) (dTup (dCons (dVar 2) (dCons (dVar 4) dNil))))))
    (sRet (dB pSort (dCons (dVar 1) dNil)))))
def m_before_pairs : List PyData → Option PyData := fnD 6 b_before_pairs
def b_preceding : Ev → Option Out :=
  (sSeq (sExprR (dBR m_check_story (dCons (dVar 0) dNil)))
    (sRet (dB m_before_pairs (dCons (dVar 0) dNil))))
def m_preceding : List PyData → Option (Except Nat PyData) := fnX 1 b_preceding
def b_may_follow : Ev → Option Out :=
  (sSeq (sSet 3 (dLc [5, 6] (dEnum (dVar 0)) (aTup [5, 6]) (dT (d2 (pInA true) (dVar 5) (dVar 1))) (dVar 6)))
    (sSeq (sIf (dTru (dLc [6] (dSeqI (dVar 3)) (aName 6) (dTru (dB m_precedes (dCons (dVar 6) (dCons (d2 pIx (dVar 0) (dVar 2)) dNil)))) (dVar 6))) (sRet (dC (.bool false))) sNext)
    (sSeq (sSet 4 (dLc [5] (dSeqI (dVar 1)) (aName 5) (dT (d2 pEq (d2 pIx (d2 pIx (dVar 0) (dVar 5)) (dC (.int 0))) (dC (.str "write")))) (d2 pIx (d2 pIx (dVar 0) (dVar 5)) (dC (.int 1)))))
    (sRet (dOr (d2 pEq (d2 pIx (d2 pIx (dVar 0) (dVar 2)) (dC (.int 0))) (dC (.str "write"))) (d2 pEq (d2 pIx (d2 pIx (dVar 0) (dVar 2)) (dC (.int 1))) (dIf (dTru (dVar 4)) (d2 pIx (dVar 4) (d1 pNeg (dC (.int 1)))) (dC (.int 0)))))))))
def m_may_follow : List PyData → Option PyData := fnD 7 b_may_follow
def b_explains_story : Ev → Option Out :=
  (sSeq (sIf (dOrT (dNotT (dTru (dIsi "tuple" (dVar 1)))) (dTru (dLc [2] (dSeqI (dVar 1)) (aName 2) (dNotT (dTru (dB m_in_range (dCons (dVar 2) (dCons (dC (.int 0)) (dCons (d2 pSub (dB pLen (dCons (dVar 0) dNil)) (dC (.int 1))) dNil)))))) (dVar 2)))) (sRet (dC (.bool false))) sNext)
    (sSeq (sIf (dT (d2 pNe (dB pSort (dCons (dVar 1) dNil)) (dLstRg (dB pLen (dCons (dVar 0) dNil))))) (sRet (dC (.bool false))) sNext)
    (sRet (dNot (dLc [3, 4] (dEnum (dVar 1)) (aTup [3, 4]) (dNotT (dTru (dB m_may_follow (dCons (dVar 0) (dCons (dSl (dVar 1) dNoPart (dPart (dVar 3))) (dCons (dVar 4) dNil)))))) (dC (.int 1)))))))
def m_explains_story : List PyData → Option PyData := fnD 5 b_explains_story
def b_explains : Ev → Option Out :=
  (sSeq (sExprR (dBR m_check_story (dCons (dVar 0) dNil)))
    (sRet (dB m_explains_story (dCons (dVar 0) (dCons (dVar 1) dNil)))))
def m_explains : List PyData → Option (Except Nat PyData) := fnX 2 b_explains
def c1_extend : Ev → Option Bool := (dT (d2 pEq (dB pLen (dCons (dVar 1) dNil)) (dB pLen (dCons (dVar 0) dNil))))
def c2_extend : Ev → Option Bool := (dAndT (dT (d2 pLt (dB pLen (dCons (dVar 2) dNil)) (dVar 3))) (dAndT (dT (d2 (pInA true) (dVar 4) (dVar 1))) (dTru (dB m_may_follow (dCons (dVar 0) (dCons (dVar 1) (dCons (dVar 4) dNil)))))))
abbrev x_extend := extD c1_extend c2_extend
def b_explanations_of : Ev → Option Out :=
  (sSeq (sOwn 2 (fLst dNil))
    (sSeq (sExt4 2 (x_extend 8) (dVar 0) (dTup dNil) (dVar 1))
    (sRet (dVar 2))))
def m_explanations_of : List PyData → Option PyData := fnD 3 b_explanations_of
def b_all_explanations : Ev → Option Out :=
  (sSeq (sExprR (dBR m_check_story (dCons (dVar 0) dNil)))
    (sRet (dB m_explanations_of (dCons (dVar 0) (dCons (dC (.int 720)) dNil)))))
def m_all_explanations : List PyData → Option (Except Nat PyData) := fnX 1 b_all_explanations
def b_check_order : Ev → Option Out :=
  (sSeq (sExprR (dBR m_check_story (dCons (dVar 0) dNil)))
    (sIf (dNotT (dTru (dB m_explains_story (dCons (dVar 0) (dCons (dVar 1) dNil))))) (sRaise 6) sNext))
def m_check_order : List PyData → Option (Except Nat PyData) := fnX 2 b_check_order
def b_with_operation : Ev → Option Out :=
  (sSeq (sSet 2 (dB pSort (dCons (dLc [3] (dSeqI (d2 pAdd (dVar 0) (dTup (dCons (dVar 1) dNil)))) (aName 3) dYes (dTup (dCons (d2 pIx (dVar 3) (dC (.int 2))) (dCons (dVar 3) dNil)))) dNil)))
    (sRet (dB pTuple (dCons (dLc [4, 3] (dSeqI (dVar 2)) (aTup [4, 3]) dYes (dVar 3)) dNil))))
def m_with_operation : List PyData → Option PyData := fnD 5 b_with_operation
def b_possible_values : Ev → Option Out :=
  (sSeq (sExprR (dBR m_check_story (dCons (dVar 0) dNil)))
    (sSeq (sIf (dOrT (dNotT (dTru (dB m_in_range (dCons (dVar 1) (dCons (dC (.int 0)) (dCons (dC (.int 99)) dNil)))))) (dNotT (dTru (dB m_in_range (dCons (dVar 2) (dCons (d2 pAdd (dVar 1) (dC (.int 1))) (dCons (dC (.int 99)) dNil))))))) (sRaise 2) sNext)
    (sSeq (sIf (dNotT (dTru (dB m_is_story (dCons (dB m_with_operation (dCons (dVar 0) (dCons (dTup (dCons (dC (.str "read")) (dCons (dC (.int 0)) (dCons (dVar 1) (dCons (dVar 2) dNil))))) dNil))) dNil)))) (sRaise 1) sNext)
    (sRet (dLc [3] (dRng (dCons (dC (.int 10)) dNil)) (aName 3) (dTru (dB m_explanations_of (dCons (dB m_with_operation (dCons (dVar 0) (dCons (dTup (dCons (dC (.str "read")) (dCons (dVar 3) (dCons (dVar 1) (dCons (dVar 2) dNil))))) dNil))) (dCons (dC (.int 1)) dNil)))) (dVar 3))))))
def m_possible_values : List PyData → Option (Except Nat PyData) := fnX 4 b_possible_values
def b_choices (self : List PyData → Option PyData) : Ev → Option Out :=
  (sSeq (sIf (dT (d2 pEq (dVar 1) (dC (.int 0)))) (sRet (dLst (dCons (dTup dNil) dNil))) sNext)
    (sSeq (sOwn 2 (fLst dNil))
    (sSeq (sFor (dEnum (dVar 0)) (aTup [3, 4]) (sExt 2 (dLc [5] (dSeqI (dB self (dCons (dSl (dVar 0) (dPart (d2 pAdd (dVar 3) (dC (.int 1)))) dNoPart) (dCons (d2 pSub (dVar 1) (dC (.int 1))) dNil)))) (aName 5) dYes (d2 pAdd (dTup (dCons (dVar 4) dNil)) (dVar 5)))))
    (sRet (dVar 2)))))
def m_choices : Nat → List PyData → Option PyData
  | 0 => fun _ => none
  | n + 1 => fnD 6 (b_choices (m_choices n))
def b_fewest_dropped : Ev → Option Out :=
  (sSeq (sExprR (dBR m_check_story (dCons (dVar 0) dNil)))
    (sSeq (sSet 1 (dC (.int 0)))
    (whD (dTru (dC (.bool true))) (sSeq (sFor (dSeqI (dB (m_choices 8) (dCons (dLstRg (dB pLen (dCons (dVar 0) dNil))) (dCons (dVar 1) dNil)))) (aName 2) (sSeq (sSet 3 (dB pTuple (dCons (dLc [4, 5] (dEnum (dVar 0)) (aTup [4, 5]) (dT (d2 (pInA true) (dVar 4) (dVar 2))) (dVar 5)) dNil)))
    (sIf (dTru (dB m_explanations_of (dCons (dVar 3) (dCons (dC (.int 1)) dNil)))) (sRet (dVar 2)) sNext)))
    (sAug 1 pAddI (dC (.int 1)))) 1000)))
def m_fewest_dropped : List PyData → Option (Except Nat PyData) := fnX 6 b_fewest_dropped
def b_check_answers : Ev → Option Out :=
  (sSeq (sExprR (dBR m_check_story (dCons (dVar 0) dNil)))
    (sSeq (sIf (dNotT (dTru (dB m_explanations_of (dCons (dVar 0) (dCons (dC (.int 1)) dNil))))) (sRaise 4) sNext)
    (sSeq (sIf (dNotT (dTru (dIsi "tuple" (dVar 1)))) (sRaise 3) sNext)
    (sFor (dSeqI (dVar 1)) (aName 2) (sSeq (sIf (dOrT (dNotT (dTru (dIsi "tuple" (dVar 2)))) (dOrT (dT (d2 pNe (dB pLen (dCons (dVar 2) dNil)) (dC (.int 3)))) (dNotT (dTru (dIsi "bool" (d2 pIx (dVar 2) (dC (.int 2)))))))) (sRaise 3) sNext)
    (sIf (dOrT (dTru (dLc [3] (dSeqI (dSl (dVar 2) dNoPart (dPart (dC (.int 2))))) (aName 3) (dNotT (dTru (dB m_in_range (dCons (dVar 3) (dCons (dC (.int 0)) (dCons (d2 pSub (dB pLen (dCons (dVar 0) dNil)) (dC (.int 1))) dNil)))))) (dVar 3))) (dT (d2 pEq (d2 pIx (dVar 2) (dC (.int 0))) (d2 pIx (dVar 2) (dC (.int 1)))))) (sRaise 3) sNext))))))
def m_check_answers : List PyData → Option (Except Nat PyData) := fnX 4 b_check_answers
def b_candidates : Ev → Option Out :=
  (sSeq (sExprR (dBR m_check_answers (dCons (dVar 0) (dCons (dVar 1) dNil))))
    (sSeq (sOwn 2 (fLst dNil))
    (sSeq (sFor (dSeqI (dB m_explanations_of (dCons (dVar 0) (dCons (dC (.int 720)) dNil)))) (aName 3) (sIf (dNotT (dTru (dLc [4, 5, 6] (dSeqI (dVar 1)) (aTup [4, 5, 6]) (dT (d2 pNe (d2 pLt (d2 pTIndex (dVar 3) (dVar 4)) (d2 pTIndex (dVar 3) (dVar 5))) (dVar 6))) (dVar 4)))) (sApp 2 (dVar 3)) sNext))
    (sRet (dVar 2)))))
def m_candidates : List PyData → Option (Except Nat PyData) := fnX 7 b_candidates
def b_values_of : Ev → Option Out :=
  (sRet (d2 pAdd (dLst (dCons (dC (.int 0)) dNil)) (dB pSort (dCons (dLc [1] (dSeqI (dVar 0)) (aName 1) (dT (d2 pEq (d2 pIx (dVar 1) (dC (.int 0))) (dC (.str "write")))) (d2 pIx (dVar 1) (dC (.int 1)))) dNil))))
def m_values_of : List PyData → Option PyData := fnD 2 b_values_of
def b_zone_of : Ev → Option Out :=
  (sSeq (sSet 2 (dLc [5] (dSeqI (dVar 0)) (aName 5) (dT (d2 pEq (d2 pIx (dVar 5) (dC (.int 1))) (dVar 1))) (dVar 5)))
    (sSeq (sSet 3 (d2 pAdd (dLc [5] (dSeqI (dVar 2)) (aName 5) dYes (d2 pIx (dVar 5) (dC (.int 3)))) (dIf (dT (d2 pEq (dVar 1) (dC (.int 0)))) (dLst (dCons (d1 pNeg (dC (.int 1))) dNil)) (dLst dNil))))
    (sSeq (sSet 4 (d2 pAdd (dLc [5] (dSeqI (dVar 2)) (aName 5) dYes (d2 pIx (dVar 5) (dC (.int 2)))) (dIf (dT (d2 pEq (dVar 1) (dC (.int 0)))) (dLst (dCons (d1 pNeg (dC (.int 2))) dNil)) (dLst dNil))))
    (sRet (dTup (dCons (dB pMin (dCons (dVar 3) dNil)) (dCons (dB pMax (dCons (dVar 4) dNil)) dNil)))))))
def m_zone_of : List PyData → Option PyData := fnD 6 b_zone_of
def b_zones : Ev → Option Out :=
  (sSeq (sExprR (dBR m_check_story (dCons (dVar 0) dNil)))
    (sSeq (sOwn 1 (fLst dNil))
    (sSeq (sFor (dSeqI (dB m_values_of (dCons (dVar 0) dNil))) (aName 2) (sSeq (sTgt (aTup [3, 4]) (dB m_zone_of (dCons (dVar 0) (dCons (dVar 2) dNil))))
    (sApp 1 (dTup (dCons (dVar 2) (dCons (dVar 3) (dCons (dVar 4) dNil)))))))
    (sRet (dVar 1)))))
def m_zones : List PyData → Option (Except Nat PyData) := fnX 5 b_zones
def b_early_of : Ev → Option Out :=
  (sSeq (sOwn 1 (fLst dNil))
    (sSeq (sFor (dEnum (dVar 0)) (aTup [2, 3]) (sIf (dAndT (dT (d2 pEq (d2 pIx (dVar 3) (dC (.int 0))) (dC (.str "read")))) (dT (d2 pGt (d2 pIx (dVar 3) (dC (.int 1))) (dC (.int 0))))) (sSeq (sSet 4 (dLc [5] (dSeqI (dVar 0)) (aName 5) (dAndT (dT (d2 pEq (d2 pIx (dVar 5) (dC (.int 0))) (dC (.str "write")))) (dT (d2 pEq (d2 pIx (dVar 5) (dC (.int 1))) (d2 pIx (dVar 3) (dC (.int 1)))))) (d2 pIx (dVar 5) (dC (.int 2)))))
    (sIf (dOrT (dNotT (dTru (dVar 4))) (dT (d2 pLt (d2 pIx (dVar 3) (dC (.int 3))) (d2 pIx (dVar 4) (dC (.int 0)))))) (sApp 1 (dVar 2)) sNext)) sNext))
    (sRet (dVar 1))))
def m_early_of : List PyData → Option PyData := fnD 6 b_early_of
def b_forbid : Ev → Option Out :=
  (sSeq (sTgt (aTup [4, 5]) (dB m_zone_of (dCons (dVar 0) (dCons (dVar 2) dNil))))
    (sSeq (sTgt (aTup [6, 7]) (dB m_zone_of (dCons (dVar 0) (dCons (dVar 3) dNil))))
    (sSeq (sIf (dT (d2 pEq (dVar 1) (dC (.str "cross")))) (sRet (dAnd (d2 pLt (dVar 4) (dVar 5)) (dAnd (d2 pLt (dVar 6) (dVar 7)) (dAnd (d2 pLt (dVar 4) (dVar 7)) (d2 pLt (dVar 6) (dVar 5)))))) sNext)
    (sRet (dAnd (d2 pGt (dVar 4) (dVar 5)) (dAnd (d2 pLt (dVar 6) (dVar 7)) (dAnd (d2 pLt (dVar 6) (dVar 5)) (d2 pLt (dVar 4) (dVar 7)))))))))
def m_forbid : List PyData → Option PyData := fnD 8 b_forbid
def b_is_paper : Ev → Option Out :=
  (sSeq (sExprR (dBR m_check_story (dCons (dVar 0) dNil)))
    (sSeq (sIf (dOrT (dNotT (dTru (dIsi "tuple" (dVar 1)))) (dOrT (dNotT (dTru (dVar 1))) (dNotT (dTru (dIsi "str" (d2 pIx (dVar 1) (dC (.int 0)))))))) (sRet (dC (.bool false))) sNext)
    (sSeq (sIf (dTru (dLc [3] (dSeqI (dSl (dVar 1) (dPart (dC (.int 1))) dNoPart)) (aName 3) (dNotT (dTru (dB m_in_range (dCons (dVar 3) (dCons (dC (.int 0)) (dCons (dC (.int 9)) dNil)))))) (dVar 3))) (sRet (dC (.bool false))) sNext)
    (sSeq (sIf (dT (d2 pEq (d2 pIx (dVar 1) (dC (.int 0))) (dC (.str "early")))) (sRet (dAnd (d2 pEq (dB pLen (dCons (dVar 1) dNil)) (dC (.int 2))) (d2 (pInA false) (d2 pIx (dVar 1) (dC (.int 1))) (dB m_early_of (dCons (dVar 0) dNil))))) sNext)
    (sSeq (sIf (dOrT (dT (d2 (pInA true) (d2 pIx (dVar 1) (dC (.int 0))) (dTup (dCons (dC (.str "cross")) (dCons (dC (.str "inside")) dNil))))) (dOrT (dT (d2 pNe (dB pLen (dCons (dVar 1) dNil)) (dC (.int 3)))) (dT (d2 pEq (d2 pIx (dVar 1) (dC (.int 1))) (d2 pIx (dVar 1) (dC (.int 2))))))) (sRet (dC (.bool false))) sNext)
    (sSeq (sSet 2 (dB m_values_of (dCons (dVar 0) dNil)))
    (sRet (dAnd (d2 (pInA false) (d2 pIx (dVar 1) (dC (.int 1))) (dVar 2)) (dAnd (d2 (pInA false) (d2 pIx (dVar 1) (dC (.int 2))) (dVar 2)) (dB m_forbid (dCons (dVar 0) (dCons (d2 pIx (dVar 1) (dC (.int 0))) (dCons (d2 pIx (dVar 1) (dC (.int 1))) (dCons (d2 pIx (dVar 1) (dC (.int 2))) dNil))))))))))))))
def m_is_paper : List PyData → Option (Except Nat PyData) := fnX 4 b_is_paper
def b__law_explains : Ev → Option Out :=
  (sSeq (sIf (dOrT (dNotT (dTru (dIsi "tuple" (dVar 1)))) (dT (d2 pNe (dLc [5] (dSeqI (dVar 1)) (aName 5) (dNotT (dTru (dB m__law_in (dCons (dVar 5) (dCons (dC (.int 0)) (dCons (d2 pSub (dB pLen (dCons (dVar 0) dNil)) (dC (.int 1))) dNil)))))) (dVar 5)) (dLst dNil)))) (sRet (dC (.bool false))) sNext)
    (sSeq (sIf (dT (d2 pNe (dB pSort (dCons (dVar 1) dNil)) (dLstRg (dB pLen (dCons (dVar 0) dNil))))) (sRet (dC (.bool false))) sNext)
    (sSeq (sSet 2 (dC (.int 0)))
    (sSeq (sFor (dRng (dCons (dB pLen (dCons (dVar 1) dNil)) dNil)) (aName 3) (sSeq (sSet 4 (d2 pIx (dVar 0) (d2 pIx (dVar 1) (dVar 3))))
    (sSeq (sIf (dT (d2 pNe (dLc [5] (dSeqI (dSl (dVar 1) (dPart (d2 pAdd (dVar 3) (dC (.int 1)))) dNoPart)) (aName 5) (dT (d2 pLt (d2 pIx (d2 pIx (dVar 0) (dVar 5)) (dC (.int 3))) (d2 pIx (dVar 4) (dC (.int 2))))) (dVar 5)) (dLst dNil))) (sRet (dC (.bool false))) sNext)
    (sIf (dT (d2 pEq (d2 pIx (dVar 4) (dC (.int 0))) (dC (.str "write")))) (sSet 2 (d2 pIx (dVar 4) (dC (.int 1)))) (sIf (dT (d2 pNe (d2 pIx (dVar 4) (dC (.int 1))) (dVar 2))) (sRet (dC (.bool false))) sNext)))))
    (sRet (dC (.bool true)))))))
def m__law_explains : List PyData → Option PyData := fnD 6 b__law_explains
def b__law_first (self : List PyData → Option PyData) : Ev → Option Out :=
  (sSeq (sIf (dT (d2 pEq (dB pLen (dCons (dVar 1) dNil)) (dB pLen (dCons (dVar 0) dNil)))) (sRet (dVar 1)) sNext)
    (sSeq (sSet 2 (dLc [4] (dRng (dCons (dB pLen (dCons (dVar 0) dNil)) dNil)) (aName 4) (dT (d2 (pInA true) (dVar 4) (dVar 1))) (dVar 4)))
    (sSeq (sSet 3 (d2 pAdd (dLst (dCons (dC (.int 0)) dNil)) (dLc [4] (dSeqI (dVar 1)) (aName 4) (dT (d2 pEq (d2 pIx (d2 pIx (dVar 0) (dVar 4)) (dC (.int 0))) (dC (.str "write")))) (d2 pIx (d2 pIx (dVar 0) (dVar 4)) (dC (.int 1))))))
    (sSeq (sFor (dSeqI (dVar 2)) (aName 4) (sSeq (sTgt (aTup [5, 6, 7, 8]) (d2 pIx (dVar 0) (dVar 4)))
    (sSeq (sSet 9 (dLc [11] (dSeqI (dVar 2)) (aName 11) (dT (d2 pLt (d2 pIx (d2 pIx (dVar 0) (dVar 11)) (dC (.int 3))) (dVar 7))) (dVar 11)))
    (sIf (dAndT (dT (d2 pEq (dVar 9) (dLst dNil))) (dOrT (dT (d2 pEq (dVar 5) (dC (.str "write")))) (dT (d2 pEq (dVar 6) (d2 pIx (dVar 3) (d1 pNeg (dC (.int 1)))))))) (sSeq (sSet 10 (dB self (dCons (dVar 0) (dCons (d2 pAdd (dVar 1) (dTup (dCons (dVar 4) dNil))) dNil))))
    (sIf (dT (d2 (pIsN true) (dVar 10) (dC .none))) (sRet (dVar 10)) sNext)) sNext))))
    (sRet (dC .none))))))
def m__law_first : Nat → List PyData → Option PyData
  | 0 => fun _ => none
  | n + 1 => fnD 12 (b__law_first (m__law_first n))
def b_can_explain : Ev → Option Out :=
  (sSeq (sExprR (dBR m_check_story (dCons (dVar 0) dNil)))
    (sRet (d2 pNe (dB m_explanations_of (dCons (dVar 0) (dCons (dC (.int 1)) dNil))) (dLst dNil))))
def m_can_explain : List PyData → Option (Except Nat PyData) := fnX 1 b_can_explain
def b__law_zone : Ev → Option Out :=
  (sSeq (sSet 2 (d2 pAdd (dLc [4] (dSeqI (dVar 0)) (aName 4) (dT (d2 pEq (d2 pIx (dVar 4) (dC (.int 1))) (dVar 1))) (d2 pIx (dVar 4) (dC (.int 3)))) (d2 pMul (dLst (dCons (d1 pNeg (dC (.int 1))) dNil)) (dB pInt (dCons (d2 pEq (dVar 1) (dC (.int 0))) dNil)))))
    (sSeq (sSet 3 (d2 pAdd (dLc [4] (dSeqI (dVar 0)) (aName 4) (dT (d2 pEq (d2 pIx (dVar 4) (dC (.int 1))) (dVar 1))) (d2 pIx (dVar 4) (dC (.int 2)))) (d2 pMul (dLst (dCons (d1 pNeg (dC (.int 2))) dNil)) (dB pInt (dCons (d2 pEq (dVar 1) (dC (.int 0))) dNil)))))
    (sRet (dTup (dCons (dB pMin (dCons (dVar 2) dNil)) (dCons (dB pMax (dCons (dVar 3) dNil)) dNil))))))
def m__law_zone : List PyData → Option PyData := fnD 5 b__law_zone
def b__law_values : Ev → Option Out :=
  (sRet (d2 pAdd (dLst (dCons (dC (.int 0)) dNil)) (dB pSort (dCons (dLc [1] (dSeqI (dVar 0)) (aName 1) (dT (d2 pEq (d2 pIx (dVar 1) (dC (.int 0))) (dC (.str "write")))) (d2 pIx (dVar 1) (dC (.int 1)))) dNil))))
def m__law_values : List PyData → Option PyData := fnD 2 b__law_values
def b__law_is_paper : Ev → Option Out :=
  (sSeq (sIf (dOrT (dNotT (dTru (dIsi "tuple" (dVar 1)))) (dOrT (dT (d2 pEq (dVar 1) (dTup dNil))) (dT (d2 (pInA true) (d2 pIx (dVar 1) (dC (.int 0))) (dTup (dCons (dC (.str "early")) (dCons (dC (.str "cross")) (dCons (dC (.str "inside")) dNil)))))))) (sRet (dC (.bool false))) sNext)
    (sSeq (sIf (dT (d2 pNe (dLc [4] (dSeqI (dSl (dVar 1) (dPart (dC (.int 1))) dNoPart)) (aName 4) (dNotT (dTru (dB m__law_in (dCons (dVar 4) (dCons (dC (.int 0)) (dCons (dC (.int 9)) dNil)))))) (dVar 4)) (dLst dNil))) (sRet (dC (.bool false))) sNext)
    (sSeq (sIf (dT (d2 pEq (d2 pIx (dVar 1) (dC (.int 0))) (dC (.str "early")))) (sSeq (sIf (dOrT (dT (d2 pNe (dB pLen (dCons (dVar 1) dNil)) (dC (.int 2)))) (dOrT (dT (d2 pGe (d2 pIx (dVar 1) (dC (.int 1))) (dB pLen (dCons (dVar 0) dNil)))) (dOrT (dT (d2 pEq (d2 pIx (d2 pIx (dVar 0) (d2 pIx (dVar 1) (dC (.int 1)))) (dC (.int 0))) (dC (.str "write")))) (dT (d2 pEq (d2 pIx (d2 pIx (dVar 0) (d2 pIx (dVar 1) (dC (.int 1)))) (dC (.int 1))) (dC (.int 0))))))) (sRet (dC (.bool false))) sNext)
    (sSeq (sSet 2 (dLc [4] (dSeqI (dVar 0)) (aName 4) (dAndT (dT (d2 pEq (d2 pIx (dVar 4) (dC (.int 0))) (dC (.str "write")))) (dT (d2 pEq (d2 pIx (dVar 4) (dC (.int 1))) (d2 pIx (d2 pIx (dVar 0) (d2 pIx (dVar 1) (dC (.int 1)))) (dC (.int 1)))))) (d2 pIx (dVar 4) (dC (.int 2)))))
    (sRet (dOr (d2 pEq (dVar 2) (dLst dNil)) (d2 pGt (d2 pIx (dVar 2) (dC (.int 0))) (d2 pIx (d2 pIx (dVar 0) (d2 pIx (dVar 1) (dC (.int 1)))) (dC (.int 3)))))))) sNext)
    (sSeq (sSet 3 (dB m__law_values (dCons (dVar 0) dNil)))
    (sSeq (sIf (dOrT (dT (d2 pNe (dB pLen (dCons (dVar 1) dNil)) (dC (.int 3)))) (dOrT (dT (d2 pEq (d2 pIx (dVar 1) (dC (.int 1))) (d2 pIx (dVar 1) (dC (.int 2))))) (dOrT (dT (d2 (pInA true) (d2 pIx (dVar 1) (dC (.int 1))) (dVar 3))) (dT (d2 (pInA true) (d2 pIx (dVar 1) (dC (.int 2))) (dVar 3)))))) (sRet (dC (.bool false))) sNext)
    (sSeq (sPar 4 5 (dB m__law_zone (dCons (dVar 0) (dCons (d2 pIx (dVar 1) (dC (.int 1))) dNil))) (dB m__law_zone (dCons (dVar 0) (dCons (d2 pIx (dVar 1) (dC (.int 2))) dNil))))
    (sSeq (sIf (dOrT (dT (d2 pGt (d2 pIx (dVar 5) (dC (.int 0))) (d2 pIx (dVar 5) (dC (.int 1))))) (dOrT (dT (d2 pGt (d2 pIx (dVar 4) (dC (.int 0))) (d2 pIx (dVar 5) (dC (.int 1))))) (dT (d2 pGt (d2 pIx (dVar 5) (dC (.int 0))) (d2 pIx (dVar 4) (dC (.int 1))))))) (sRet (dC (.bool false))) sNext)
    (sRet (d2 pEq (d2 pLt (d2 pIx (dVar 4) (dC (.int 0))) (d2 pIx (dVar 4) (dC (.int 1)))) (d2 pEq (d2 pIx (dVar 1) (dC (.int 0))) (dC (.str "cross"))))))))))))
def m__law_is_paper : List PyData → Option PyData := fnD 6 b__law_is_paper
def b_explanation : Ev → Option Out :=
  (sSeq (sExprR (dBR m_check_story (dCons (dVar 0) dNil)))
    (sSeq (sSet 1 (dB m_explanations_of (dCons (dVar 0) (dCons (dC (.int 1)) dNil))))
    (sSeq (sIf (dNotT (dTru (dVar 1))) (sRaise 4) sNext)
    (sRet (d2 pIx (dVar 1) (dC (.int 0)))))))
def m_explanation : List PyData → Option (Except Nat PyData) := fnX 2 b_explanation
def b_paper_of : Ev → Option Out :=
  (sSeq (sSet 1 (dB m_early_of (dCons (dVar 0) dNil)))
    (sSeq (sIf (dTru (dVar 1)) (sRet (dTup (dCons (dC (.str "early")) (dCons (d2 pIx (dVar 1) (dC (.int 0))) dNil)))) sNext)
    (sSeq (sSet 2 (dB m_values_of (dCons (dVar 0) dNil)))
    (sSeq (sFor (dSeqI (dTup (dCons (dC (.str "cross")) (dCons (dC (.str "inside")) dNil)))) (aName 3) (sFor (dSeqI (dVar 2)) (aName 4) (sFor (dSeqI (dVar 2)) (aName 5) (sIf (dAndT (dT (d2 pNe (dVar 4) (dVar 5))) (dTru (dB m_forbid (dCons (dVar 0) (dCons (dVar 3) (dCons (dVar 4) (dCons (dVar 5) dNil))))))) (sRet (dTup (dCons (dVar 3) (dCons (dVar 4) (dCons (dVar 5) dNil))))) sNext))))
    (sRet (dC .none))))))
def m_paper_of : List PyData → Option PyData := fnD 6 b_paper_of
def b_paper : Ev → Option Out :=
  (sSeq (sExprR (dBR m_check_story (dCons (dVar 0) dNil)))
    (sSeq (sSet 1 (dB m_paper_of (dCons (dVar 0) dNil)))
    (sSeq (sIf (dT (d2 (pIsN false) (dVar 1) (dC .none))) (sRaise 5) sNext)
    (sRet (dVar 1)))))
def m_paper : List PyData → Option (Except Nat PyData) := fnX 2 b_paper
def b__law_decided : Ev → Option Out :=
  (sTry 2 (rIf (dT (d2 pEq (dVar 0) (dC (.int 0)))) (dBR m_explanation (dCons (dVar 1) dNil)) (dBR m_paper (dCons (dVar 1) dNil))) [(4, .str "no"), (5, .str "explained")])
def m__law_decided : List PyData → Option PyData := fnD 3 b__law_decided
def b__law_every : Ev → Option Out :=
  (sSeq (sSet 1 (dLst (dCons (dTup dNil) dNil)))
    (sSeq (sFor (dRng (dCons (dB pLen (dCons (dVar 0) dNil)) dNil)) (aName 2) (sSeq (sOwn 3 (fLst dNil))
    (sSeq (sFor (dSeqI (dVar 1)) (aName 4) (sSeq (sSet 5 (d2 pAdd (dLst (dCons (dC (.int 0)) dNil)) (dLc [7] (dSeqI (dVar 4)) (aName 7) (dT (d2 pEq (d2 pIx (d2 pIx (dVar 0) (dVar 7)) (dC (.int 0))) (dC (.str "write")))) (d2 pIx (d2 pIx (dVar 0) (dVar 7)) (dC (.int 1))))))
    (sSeq (sSet 6 (dLc [7] (dRng (dCons (dB pLen (dCons (dVar 0) dNil)) dNil)) (aName 7) (dT (d2 (pInA true) (dVar 7) (dVar 4))) (dVar 7)))
    (sFor (dSeqI (dVar 6)) (aName 7) (sSeq (sTgt (aTup [8, 9, 10, 11]) (d2 pIx (dVar 0) (dVar 7)))
    (sIf (dAndT (dT (d2 pEq (dLc [12] (dSeqI (dVar 6)) (aName 12) (dT (d2 pLt (d2 pIx (d2 pIx (dVar 0) (dVar 12)) (dC (.int 3))) (dVar 10))) (dVar 12)) (dLst dNil))) (dOrT (dT (d2 pEq (dVar 8) (dC (.str "write")))) (dT (d2 pEq (dVar 9) (d2 pIx (dVar 5) (d1 pNeg (dC (.int 1)))))))) (sApp 3 (d2 pAdd (dVar 4) (dTup (dCons (dVar 7) dNil)))) sNext))))))
    (sMove 1 3))))
    (sRet (dVar 1))))
def m__law_every : List PyData → Option PyData := fnD 13 b__law_every
def b_sure_pairs : Ev → Option Out :=
  (sSeq (sExprR (dBR m_check_story (dCons (dVar 0) dNil)))
    (sSeq (sSet 1 (dB m_explanations_of (dCons (dVar 0) (dCons (dC (.int 720)) dNil))))
    (sSeq (sIf (dNotT (dTru (dVar 1))) (sRaise 4) sNext)
    (sSeq (sOwn 2 (fLst dNil))
    (sSeq (sFor (dRng (dCons (dB pLen (dCons (dVar 0) dNil)) dNil)) (aName 3) (sFor (dRng (dCons (dB pLen (dCons (dVar 0) dNil)) dNil)) (aName 4) (sIf (dAndT (dT (d2 pNe (dVar 3) (dVar 4))) (dNotT (dTru (dLc [5] (dSeqI (dVar 1)) (aName 5) (dT (d2 pGt (d2 pTIndex (dVar 5) (dVar 3)) (d2 pTIndex (dVar 5) (dVar 4)))) (dVar 5))))) (sApp 2 (dTup (dCons (dVar 3) (dCons (dVar 4) dNil)))) sNext)))
    (sRet (dVar 2)))))))
def m_sure_pairs : List PyData → Option (Except Nat PyData) := fnX 6 b_sure_pairs
def b__law_sure : Ev → Option Out :=
  (sTry 1 (dBR m_sure_pairs (dCons (dVar 0) dNil)) [(4, .str "no")])
def m__law_sure : List PyData → Option PyData := fnD 2 b__law_sure
def b__law_read : Ev → Option Out :=
  (sTry 3 (dBR m_possible_values (dCons (dVar 0) (dCons (dVar 1) (dCons (dVar 2) dNil)))) [(2, .str "number"), (1, .str "operation")])
def m__law_read : List PyData → Option PyData := fnD 4 b__law_read
def b_best_pair : Ev → Option Out :=
  (sSeq (sSetR 2 (dBR m_candidates (dCons (dVar 0) (dCons (dVar 1) dNil))))
    (sSeq (sIf (dNotT (dTru (dVar 2))) (sRaise 3) sNext)
    (sSeq (sSet 3 (dC .none))
    (sSeq (sFor (dRng (dCons (dB pLen (dCons (dVar 0) dNil)) dNil)) (aName 4) (sFor (dRng (dCons (d2 pAdd (dVar 4) (dC (.int 1))) (dCons (dB pLen (dCons (dVar 0) dNil)) dNil))) (aName 5) (sSeq (sSet 6 (dB pLen (dCons (dLc [8] (dSeqI (dVar 2)) (aName 8) (dT (d2 pLt (d2 pTIndex (dVar 8) (dVar 4)) (d2 pTIndex (dVar 8) (dVar 5)))) (dVar 8)) dNil)))
    (sSeq (sSet 7 (dB pMax (dCons (dVar 6) (dCons (d2 pSub (dB pLen (dCons (dVar 2) dNil)) (dVar 6)) dNil))))
    (sIf (dAndT (dT (d2 pLt (dVar 7) (dB pLen (dCons (dVar 2) dNil)))) (dOrT (dT (d2 (pIsN false) (dVar 3) (dC .none))) (dT (d2 pLt (dVar 7) (d2 pIx (dVar 3) (dC (.int 0))))))) (sSet 3 (dTup (dCons (dVar 7) (dCons (dTup (dCons (dVar 4) (dCons (dVar 5) dNil))) dNil)))) sNext)))))
    (sRet (dIf (dT (d2 (pIsN false) (dVar 3) (dC .none))) (dC .none) (d2 pIx (dVar 3) (dC (.int 1)))))))))
def m_best_pair : List PyData → Option (Except Nat PyData) := fnX 9 b_best_pair
def b__law_hidden : Ev → Option Out :=
  (sTry 3 (rIf (dT (d2 pEq (dVar 0) (dC (.int 0)))) (dBR m_candidates (dCons (dVar 1) (dCons (dVar 2) dNil))) (dBR m_best_pair (dCons (dVar 1) (dCons (dVar 2) dNil)))) [(4, .str "no"), (3, .str "answers")])
def m__law_hidden : List PyData → Option PyData := fnD 4 b__law_hidden
def b__law_best : Ev → Option Out :=
  (sSeq (sIf (dT (d2 pEq (dVar 1) (dLst dNil))) (sRet (dC (.str "answers"))) sNext)
    (sSeq (sSet 2 (dC .none))
    (sSeq (sFor (dRng (dCons (dVar 0) dNil)) (aName 3) (sFor (dRng (dCons (d2 pAdd (dVar 3) (dC (.int 1))) (dCons (dVar 0) dNil))) (aName 4) (sSeq (sSet 5 (dB pLen (dCons (dLc [7] (dSeqI (dVar 1)) (aName 7) (dT (d2 pLt (d2 pTIndex (dVar 7) (dVar 3)) (d2 pTIndex (dVar 7) (dVar 4)))) (dVar 7)) dNil)))
    (sSeq (sSet 6 (dB pMax (dCons (dVar 5) (dCons (d2 pSub (dB pLen (dCons (dVar 1) dNil)) (dVar 5)) dNil))))
    (sIf (dAndT (dT (d2 pLt (dVar 6) (dB pLen (dCons (dVar 1) dNil)))) (dOrT (dT (d2 (pIsN false) (dVar 2) (dC .none))) (dT (d2 pLt (dVar 6) (d2 pIx (dVar 2) (dC (.int 0))))))) (sSet 2 (dTup (dCons (dVar 6) (dCons (dTup (dCons (dVar 3) (dCons (dVar 4) dNil))) dNil)))) sNext)))))
    (sRet (dIf (dT (d2 (pIsN false) (dVar 2) (dC .none))) (dC .none) (d2 pIx (dVar 2) (dC (.int 1))))))))
def m__law_best : List PyData → Option PyData := fnD 8 b__law_best
def b_places : Ev → Option Out :=
  (sSeq (sExprR (dBR m_check_story (dCons (dVar 0) dNil)))
    (sSeq (sSet 1 (dB m_explanations_of (dCons (dVar 0) (dCons (dC (.int 720)) dNil))))
    (sSeq (sIf (dNotT (dTru (dVar 1))) (sRaise 4) sNext)
    (sSeq (sOwn 2 (fLst dNil))
    (sSeq (sFor (dRng (dCons (dB pLen (dCons (dVar 0) dNil)) dNil)) (aName 3) (sSeq (sSet 4 (dLc [5] (dSeqI (dVar 1)) (aName 5) dYes (d2 pTIndex (dVar 5) (dVar 3))))
    (sApp 2 (dTup (dCons (dB pMin (dCons (dVar 4) dNil)) (dCons (dB pMax (dCons (dVar 4) dNil)) dNil))))))
    (sRet (dVar 2)))))))
def m_places : List PyData → Option (Except Nat PyData) := fnX 6 b_places
def b__law_places : Ev → Option Out :=
  (sTry 1 (dBR m_places (dCons (dVar 0) dNil)) [(4, .str "no")])
def m__law_places : List PyData → Option PyData := fnD 2 b__law_places
def b__law_moved : Ev → Option Out :=
  (sRet (dB pTuple (dCons (dLc [3, 4, 5, 6] (dSeqI (dVar 0)) (aTup [3, 4, 5, 6]) dYes (dTup (dCons (dVar 3) (dCons (dVar 4) (dCons (d2 pAdd (dVar 1) (d2 pMul (dVar 2) (dVar 5))) (dCons (d2 pAdd (dVar 1) (d2 pMul (dVar 2) (dVar 6))) dNil)))))) dNil)))
def m__law_moved : List PyData → Option PyData := fnD 7 b__law_moved
end CS
/-! M0: how the denotations are reckoned with: one step at a time. -/
namespace CS
open PySem
/-! statements -/
def kSeq (G : Ev → Option Out) : Out → Option Out
  | .nx ρ => G ρ
  | o => some o
@[simp] theorem e_seq (F G : Ev → Option Out) (ρ : Ev) : sSeq F G ρ = (F ρ).bind (kSeq G) := by
  unfold sSeq
  congr 1
@[simp] theorem k_nx (G : Ev → Option Out) (ρ : Ev) : kSeq G (.nx ρ) = G ρ := rfl
@[simp] theorem k_rt (G : Ev → Option Out) (d : PyData) : kSeq G (.rt d) = some (.rt d) := rfl
@[simp] theorem k_bk (G : Ev → Option Out) (d : Ev) : kSeq G (.bk d) = some (.bk d) := rfl
@[simp] theorem k_ct (G : Ev → Option Out) (d : Ev) : kSeq G (.ct d) = some (.ct d) := rfl
@[simp] theorem k_xc (G : Ev → Option Out) (k : Nat) (d : Ev) : kSeq G (.xc k d) = some (.xc k d) := rfl
@[simp] theorem e_next (ρ : Ev) : sNext ρ = some (.nx ρ) := rfl
@[simp] theorem e_break (ρ : Ev) : sBreak ρ = some (.bk ρ) := rfl
@[simp] theorem e_set (i : Nat) (f : Ev → Option PyData) (ρ : Ev) : sSet i f ρ = (f ρ).map fun d => .nx (ρ.set i (.dat d)) := rfl
@[simp] theorem e_setV (i : Nat) (f : Ev → Option PyData) (ρ : Ev) : sSetV i f ρ = (f (view ρ)).bind fun d => if flatD d = true then some (.nx (ρ.set i (.dat d))) else none := rfl
@[simp] theorem e_tgt (a : PyData → Option (List (Nat × PyData))) (f : Ev → Option PyData) (ρ : Ev) : sTgt a f ρ = (f ρ).bind fun d => (a d).map fun as => .nx (setD ρ as) := rfl
@[simp] theorem e_ret (f : Ev → Option PyData) (ρ : Ev) : sRet f ρ = (f (view ρ)).map .rt := rfl
@[simp] theorem e_retN (ρ : Ev) : sRetN ρ = some (.rt .none) := rfl
@[simp] theorem e_expr (f : Ev → Option PyData) (ρ : Ev) : sExpr f ρ = (f (view ρ)).map fun _ => .nx ρ := rfl
def kIf (F G : Ev → Option Out) (ρ : Ev) (b : Bool) : Option Out := if b = true then F ρ else G ρ
@[simp] theorem e_sif (c : Ev → Option Bool) (F G : Ev → Option Out) (ρ : Ev) : sIf c F G ρ = (c (view ρ)).bind (kIf F G ρ) := rfl
@[simp] theorem kIf_t (F G : Ev → Option Out) (ρ : Ev) : kIf F G ρ true = F ρ := rfl
@[simp] theorem kIf_f (F G : Ev → Option Out) (ρ : Ev) : kIf F G ρ false = G ρ := rfl
@[simp] theorem e_aug (i : Nat) (op : PyData → PyData → Option PyData) (f : Ev → Option PyData) (ρ : Ev) : sAug i op f ρ = (dVar i ρ).bind fun a => (f (view ρ)).bind fun b => (op a b).map fun d => .nx (ρ.set i (.dat d)) := rfl
@[simp] theorem e_own (i : Nat) (f : Ev → Option (List PyData)) (ρ : Ev) : sOwn i f ρ = (f ρ).map fun ds => .nx (ρ.set i (.own ds)) := rfl
@[simp] theorem e_ownV (i : Nat) (f : Ev → Option (List PyData)) (ρ : Ev) : sOwnV i f ρ = (f (view ρ)).bind fun ds => if flatDs ds = true then some (.nx (ρ.set i (.own ds))) else none := rfl
@[simp] theorem e_app (i : Nat) (f : Ev → Option PyData) (ρ : Ev) : sApp i f ρ = (ownAt i ρ).bind fun ds => (f ρ).bind fun d => if ds.length < 65536 then some (.nx (ρ.set i (.own (ds ++ [d])))) else none := rfl
@[simp] theorem e_appV (i : Nat) (f : Ev → Option PyData) (ρ : Ev) : sAppV i f ρ = (ownAt i ρ).bind fun ds => (f (view ρ)).bind fun d => if ds.length < 65536 ∧ flatD d = true then some (.nx (ρ.set i (.own (ds ++ [d])))) else none := rfl
@[simp] theorem e_ext (i : Nat) (f : Ev → Option PyData) (ρ : Ev) : sExt i f ρ = (ownAt i ρ).bind fun ds => ((f ρ).bind asL).bind fun es => if ds.length + es.length ≤ 65536 then some (.nx (ρ.set i (.own (ds ++ es)))) else none := rfl
@[simp] theorem e_for (fi : Ev → Option (List PyData)) (a : PyData → Option (List (Nat × PyData))) (F : Ev → Option Out) (ρ : Ev) : sFor fi a F ρ = (fi ρ).bind fun ds => forD a F ds ρ := rfl
@[simp] theorem e_forV (fi : Ev → Option (List PyData)) (a : PyData → Option (List (Nat × PyData))) (F : Ev → Option Out) (ρ : Ev) : sForV fi a F ρ = (fi (view ρ)).bind fun ds => forD a F ds ρ := rfl
@[simp] theorem e_par (i j : Nat) (f g : Ev → Option PyData) (ρ : Ev) : sPar i j f g ρ = (f ρ).bind fun a => (g ρ).bind fun b => some (.nx ((ρ.set i (.dat a)).set j (.dat b))) := rfl
@[simp] theorem e_parO (i j : Nat) (f : Ev → Option (List PyData)) (g : Ev → Option PyData) (ρ : Ev) : sParO i j f g ρ = (f ρ).bind fun a => (g ρ).bind fun b => some (.nx ((ρ.set i (.own a)).set j (.dat b))) := rfl
@[simp] theorem e_oio (i j k : Nat) (n : Int) (ρ : Ev) : sOIO i j k n ρ = some (.nx (((ρ.set i (.own [])).set j (.dat (.int n))).set k (.own []))) := rfl
@[simp] theorem e_dnew (i : Nat) (ρ : Ev) : sDNew i ρ = some (.nx (ρ.set i (.dct []))) := rfl
@[simp] theorem e_dput (i : Nat) (f g h : Ev → Option PyData) (ρ : Ev) : sDPut' i f g h ρ = (dctAt i ρ).bind fun kvs => (key2 f g ρ).bind fun k => (h ρ).bind fun d => if kvs.length < 65536 then some (.nx (ρ.set i (.dct (putD kvs k d)))) else none := rfl
@[simp] theorem e_move (i j : Nat) (ρ : Ev) : sMove j i ρ = (ownAt i ρ).map fun ds => .nx ((ρ.set i .no).set j (.dat (.list ds))) := rfl
@[simp] theorem e_raise (k : Nat) (ρ : Ev) : sRaise k ρ = some (.xc k ρ) := rfl
@[simp] theorem e_retR (f : Ev → Option (Except Nat PyData)) (ρ : Ev) : sRetR f ρ = (f (view ρ)).map fun r => match r with
  | .ok d => .rt d
  | .error k => .xc k ρ := rfl
@[simp] theorem e_exprR (f : Ev → Option (Except Nat PyData)) (ρ : Ev) : sExprR f ρ = (f (view ρ)).map fun r => match r with
  | .ok _ => .nx ρ
  | .error k => .xc k ρ := rfl
@[simp] theorem e_fn (n : Nat) (F : Ev → Option Out) (as : List PyData) : fnD n F as = (F (start0 n as)).bind outD := rfl
@[simp] theorem e_fnX (n : Nat) (F : Ev → Option Out) (as : List PyData) : fnX n F as = (F (start0 n as)).bind outX := rfl
@[simp] theorem o_rt (d : PyData) : outD (.rt d) = some d := rfl
@[simp] theorem o_nx (d : Ev) : outD (.nx d) = some .none := rfl
@[simp] theorem ox_rt (d : PyData) : outX (.rt d) = some (.ok d) := rfl
@[simp] theorem ox_nx (d : Ev) : outX (.nx d) = some (.ok .none) := rfl
@[simp] theorem ox_xc (k : Nat) (d : Ev) : outX (.xc k d) = some (.error k) := rfl
@[simp] theorem e_start1 (n : Nat) (a : PyData) : start0 (n + 1) [a] = .dat a :: List.replicate n .no := rfl
@[simp] theorem e_start2 (n : Nat) (a b : PyData) : start0 (n + 2) [a, b] = .dat a :: .dat b :: List.replicate n .no := rfl
@[simp] theorem e_start3 (n : Nat) (a b c : PyData) : start0 (n + 3) [a, b, c] = .dat a :: .dat b :: .dat c :: List.replicate n .no := rfl
@[simp] theorem e_start4 (n : Nat) (a b c d : PyData) : start0 (n + 4) [a, b, c, d] = .dat a :: .dat b :: .dat c :: .dat d :: List.replicate n .no := rfl
/-! the environment -/
@[simp] theorem v_nil : view [] = [] := rfl
@[simp] theorem v_cons (c : Cell) (ρ : Ev) : view (c :: ρ) = vw c :: view ρ := rfl
@[simp] theorem v_no : vw .no = .no := rfl
@[simp] theorem v_dat (d : PyData) : vw (.dat d) = .dat d := rfl
@[simp] theorem v_own (d : List PyData) : vw (.own d) = .dat (.list d) := rfl
@[simp] theorem v_dct (d : List (List L2.Key × PyData)) : vw (.dct d) = .dct d := by first | rfl
@[simp] theorem var_0 (d : PyData) (ρ : Ev) : dVar 0 (.dat d :: ρ) = some d := rfl
@[simp] theorem var_s (i : Nat) (c : Cell) (ρ : Ev) : dVar (i + 1) (c :: ρ) = dVar i ρ := rfl
@[simp] theorem own_0 (d : List PyData) (ρ : Ev) : ownAt 0 (.own d :: ρ) = some d := rfl
@[simp] theorem own_s (i : Nat) (c : Cell) (ρ : Ev) : ownAt (i + 1) (c :: ρ) = ownAt i ρ := rfl
@[simp] theorem dct_0 (d : List (List L2.Key × PyData)) (ρ : Ev) : dctAt 0 (.dct d :: ρ) = some d := rfl
@[simp] theorem dct_s (i : Nat) (c : Cell) (ρ : Ev) : dctAt (i + 1) (c :: ρ) = dctAt i ρ := rfl
@[simp] theorem sD_nil (ρ : Ev) : setD ρ [] = ρ := rfl
@[simp] theorem sD_cons (ρ : Ev) (i : Nat) (d : PyData) (as : List (Nat × PyData)) : setD ρ ((i, d) :: as) = setD (ρ.set i (.dat d)) as := rfl
@[simp] theorem wD_nil (ρ : Ev) : wipeD ρ [] = ρ := rfl
@[simp] theorem wD_cons (ρ : Ev) (i : Nat) (is : List Nat) : wipeD ρ (i :: is) = (wipeD ρ is).set i .no := rfl
@[simp] theorem a_name (i : Nat) (d : PyData) : aName i d = some [(i, d)] := rfl
@[simp] theorem a_tup2 (i j : Nat) (a b : PyData) : aTup [i, j] (.tuple [a, b]) = some [(i, a), (j, b)] := rfl
@[simp] theorem a_tup4 (i j k l : Nat) (a b c d : PyData) : aTup [i, j, k, l] (.tuple [a, b, c, d]) = some [(i, a), (j, b), (k, c), (l, d)] := rfl
@[simp] theorem set_0 (c d : Cell) (ρ : Ev) : List.set (c :: ρ) 0 d = d :: ρ := rfl
@[simp] theorem set_s (i : Nat) (c d : Cell) (ρ : Ev) : List.set (c :: ρ) (i + 1) d = c :: List.set ρ i d := rfl
@[simp] theorem rep_0 (c : Cell) : List.replicate 0 c = [] := rfl
@[simp] theorem rep_s (n : Nat) (c : Cell) : List.replicate (n + 1) c = c :: List.replicate n c := rfl
/-! expressions -/
@[simp] theorem x_C (d : PyData) (ρ : Ev) : dC d ρ = some d := rfl
@[simp] theorem x_d2 (op : PyData → PyData → Option PyData) (f g : Ev → Option PyData) (ρ : Ev) : d2 op f g ρ = (f ρ).bind fun a => (g ρ).bind fun b => op a b := rfl
@[simp] theorem x_d1 (op : PyData → Option PyData) (f : Ev → Option PyData) (ρ : Ev) : d1 op f ρ = (f ρ).bind op := rfl
@[simp] theorem x_nil (ρ : Ev) : dNil ρ = some [] := rfl
@[simp] theorem x_cons (f : Ev → Option PyData) (g : Ev → Option (List PyData)) (ρ : Ev) : dCons f g ρ = (f ρ).bind fun a => (g ρ).bind fun as => some (a :: as) := rfl
@[simp] theorem x_tup (g : Ev → Option (List PyData)) (ρ : Ev) : dTup g ρ = (g ρ).bind fun as => if as.length ≤ 65536 then some (.tuple as) else none := rfl
@[simp] theorem x_lst (g : Ev → Option (List PyData)) (ρ : Ev) : dLst g ρ = (g ρ).bind fun as => if as.length ≤ 65536 then some (.list as) else none := rfl
@[simp] theorem x_flst (g : Ev → Option (List PyData)) (ρ : Ev) : fLst g ρ = (g ρ).bind fun as => if as.length ≤ 65536 then some as else none := rfl
@[simp] theorem x_B (op : List PyData → Option PyData) (g : Ev → Option (List PyData)) (ρ : Ev) : dB op g ρ = (g ρ).bind op := rfl
@[simp] theorem x_T (f : Ev → Option PyData) (ρ : Ev) : dT f ρ = (f ρ).bind asB := rfl
@[simp] theorem x_Tru (f : Ev → Option PyData) (ρ : Ev) : dTru f ρ = (f ρ).bind pTru := rfl
def kAnd {α : Type} (x : Option α) (y : α) (b : Bool) : Option α := if b = true then x else some y
@[simp] theorem kAnd_t {α : Type} (x : Option α) (y : α) : kAnd x y true = x := rfl
@[simp] theorem kAnd_f {α : Type} (x : Option α) (y : α) : kAnd x y false = some y := rfl
def kOr {α : Type} (x : Option α) (y : α) (b : Bool) : Option α := if b = true then some y else x
@[simp] theorem kOr_t {α : Type} (x : Option α) (y : α) : kOr x y true = some y := rfl
@[simp] theorem kOr_f {α : Type} (x : Option α) (y : α) : kOr x y false = x := rfl
@[simp] theorem kAnd_b (y b : Bool) : kAnd (some y) false b = some (b && y) := by cases b <;> rfl
@[simp] theorem kOr_b (y b : Bool) : kOr (some y) true b = some (b || y) := by cases b <;> rfl
@[simp] theorem kAnd_d (y b : Bool) : kAnd (some (PyData.bool y)) (.bool false) b = some (.bool (b && y)) := by cases b <;> rfl
@[simp] theorem kOr_d (y b : Bool) : kOr (some (PyData.bool y)) (.bool true) b = some (.bool (b || y)) := by cases b <;> rfl
@[simp] theorem x_AndT (f g : Ev → Option Bool) (ρ : Ev) : dAndT f g ρ = (f ρ).bind (kAnd (g ρ) false) := rfl
@[simp] theorem x_OrT (f g : Ev → Option Bool) (ρ : Ev) : dOrT f g ρ = (f ρ).bind (kOr (g ρ) true) := rfl
@[simp] theorem x_NotT (f : Ev → Option Bool) (ρ : Ev) : dNotT f ρ = (f ρ).bind fun b => some (!b) := rfl
@[simp] theorem x_And (f g : Ev → Option PyData) (ρ : Ev) : dAnd f g ρ = ((f ρ).bind asB).bind (kAnd (g ρ) (.bool false)) := rfl
@[simp] theorem x_Or (f g : Ev → Option PyData) (ρ : Ev) : dOr f g ρ = ((f ρ).bind asB).bind (kOr (g ρ) (.bool true)) := rfl
@[simp] theorem x_Not (f : Ev → Option PyData) (ρ : Ev) : dNot f ρ = ((f ρ).bind pTru).bind fun b => some (.bool (!b)) := rfl
def kIfE (x y : Option PyData) (b : Bool) : Option PyData := if b = true then x else y
@[simp] theorem kIfE_t (x y : Option PyData) : kIfE x y true = x := rfl
@[simp] theorem kIfE_f (x y : Option PyData) : kIfE x y false = y := rfl
@[simp] theorem kIfE_d (x y : PyData) (b : Bool) : kIfE (some x) (some y) b = some (if b = true then x else y) := by cases b <;> rfl
@[simp] theorem x_If (c : Ev → Option Bool) (f g : Ev → Option PyData) (ρ : Ev) : dIf c f g ρ = (c ρ).bind (kIfE (f ρ) (g ρ)) := rfl
@[simp] theorem x_Part (f : Ev → Option PyData) (ρ : Ev) : dPart f ρ = ((f ρ).bind asI).map some := rfl
@[simp] theorem x_noPart (ρ : Ev) : dNoPart ρ = some none := rfl
@[simp] theorem x_Sl (f : Ev → Option PyData) (lo hi : Ev → Option (Option Int)) (ρ : Ev) : dSl f lo hi ρ = (f ρ).bind fun a => (lo ρ).bind fun l => (hi ρ).bind fun h => pSl a l h := rfl
@[simp] theorem x_Isi (T : String) (f : Ev → Option PyData) (ρ : Ev) : dIsi T f ρ = (f ρ).bind fun a => if noDict a = true then some (.bool (isD T a)) else none := rfl
@[simp] theorem x_SeqI (f : Ev → Option PyData) (ρ : Ev) : dSeqI f ρ = (f ρ).bind asSeq := rfl
@[simp] theorem x_Rng (g : Ev → Option (List PyData)) (ρ : Ev) : dRng g ρ = (g ρ).bind pRng := rfl
@[simp] theorem x_Enum (f : Ev → Option PyData) (ρ : Ev) : dEnum f ρ = ((f ρ).bind asSeq).map enumD := rfl
@[simp] theorem x_Zip (g : Ev → Option (List PyData)) (ρ : Ev) : dZip g ρ = (g ρ).bind pZip := rfl
@[simp] theorem x_lc (vs : List Nat) (fi : Ev → Option (List PyData)) (a : PyData → Option (List (Nat × PyData))) (c : Ev → Option Bool) (f : Ev → Option PyData) (ρ : Ev) : dLc vs fi a c f ρ = (fi ρ).bind fun ds => (compD vs a c f ρ ds).map .list := rfl
@[simp] theorem x_flc (vs : List Nat) (fi : Ev → Option (List PyData)) (a : PyData → Option (List (Nat × PyData))) (c : Ev → Option Bool) (f : Ev → Option PyData) (ρ : Ev) : fLc vs fi a c f ρ = (fi ρ).bind fun ds => compD vs a c f ρ ds := rfl
@[simp] theorem x_flist (f : Ev → Option PyData) (ρ : Ev) : fList f ρ = (f ρ).bind asSeq := rfl
@[simp] theorem x_flstRg (f : Ev → Option PyData) (ρ : Ev) : fLstRg f ρ = ((f ρ).bind asI).bind fun n => if 0 ≤ n ∧ n ≤ 65536 then some (rngD 0 n.toNat) else none := rfl
@[simp] theorem x_lstRg (f : Ev → Option PyData) (ρ : Ev) : dLstRg f ρ = (((f ρ).bind asI).bind fun n => if 0 ≤ n ∧ n ≤ 65536 then some (rngD 0 n.toNat) else none).map .list := rfl
@[simp] theorem x_lenSet (f : Ev → Option PyData) (ρ : Ev) : dLenSet f ρ = (f ρ).bind fun a => (asL a).bind fun ds => (intsOf ds).bind fun ns => if ns.length ≤ 4000 then some (.int (nubL ns : Nat)) else none := rfl
def kRev (a : PyData) : Option PyData := match a with
  | .tuple ds => some (.tuple ds.reverse)
  | _ => none
@[simp] theorem x_revT (f : Ev → Option PyData) (ρ : Ev) : dRevT f ρ = (f ρ).bind kRev := rfl
@[simp] theorem kRev_t (ds : List PyData) : kRev (.tuple ds) = some (.tuple ds.reverse) := rfl
@[simp] theorem x_BX (m : List PyData → Option (Except Nat PyData)) (g : Ev → Option (List PyData)) (ρ : Ev) : dBX m g ρ = ((g ρ).bind m).bind okD := rfl
@[simp] theorem x_BR (m : List PyData → Option (Except Nat PyData)) (g : Ev → Option (List PyData)) (ρ : Ev) : dBR m g ρ = (g ρ).bind m := rfl
@[simp] theorem x_rOk (f : Ev → Option PyData) (ρ : Ev) : rOk f ρ = (f ρ).map .ok := rfl
@[simp] theorem x_dget (i : Nat) (f g : Ev → Option PyData) (ρ : Ev) : dDGet i f g ρ = (dctAt i ρ).bind fun kvs => (key2 f g ρ).bind fun k => valD kvs k := rfl
@[simp] theorem x_key2 (f g : Ev → Option PyData) (ρ : Ev) : key2 f g ρ = ((f ρ).bind asI).bind fun a => ((g ρ).bind asI).map fun b => [Sum.inl a, Sum.inl b] := rfl
@[simp] theorem x_yes (ρ : Ev) : dYes ρ = some true := rfl
@[simp] theorem x_chain (op op' : PyData → PyData → Option PyData) (f g k : Ev → Option PyData) (ρ : Ev) : dChain op op' f g k ρ = (f ρ).bind fun a => (g ρ).bind fun b => ((op a b).bind asB).bind (kAnd ((k ρ).bind fun c => op' b c) (.bool false)) := by
  unfold dChain
  rfl
@[simp] theorem b_some {α β : Type} (a : α) (f : α → Option β) : (some a).bind f = f a := rfl
@[simp] theorem b_none {α β : Type} (f : α → Option β) : (none : Option α).bind f = none := rfl
@[simp] theorem m_some {α β : Type} (a : α) (f : α → β) : (some a).map f = some (f a) := rfl
@[simp] theorem asB_b (b : Bool) : asB (.bool b) = some b := rfl
@[simp] theorem asI_i (b : Int) : asI (.int b) = some b := rfl
@[simp] theorem asSeq_l (b : List PyData) : asSeq (.list b) = some b := rfl
@[simp] theorem asSeq_t (b : List PyData) : asSeq (.tuple b) = some b := rfl
@[simp] theorem asL_l (b : List PyData) : asL (.list b) = some b := rfl
@[simp] theorem okD_ok (d : PyData) : okD (.ok d) = some d := rfl
/-! ints -/
@[simp] theorem p_add (i j : Int) : pAdd (.int i) (.int j) = some (.int (i + j)) := rfl
@[simp] theorem p_sub (i j : Int) : pSub (.int i) (.int j) = some (.int (i - j)) := rfl
@[simp] theorem p_lt (i j : Int) : pLt (.int i) (.int j) = some (.bool (decide (i < j))) := rfl
@[simp] theorem p_le (i j : Int) : pLe (.int i) (.int j) = some (.bool (decide (i ≤ j))) := rfl
@[simp] theorem p_gt (i j : Int) : pGt (.int i) (.int j) = some (.bool (decide (j < i))) := rfl
@[simp] theorem p_ge (i j : Int) : pGe (.int i) (.int j) = some (.bool (decide (j ≤ i))) := rfl
@[simp] theorem p_eqi (i j : Int) : pEq (.int i) (.int j) = some (.bool (i == j)) := by
  unfold pEq; rw [if_pos ⟨by rfl, by rfl⟩]; unfold PyData.eqv; rfl
@[simp] theorem p_nei (i j : Int) : pNe (.int i) (.int j) = some (.bool (!(i == j))) := by
  unfold pNe; rw [if_pos ⟨by rfl, by rfl⟩]; unfold PyData.eqv; rfl
@[simp] theorem p_lenL (ds : List PyData) : pLen [.list ds] = some (.int ds.length) := rfl
@[simp] theorem p_lenT (ds : List PyData) : pLen [.tuple ds] = some (.int ds.length) := rfl
@[simp] theorem t_b (b : Bool) : pTru (.bool b) = some b := rfl
@[simp] theorem t_list (ds : List PyData) : pTru (.list ds) = some (!ds.isEmpty) := by cases ds <;> rfl
@[simp] theorem t_tuple (ds : List PyData) : pTru (.tuple ds) = some (!ds.isEmpty) := by cases ds <;> rfl
theorem seq_nx {F G : Ev → Option Out} {ρ ρ' : Ev} {α : Type} {k : Out → Option α} {X : Option α} (h : F ρ = some (.nx ρ')) (h2 : (G ρ').bind k = X) : (sSeq F G ρ).bind k = X := by
  rw [e_seq, h, b_some, k_nx]; exact h2
theorem seq_rt {F G : Ev → Option Out} {ρ : Ev} {d : PyData} {α : Type} {k : Out → Option α} {X : Option α} (h : F ρ = some (.rt d)) (h2 : k (.rt d) = X) : (sSeq F G ρ).bind k = X := by
  rw [e_seq, h, b_some, k_rt, b_some]; exact h2
theorem if_no {c : Ev → Option Bool} {F : Ev → Option Out} {ρ : Ev} (h : c (view ρ) = some false) : sIf c F sNext ρ = some (.nx ρ) := by
  rw [e_sif, h, b_some, kIf_f, e_next]
theorem if_yes {c : Ev → Option Bool} {F G : Ev → Option Out} {ρ : Ev} {o : Option Out} (h : c (view ρ) = some true) (h2 : F ρ = o) : sIf c F G ρ = o := by
  rw [e_sif, h, b_some, kIf_t]; exact h2
theorem if_els {c : Ev → Option Bool} {F G : Ev → Option Out} {ρ : Ev} {o : Option Out} (h : c (view ρ) = some false) (h2 : G ρ = o) : sIf c F G ρ = o := by
  rw [e_sif, h, b_some, kIf_f]; exact h2
theorem ret_of {f : Ev → Option PyData} {ρ : Ev} {d : PyData} (h : f (view ρ) = some d) : sRet f ρ = some (.rt d) := by
  rw [e_ret, h, m_some]
theorem ret_end {f : Ev → Option PyData} {ρ : Ev} {d : PyData} (h : f (view ρ) = some d) : (sRet f ρ).bind outD = some d := by
  rw [e_ret, h]; rfl
theorem set_of {i : Nat} {f : Ev → Option PyData} {ρ : Ev} {d : PyData} (h : f ρ = some d) : sSet i f ρ = some (.nx (ρ.set i (.dat d))) := by
  rw [e_set, h, m_some]
theorem seq_nxs {F G : Ev → Option Out} {ρ ρ' : Ev} {X : Option Out} (h : F ρ = some (.nx ρ')) (h2 : G ρ' = X) : sSeq F G ρ = X := by
  rw [e_seq, h, b_some, k_nx]; exact h2
theorem seq_rts {F G : Ev → Option Out} {ρ : Ev} {d : PyData} (h : F ρ = some (.rt d)) : sSeq F G ρ = some (.rt d) := by
  rw [e_seq, h, b_some, k_rt]
end CS
/-! M1: typed stories; comprehensions and loops upon typed lists. -/
namespace CS
open PySem
/-! ### reading lists -/
theorem atI_nat {α : Type} (ds : List α) (i : Nat) (h : i < ds.length) : L2.atI ds (i : Int) = some ds[i] := by
  unfold L2.atI L2.ixN
  have h1 : ¬ ((i : Int) < 0) := by omega
  simp [h1, h]
theorem atI_get {α : Type} {ds : List α} {i : Int} {d : α} (h0 : 0 ≤ i) (h : ds[i.toNat]? = some d) : L2.atI ds i = some d := by
  obtain ⟨h1, h2⟩ := List.getElem?_eq_some_iff.mp h
  have e : i = ((i.toNat : Nat) : Int) := by omega
  rw [e, atI_nat ds _ h1, h2]
@[simp] theorem ix4_0 (a b c d : PyData) : pIx (.tuple [a, b, c, d]) (.int 0) = some a := rfl
@[simp] theorem ix4_1 (a b c d : PyData) : pIx (.tuple [a, b, c, d]) (.int 1) = some b := rfl
@[simp] theorem ix4_2 (a b c d : PyData) : pIx (.tuple [a, b, c, d]) (.int 2) = some c := rfl
@[simp] theorem ix4_3 (a b c d : PyData) : pIx (.tuple [a, b, c, d]) (.int 3) = some d := rfl
@[simp] theorem ix3_0 (a b c : PyData) : pIx (.tuple [a, b, c]) (.int 0) = some a := rfl
@[simp] theorem ix3_1 (a b c : PyData) : pIx (.tuple [a, b, c]) (.int 1) = some b := rfl
@[simp] theorem ix3_2 (a b c : PyData) : pIx (.tuple [a, b, c]) (.int 2) = some c := rfl
@[simp] theorem ix2_0 (a b : PyData) : pIx (.tuple [a, b]) (.int 0) = some a := rfl
@[simp] theorem ix2_1 (a b : PyData) : pIx (.tuple [a, b]) (.int 1) = some b := rfl
/-! ### operations -/
structure Op where
  w : Bool
  v : Int
  s : Int
  e : Int
deriving DecidableEq
def kd (w : Bool) : Str := if w then "write" else "read"
def Op.enc (o : Op) : PyData := .tuple [.str (kd o.w), .int o.v, .int o.s, .int o.e]
def encO (l : List Op) : PyData := .tuple (l.map Op.enc)
def encI (l : List Int) : PyData := .tuple (l.map PyData.int)
@[simp] theorem op_0 (o : Op) : pIx o.enc (.int 0) = some (.str (kd o.w)) := rfl
@[simp] theorem op_1 (o : Op) : pIx o.enc (.int 1) = some (.int o.v) := rfl
@[simp] theorem op_2 (o : Op) : pIx o.enc (.int 2) = some (.int o.s) := rfl
@[simp] theorem op_3 (o : Op) : pIx o.enc (.int 3) = some (.int o.e) := rfl
theorem p_eqd {a b : PyData} {x : Bool} (h1 : (SeqAt.shaped a && SeqAt.shaped b) = true) (h2 : PyData.eqv a b = x) : pEq a b = some (.bool x) := by
  unfold pEq
  rw [if_pos ((Bool.and_eq_true _ _).mp h1), h2]
theorem p_ned {a b : PyData} {x : Bool} (h1 : (SeqAt.shaped a && SeqAt.shaped b) = true) (h2 : PyData.eqv a b = x) : pNe a b = some (.bool (!x)) := by
  unfold pNe
  rw [if_pos ((Bool.and_eq_true _ _).mp h1), h2]
theorem p_inL {neg : Bool} {d : PyData} {ds : List PyData} {x : Bool} (h1 : (SeqAt.shaped d && SeqAt.shaped (.list ds)) = true) (h2 : (ds.any fun z => PyData.eqv z d) = x) : pInL neg d ds = some (.bool (if neg = true then !x else x)) := by
  unfold pInL
  rw [if_pos ((Bool.and_eq_true _ _).mp h1), h2]
@[simp] theorem kd_w (w : Bool) : pEq (.str (kd w)) (.str "write") = some (.bool w) := by cases w <;> exact p_eqd (by decide +kernel) (by decide +kernel)
@[simp] theorem kd_r (w : Bool) : pEq (.str (kd w)) (.str "read") = some (.bool (!w)) := by cases w <;> exact p_eqd (by decide +kernel) (by decide +kernel)
@[simp] theorem kd_in (w : Bool) : pInA true (.str (kd w)) (.tuple [.str "write", .str "read"]) = some (.bool false) := by cases w <;> exact p_inL (neg := true) (x := true) (by decide +kernel) (by decide +kernel)
@[simp] theorem in_range_int (a b c : Int) : m_in_range [.int a, .int b, .int c] = some (.bool (decide (b ≤ a) && decide (a ≤ c))) := by
  simp [m_in_range, b_in_range, noDict, isD]
def Op.before (a b : Op) : Bool := decide (a.e < b.s)
@[simp] theorem precedes_ok (a b : Op) : m_precedes [a.enc, b.enc] = some (.bool (a.before b)) := by
  simp [m_precedes, b_precedes, Op.before]
def Op.ok (o : Op) : Bool := decide ((if o.w = true then 1 else 0) ≤ o.v) && decide (o.v ≤ 9) && (decide (0 ≤ o.s) && decide (o.s ≤ 99)) && (decide (o.s + 1 ≤ o.e) && decide (o.e ≤ 99))
@[simp] theorem is_operation_ok (o : Op) : m_is_operation [o.enc] = some (.bool o.ok) := by
  have h1 : noDict o.enc = true := rfl
  have h2 : isD "tuple" o.enc = true := rfl
  have h3 : pLen [o.enc] = some (.int 4) := rfl
  have h4 : isD "str" (.str (kd o.w)) = true := rfl
  have h5 : noDict (.str (kd o.w)) = true := rfl
  have h6 : (if o.w = false then PyData.int 0 else .int 1) = .int (if o.w = true then 1 else 0) := by cases o.w <;> rfl
  by_cases a1 : (if o.w = true then (1 : Int) else 0) ≤ o.v <;> by_cases a2 : o.v ≤ 9 <;> simp [m_is_operation, b_is_operation, h1, h2, h3, h4, h5, h6, Op.ok, a1, a2, Bool.and_assoc]
/-! ### comprehensions -/
theorem compD_map {α : Type} (enc : α → PyData) {vs : List Nat} {a : PyData → Option (List (Nat × PyData))} {c : Ev → Option Bool} {f : Ev → Option PyData} {ρ : Ev} (b : α → Bool) (g : α → PyData) :
    ∀ l : List α, (∀ x ∈ l, ∃ as, a (enc x) = some as ∧ (as.all fun p => vs.contains p.1) = true ∧ c (setD (wipeD ρ vs) as) = some (b x) ∧ (b x = true → f (setD (wipeD ρ vs) as) = some (g x))) →
      compD vs a c f ρ (l.map enc) = some ((l.filter b).map g)
  | [], _ => rfl
  | x :: l, h => by
    obtain ⟨as, h1, h2, h3, h4⟩ := h x (List.mem_cons_self ..)
    have ih := compD_map enc b g l fun y hy => h y (List.mem_cons_of_mem _ hy)
    rw [List.map_cons, compD, h1, b_some, if_pos h2, h3, b_some, List.filter_cons]
    cases e : b x with
    | true => rw [if_pos rfl, h4 e, b_some, ih, b_some, if_pos rfl, List.map_cons]
    | false => rw [if_neg Bool.false_ne_true, ih, if_neg Bool.false_ne_true]
theorem comp1 {α : Type} (enc : α → PyData) {vs : List Nat} {i : Nat} {c : Ev → Option Bool} {f : Ev → Option PyData} {ρ : Ev} (b : α → Bool) (g : α → PyData) (l : List α) (hv : vs.contains i = true)
    (h : ∀ x ∈ l, c (List.set (wipeD ρ vs) i (.dat (enc x))) = some (b x) ∧ (b x = true → f (List.set (wipeD ρ vs) i (.dat (enc x))) = some (g x))) : compD vs (aName i) c f ρ (l.map enc) = some ((l.filter b).map g) :=
  compD_map enc b g l fun x hx => ⟨_, rfl, by simp only [List.all_cons, List.all_nil, hv, Bool.and_self], (h x hx).1, (h x hx).2⟩
theorem comp2 {α : Type} (enc : α → PyData) {vs : List Nat} {i j : Nat} {c : Ev → Option Bool} {f : Ev → Option PyData} {ρ : Ev} (p q : α → PyData) (he : ∀ x, enc x = .tuple [p x, q x]) (b : α → Bool) (g : α → PyData) (l : List α) (hv : vs.contains i = true) (hw : vs.contains j = true)
    (h : ∀ x ∈ l, c (List.set (List.set (wipeD ρ vs) i (.dat (p x))) j (.dat (q x))) = some (b x) ∧ (b x = true → f (List.set (List.set (wipeD ρ vs) i (.dat (p x))) j (.dat (q x))) = some (g x))) : compD vs (aTup [i, j]) c f ρ (l.map enc) = some ((l.filter b).map g) :=
  compD_map enc b g l fun x hx => ⟨[(i, p x), (j, q x)], by rw [he, a_tup2], by simp only [List.all_cons, List.all_nil, hv, hw, Bool.and_self], (h x hx).1, (h x hx).2⟩
theorem enum_map {α : Type} (enc : α → PyData) (l : List α) : enumD (l.map enc) = (l.zipIdx).map fun p => .tuple [.int (p.2 : Nat), enc p.1] := by
  unfold enumD
  apply List.ext_getElem?
  intro i
  simp only [List.length_map, List.getElem?_zipWith, List.getElem?_map, List.getElem?_zipIdx]
  by_cases h : i < l.length
  · simp [h]
  · simp [h]
theorem zip_map {α β : Type} (enc : α → PyData) (enc' : β → PyData) (l : List α) (m : List β) : zipD (l.map enc) (m.map enc') = (l.zip m).map fun p => .tuple [enc p.1, enc' p.2] := by
  unfold zipD
  rw [List.zipWith_map, List.zip, List.map_zipWith]
theorem rng_map (n : Nat) : rngD 0 n = (List.range n).map fun i => .int (i : Nat) := by
  unfold rngD; simp
@[simp] theorem cut_none {α : Type} (l : List α) : cutD l none none = l := by
  unfold cutD; simp [HT.sIx]
theorem cut_from {α : Type} (l : List α) (k : Nat) : cutD l (some (k : Int)) none = l.drop k := by
  unfold cutD
  rw [HT.sIx_nat, HT.sIx_none]
  by_cases h : k ≤ l.length
  · rw [Nat.min_eq_left h, List.take_of_length_le (by rw [List.length_drop]; exact Nat.le_refl _)]
  · rw [Nat.min_eq_right (by omega), List.drop_length, List.drop_of_length_le (by omega)]; simp
theorem cut_to {α : Type} (l : List α) (k : Nat) : cutD l none (some (k : Int)) = l.take k := by
  unfold cutD
  rw [HT.sIx_nat, HT.sIx_none, List.drop_zero, Nat.sub_zero]
  by_cases h : k ≤ l.length
  · rw [Nat.min_eq_left h]
  · rw [Nat.min_eq_right (by omega), List.take_length, List.take_of_length_le (by omega)]
theorem map_empty {α : Type} (g : α → PyData) (l : List α) : (l.map g).isEmpty = l.isEmpty := by cases l <;> rfl
theorem filter_empty {α : Type} (b : α → Bool) (l : List α) : (l.filter b).isEmpty = !l.any b := by
  induction l with
  | nil => rfl
  | cons x l ih => rw [List.filter_cons, List.any_cons]; cases e : b x <;> simp [ih]
/-- a for that only goes on -/
theorem for_inv {a : PyData → Option (List (Nat × PyData))} {F : Ev → Option Out} (I : List PyData → Ev → Prop) :
    ∀ (ds done : List PyData) (ρ : Ev), I done ρ → (∀ done d rest ρ, done ++ d :: rest = done ++ ds → I done ρ → True) →
      (∀ done' d ρ, (∃ rest, done ++ ds = done' ++ d :: rest) → I done' ρ → ∃ as ρ', a d = some as ∧ F (setD ρ as) = some (.nx ρ') ∧ I (done' ++ [d]) ρ') → ∃ ρ', forD a F ds ρ = some (.nx ρ') ∧ I (done ++ ds) ρ'
  | [], done, ρ, h, _, _ => ⟨ρ, rfl, by rw [List.append_nil]; exact h⟩
  | d :: ds, done, ρ, h, h0, st => by
    obtain ⟨as, ρ1, e1, e2, h1⟩ := st done d ρ ⟨ds, rfl⟩ h
    obtain ⟨ρ', e3, h3⟩ := for_inv I ds (done ++ [d]) ρ1 h1 (fun _ _ _ _ _ _ => trivial) fun done' d' ρ2 ⟨rest, er⟩ h2 => st done' d' ρ2 ⟨rest, by rw [← er]; simp⟩ h2
    refine ⟨ρ', ?_, by simpa using h3⟩
    rw [forD, e1, b_some, e2, b_some]
    exact e3
/-- .. over the numbers 0, 1, .. n - 1 -/
theorem for_rng {a : PyData → Option (List (Nat × PyData))} {F : Ev → Option Out} (n : Nat) (I : Nat → Ev → Prop) (ρ : Ev) (h : I 0 ρ)
    (st : ∀ i ρ, i < n → I i ρ → ∃ as ρ', a (.int (i : Nat)) = some as ∧ F (setD ρ as) = some (.nx ρ') ∧ I (i + 1) ρ') : ∃ ρ', forD a F (rngD 0 n) ρ = some (.nx ρ') ∧ I n ρ' := by
  have key : ∀ (k i : Nat) (ρ : Ev), i + k = n → I i ρ → ∃ ρ', forD a F ((List.range' i k).map fun (j : Nat) => PyData.int (j : Nat)) ρ = some (.nx ρ') ∧ I n ρ' := by
    intro k
    induction k with
    | zero => intro i ρ e h; exact ⟨ρ, rfl, by simpa [← e] using h⟩
    | succ k ih =>
      intro i ρ e h
      obtain ⟨as, ρ1, e1, e2, h1⟩ := st i ρ (by omega) h
      obtain ⟨ρ', e3, h3⟩ := ih (i + 1) ρ1 (by omega) h1
      refine ⟨ρ', ?_, h3⟩
      rw [List.range'_succ, List.map_cons, forD, e1, b_some, e2, b_some]
      exact e3
  have := key n 0 ρ (by omega) h
  rwa [← List.range_eq_range', ← rng_map] at this
end CS
/-! M2: is_story of typed stories. -/
namespace CS
open PySem
theorem step_len (acc : List Int) (x : Int) : PyProof.Rows.step_dedup acc x = if x ∈ acc then acc else acc ++ [x] := by
  unfold PyProof.Rows.step_dedup
  by_cases h : x ∈ acc
  · rw [if_pos h, if_pos (by simpa using h)]
  · rw [if_neg h, if_neg (by simpa using h)]
theorem fold_len : ∀ (ns acc : List Int), (ns.foldl PyProof.Rows.step_dedup acc).length ≤ acc.length + ns.length ∧ ((ns.foldl PyProof.Rows.step_dedup acc).length = acc.length + ns.length ↔ ns.Nodup ∧ ∀ x ∈ ns, x ∉ acc)
  | [], acc => by simp
  | x :: ns, acc => by
    rw [List.foldl_cons, step_len]
    by_cases h : x ∈ acc
    · rw [if_pos h]
      have ih := fold_len ns acc
      refine ⟨by simp only [List.length_cons]; omega, ?_⟩
      constructor
      · intro e; simp only [List.length_cons] at e; omega
      · rintro ⟨_, h2⟩; exact absurd h (h2 x (List.mem_cons_self ..))
    · rw [if_neg h]
      have ih := fold_len ns (acc ++ [x])
      simp only [List.length_append, List.length_cons, List.length_nil] at ih ⊢
      refine ⟨by omega, ?_⟩
      rw [List.nodup_cons]
      have e1 : acc.length + (ns.length + 1) = acc.length + (0 + 1) + ns.length := by omega
      rw [e1, ih.2]
      constructor
      · rintro ⟨h1, h2⟩
        refine ⟨⟨fun z => h2 x z (by simp), h1⟩, fun y hy => ?_⟩
        rcases List.mem_cons.mp hy with e | hy
        · rw [e]; exact h
        · exact fun z => h2 y hy (by simp [z])
      · rintro ⟨⟨h1, h2⟩, h3⟩
        refine ⟨h2, fun y hy z => ?_⟩
        rcases List.mem_append.mp z with z | z
        · exact h3 y (List.mem_cons_of_mem _ hy) z
        · simp at z; rw [z] at hy; exact h1 hy
theorem nub_eq (ns : List Int) : nubL ns = (ns.foldl PyProof.Rows.step_dedup []).length := by
  unfold nubL PyProof.Rows.firstMet
  congr 2
  apply List.ext_getElem
  · simp
  · intro i h1 h2
    simp at h1 h2 ⊢
    rw [List.getElem?_eq_getElem h2]
    rfl
theorem nub_nodup (ns : List Int) : (((nubL ns : Nat) : Int) == (ns.length : Int)) = decide ns.Nodup := by
  have := (fold_len ns []).2
  rw [← nub_eq] at this
  simp only [List.length_nil, Nat.zero_add, List.not_mem_nil, not_false_eq_true, implies_true, and_true] at this
  by_cases h : ns.Nodup
  · rw [this.mpr h]; simp [h]
  · have h' : nubL ns ≠ ns.length := fun e => h (this.mp e)
    simp [h]; omega
@[simp] theorem pZip_t (a b : List PyData) : pZip [.tuple a, .tuple b] = some (zipD a b) := rfl
@[simp] theorem pSl_t (a : List PyData) (lo hi : Option Int) : pSl (.tuple a) lo hi = some (.tuple (cutD a lo hi)) := rfl
@[simp] theorem pSl_l (a : List PyData) (lo hi : Option Int) : pSl (.list a) lo hi = some (.list (cutD a lo hi)) := rfl
def timesOf (l : List Op) : List Int := l.map Op.s ++ l.map Op.e
def writtenOf (l : List Op) : List Int := (l.filter Op.w).map Op.v
def storyOk (l : List Op) : Bool := decide (l.length ≤ 6) && l.all Op.ok && (!(l.zip (l.drop 1)).any fun p => decide (p.2.s ≤ p.1.s)) && (decide (timesOf l).Nodup && decide (writtenOf l).Nodup)
theorem addL (a b : List PyData) (h : a.length + b.length ≤ 65536) : pAdd (.list a) (.list b) = some (.list (a ++ b)) := by
  show (if _ then _ else _) = _; rw [if_pos h]
theorem addT (a b : List PyData) (h : a.length + b.length ≤ 65536) : pAdd (.tuple a) (.tuple b) = some (.tuple (a ++ b)) := by
  show (if _ then _ else _) = _; rw [if_pos h]
@[simp] theorem filter_tt {α : Type} (l : List α) : l.filter (fun _ => true) = l := by induction l with | nil => rfl | cons x l ih => rw [List.filter_cons, if_pos rfl, ih]
theorem any_zip (l : List Op) : storyOk l = storyOk l := rfl
theorem is_story_ok (l : List Op) (hl : l.length ≤ 1000) : m_is_story [encO l] = some (.bool (storyOk l)) := by
  have h1 : noDict (encO l) = true := rfl
  have h2 : isD "tuple" (encO l) = true := rfl
  have h3 : pLen [encO l] = some (.int l.length) := by show some (PyData.int (l.map Op.enc).length) = _; rw [List.length_map]
  have h4 : asSeq (encO l) = some (l.map Op.enc) := rfl
  have h5 : ∀ lo hi, pSl (encO l) lo hi = some (.tuple (cutD (l.map Op.enc) lo hi)) := fun _ _ => rfl
  have h6 : cutD (l.map Op.enc) (some 1) none = (l.drop 1).map Op.enc := by rw [List.map_drop]; exact cut_from _ 1
  have h7 : ∀ x, pZip [encO l, .tuple x] = some (zipD (l.map Op.enc) x) := fun _ => rfl
  simp only [m_is_story, e_fn, b_is_story]
  by_cases c1 : l.length ≤ 6
  case neg =>
    refine seq_rt (if_yes ?_ (ret_of (x_C _ _))) ?_
    · simp [h1, h2, h3]; omega
    · simp [storyOk, c1]
  refine seq_nx (if_no ?_) ?_
  · simp [h1, h2, h3]; omega
  by_cases c2 : l.all Op.ok = true
  case neg =>
    refine seq_rt (if_yes ?_ (ret_of (x_C _ _))) ?_
    · simp [h4]
      rw [comp1 Op.enc (fun o => !o.ok) Op.enc l]
      · simpa using c2
      · rfl
      · intro x hx; simp
    · simp [storyOk, c2]
  refine seq_nx (if_no ?_) ?_
  · simp [h4]
    rw [comp1 Op.enc (fun o => !o.ok) Op.enc l]
    · simpa using c2
    · rfl
    · intro x hx; simp
  have hc : ∀ ρ : Ev, ρ = [.dat (encO l), .no, .no, .no, .no] → (dLc [3, 4] (dZip (dCons (dVar 0) (dCons (dSl (dVar 0) (dPart (dC (.int 1))) dNoPart) dNil))) (aTup [3, 4]) (dT (d2 pGe (d2 pIx (dVar 3) (dC (.int 2))) (d2 pIx (dVar 4) (dC (.int 2))))) (dC (.int 1))) ρ = some (.list (((l.zip (l.drop 1)).filter fun p => decide (p.2.s ≤ p.1.s)).map fun _ => .int 1)) := by
    intro ρ e
    subst e
    simp only [x_lc, x_Zip, x_cons, var_0, b_some, x_Sl, x_Part, x_C, asI_i, m_some, x_noPart, h5, h6, x_nil, h7, zip_map]
    rw [comp2 (fun p : Op × Op => .tuple [p.1.enc, p.2.enc]) (fun p => p.1.enc) (fun p => p.2.enc) (fun _ => rfl) (fun p => decide (p.2.s ≤ p.1.s)) (fun _ => .int 1)]
    · rfl
    · rfl
    · rfl
    · intro x hx; simp
  by_cases c3 : ((l.zip (l.drop 1)).any fun p => decide (p.2.s ≤ p.1.s)) = true
  case pos =>
    refine seq_rt (if_yes ?_ (ret_of (x_C _ _))) ?_
    · rw [x_Tru, hc (view (start0 5 [encO l])) rfl, b_some, t_list, map_empty, filter_empty, c3]; rfl
    · simp only [storyOk, c3, o_rt]; simp
  have c3 := eq_false_of_ne_true c3
  refine seq_nx (if_no ?_) ?_
  · rw [x_Tru, hc (view (start0 5 [encO l])) rfl, b_some, t_list, map_empty, filter_empty, c3]; rfl
  refine seq_nx (set_of (d := .list ((timesOf l).map .int)) ?_) ?_
  · simp [h4]
    rw [comp1 Op.enc (fun _ => true) (fun o => .int o.s) l]
    · simp
      rw [comp1 Op.enc (fun _ => true) (fun o => .int o.e) l]
      · simp
        rw [addL _ _ (by simp; omega)]
        simp [timesOf, Function.comp_def]
      · rfl
      · intro x hx; simp
    · rfl
    · intro x hx; simp
  refine seq_nx (set_of (d := .list ((writtenOf l).map .int)) ?_) ?_
  · simp [h4]
    rw [comp1 Op.enc Op.w (fun o => .int o.v) l]
    · simp [writtenOf, Function.comp_def]
    · rfl
    · intro x hx; simp
  refine ret_end ?_
  have t1 : (timesOf l).length ≤ 4000 := by simp [timesOf]; omega
  have t2 : (writtenOf l).length ≤ 4000 := by
    have := List.length_filter_le Op.w l
    simp [writtenOf]; omega
  have e : storyOk l = (decide (timesOf l).Nodup && decide (writtenOf l).Nodup) := by unfold storyOk; rw [c2, c3]; simp [c1]
  rw [e]
  have n1 := nub_nodup (timesOf l)
  have n2 := nub_nodup (writtenOf l)
  simp [intsOf_map, t1, t2, n1, n2]
end CS
/-! M3: the script's draws. -/
namespace CS
open PySem
@[simp] theorem p_mul (i j : Int) (h : ((-(2 ^ 64) < i ∧ i < 2 ^ 64) ∨ (-(2 ^ 64) < j ∧ j < 2 ^ 64))) : pMul (.int i) (.int j) = some (.int (i * j)) := by
  show (if _ then _ else _) = _; rw [if_pos h]
@[simp] theorem p_mod (i j : Int) (h : 0 < j) : pMod (.int i) (.int j) = some (.int (i % j)) := by
  show (if _ then _ else _) = _; rw [if_pos h]
@[simp] theorem p_fdiv (i j : Int) (h : 0 < j) (h2 : j < 1073741824) : pFdiv (.int i) (.int j) = some (.int (i / j)) := by
  show (if _ then _ else _) = _; rw [if_pos ⟨h, h2⟩]
@[simp] theorem p_pow18 : pPow (.int 10) (.int 18) = some (.int 1000000000000000000) := by
  have e : pPow (.int 10) (.int 18) = if (0 : Int) ≤ 18 ∧ (18 : Int) ≤ 100 ∧ (10 : Int).natAbs ≤ 1000 then some (.int ((10 : Int) ^ (18 : Int).toNat)) else none := rfl
  rw [e, if_pos (by decide)]; rfl
theorem len_scr (ns : List Int) : pLen [encS ns] = some (.int ns.length) := by
  show some (PyData.int (ns.map PyData.int).length) = _
  rw [List.length_map]
theorem cell_ok (ns : List Int) (k : Int) (h : 0 ≤ k) : m__law_cell [encS ns, .int k] = some (.int (ns.getD k.toNat 0)) := by
  simp only [m__law_cell, e_fn, b__law_cell]
  by_cases c : k < ns.length
  · refine seq_rt (if_yes ?_ (ret_of (d := .int (ns.getD k.toNat 0)) ?_)) rfl
    · simp [len_scr, c]
    · simp
      show L2.atI (ns.map PyData.int) k = _
      have hk : k.toNat < ns.length := by omega
      rw [atI_get h (d := .int ns[k.toNat]) (by simp [List.getElem?_map, List.getElem?_eq_getElem hk])]
      rw [List.getElem?_eq_getElem hk]; rfl
  · refine seq_nx (if_no ?_) (ret_end ?_)
    · simp [len_scr, c]
    · have hk : ns.length ≤ k.toNat := by omega
      simp [List.getElem?_eq_none hk]
/-- what a row of draws is -/
def Draws (ds : List Int) : Prop := ds.length = 60 ∧ ∀ d ∈ ds, 0 ≤ d ∧ d < 1000
theorem row_ok (ns : List Int) (k : Int) (h : 0 ≤ k) : ∃ ds : List Int, Draws ds ∧ m__law_row [encS ns, .int k] = some (.list (ds.map .int)) := by
  obtain ⟨ρ', e, x, ds, c, rfl, hl, hd⟩ := for_rng (a := aName 4) (F := (sIf (dT (d2 pLt (dB m__law_cell (dCons (dVar 0) (dCons (dVar 1) dNil))) (d2 pPow (dC (.int 10)) (dC (.int 18))))) (sSeq (sSet 2 (d2 pMod (d2 pAdd (d2 pAdd (d2 pAdd (d2 pMul (dVar 2) (dC (.int 48271))) (d2 pMul (dC (.int 131)) (dVar 4))) (dC (.int 7))) (dB m__law_cell (dCons (dVar 0) (dCons (d2 pMod (d2 pAdd (d2 pAdd (dVar 1) (dC (.int 1))) (dVar 4)) (dC (.int 20))) dNil)))) (dC (.int 2147483647))))
    (sApp 3 (d2 pMod (d2 pFdiv (dVar 2) (dC (.int 11))) (dC (.int 1000))))) (sSeq (sApp 3 (d2 pMod (dVar 2) (dC (.int 1000))))
    (sSet 2 (d2 pFdiv (dVar 2) (dC (.int 1000))))))) 60
    (fun i ρ => ∃ (x : Int) (ds : List Int) (c : Cell), ρ = [.dat (encS ns), .dat (.int k), .dat (.int x), .own (ds.map .int), c] ∧ ds.length = i ∧ ∀ d ∈ ds, 0 ≤ d ∧ d < 1000)
    [.dat (encS ns), .dat (.int k), .dat (.int (ns.getD k.toNat 0)), .own [], .no] ⟨_, [], _, rfl, rfl, by simp⟩ (by
      rintro i ρ hi ⟨x, ds, c, rfl, hl, hd⟩
      have hm : (0 : Int) ≤ (k + 1 + (i : Int)) % 20 := Int.emod_nonneg _ (by decide)
      have hlen : (ds.map PyData.int).length < 65536 := by rw [List.length_map]; omega
      by_cases c1 : ns.getD k.toNat 0 < 1000000000000000000
      · generalize hy : (x * 48271 + 131 * (i : Int) + 7 + ns.getD ((k + 1 + (i : Int)) % 20).toNat 0) % 2147483647 = y
        refine ⟨_, [.dat (encS ns), .dat (.int k), .dat (.int y), .own ((ds ++ [y / 11 % 1000]).map .int), .dat (.int i)], a_name _ _, if_yes ?_ (seq_nxs (ρ' := [.dat (encS ns), .dat (.int k), .dat (.int y), .own (ds.map .int), .dat (.int i)]) ?_ ?_), y, _, _, rfl, by simp [hl], fun d hd' => ?_⟩
        · simp [cell_ok ns k h]; simpa using c1
        · simp [cell_ok ns _ hm]
          simpa using hy
        · simp at hlen
          simp [hlen]
        · rcases List.mem_append.mp hd' with z | z
          · exact hd d z
          · simp at z; subst z
            exact ⟨Int.emod_nonneg _ (by decide), Int.emod_lt_of_pos _ (by decide)⟩
      · refine ⟨_, [.dat (encS ns), .dat (.int k), .dat (.int (x / 1000)), .own ((ds ++ [x % 1000]).map .int), .dat (.int i)], a_name _ _, if_els ?_ (seq_nxs (ρ' := [.dat (encS ns), .dat (.int k), .dat (.int x), .own ((ds ++ [x % 1000]).map .int), .dat (.int i)]) ?_ ?_), x / 1000, _, _, rfl, by simp [hl], fun d hd' => ?_⟩
        · simp [cell_ok ns k h]; simpa using c1
        · simp at hlen
          simp [hlen]
        · simp
        · rcases List.mem_append.mp hd' with z | z
          · exact hd d z
          · simp at z; subst z
            exact ⟨Int.emod_nonneg _ (by decide), Int.emod_lt_of_pos _ (by decide)⟩)
  refine ⟨ds, ⟨hl, hd⟩, ?_⟩
  simp only [m__law_row, e_fn, b__law_row]
  refine seq_nx (set_of (d := .int (ns.getD k.toNat 0)) ?_) (seq_nx (ρ' := [.dat (encS ns), .dat (.int k), .dat (.int (ns.getD k.toNat 0)), .own [], .no]) ?_ (seq_nx (ρ' := [.dat (encS ns), .dat (.int k), .dat (.int x), .own (ds.map .int), c]) ?_ (ret_end ?_)))
  · simp [cell_ok ns k h]
  · simp
  · simp only [e_for, x_Rng, x_cons, x_C, b_some, x_nil]
    exact e
  · simp
end CS
/-! M4: sorted. -/
namespace CS
open PySem PySem.W PyProof.Rows
section
variable {α : Type} (enc : α → PyData)
theorem dle_trans (a b c : α) (h1 : dataLe false enc a b = true) (h2 : dataLe false enc b c = true) : dataLe false enc a c = true := (sortLe_total (listOrd itemOrd) false fun b => keyToks (enc b)).trans a b c h1 h2
theorem dle_total (a b : α) : (dataLe false enc a b || dataLe false enc b a) = true := by
  have := (sortLe_total (listOrd itemOrd) false fun b => keyToks (enc b)).total a b
  first | exact this | (rw [Bool.or_eq_true]; exact this)
theorem sort_map (l : List α) : sortD (l.map enc) = (l.mergeSort (dataLe false enc)).map enc := (List.map_mergeSort (f := enc) (l := l) (r := dataLe false enc) (s := dataLe false id) fun _ _ _ _ => rfl).symm
theorem sort_pw (l : List α) : (l.mergeSort (dataLe false enc)).Pairwise fun a b => dataLe false enc a b = true := List.pairwise_mergeSort (dle_trans enc) (dle_total enc) l
theorem psort_l (l : List α) (h1 : ∀ a b, alike (enc a) (enc b) = true) (h2 : (∀ a, isTup1 (enc a) = true) ∨ ∀ a, notTupN (enc a) = true) (h3 : ∀ a, (enc a).depth ≤ 8 ∧ (enc a).canLay0 = true) : sortOk (l.map enc) = true := by
  unfold sortOk
  rw [Bool.and_eq_true, Bool.and_eq_true]
  refine ⟨⟨?_, ?_⟩, ?_⟩
  · simp [h1]
  · rcases h2 with h2 | h2 <;> simp [h2]
  · simp [h3]
end
/-- sorted(xs), a list -/
theorem psort_list {α : Type} (enc : α → PyData) (l : List α) (h : sortOk (l.map enc) = true) : pSort [.list (l.map enc)] = some (.list ((l.mergeSort (dataLe false enc)).map enc)) := by
  show ((some (l.map enc)).bind fun ds => if sortOk ds = true then some (PyData.list (sortD ds)) else none) = _
  rw [b_some, if_pos h, sort_map]
theorem psort_tuple {α : Type} (enc : α → PyData) (l : List α) (h : sortOk (l.map enc) = true) : pSort [.tuple (l.map enc)] = some (.list ((l.mergeSort (dataLe false enc)).map enc)) := by
  show ((some (l.map enc)).bind fun ds => if sortOk ds = true then some (PyData.list (sortD ds)) else none) = _
  rw [b_some, if_pos h, sort_map]
def enc2 (p : Int × Int) : PyData := .tuple [.int p.1, .int p.2]
def enc3 (p : Int × Int × Int) : PyData := .tuple [.int p.1, .int p.2.1, .int p.2.2]
theorem sok_int (l : List Int) : sortOk (l.map .int) = true := psort_l _ l (fun a b => by simp [alike]) (.inr fun _ => rfl) fun a => ⟨by simp [PyData.depth], by simp [PyData.canLay0]⟩
theorem sok_2 (l : List (Int × Int)) : sortOk (l.map enc2) = true := psort_l _ l (fun a b => by simp [enc2, alike, alikeAll]) (.inl fun _ => rfl) fun a => ⟨by simp [enc2, PyData.depth, PyData.depthAll], by simp [enc2, PyData.canLay0, PyData.canLayAll0]⟩
theorem sok_3 (l : List (Int × Int × Int)) : sortOk (l.map enc3) = true := psort_l _ l (fun a b => by simp [enc3, alike, alikeAll]) (.inl fun _ => rfl) fun a => ⟨by simp [enc3, PyData.depth, PyData.depthAll], by simp [enc3, PyData.canLay0, PyData.canLayAll0]⟩
theorem dlt_tl (xs ys : List PyData) : dataLt (.tuple xs) (.tuple ys) = dataLt (.list xs) (.list ys) := by
  unfold dataLt
  rw [keyToks, keyToks, keyToks, keyToks]
theorem dle_2 (p q : Int × Int) : dataLe false enc2 p q = decide (p.1 < q.1 ∨ (p.1 = q.1 ∧ p.2 ≤ q.2)) := by
  have := congrFun (congrFun (dataLe_ii (β := Int × Int) (fun b => b.1) (fun b => b.2)) p) q
  exact this
theorem dle_3 (p q : Int × Int × Int) (h : dataLe false enc3 p q = true) : p.1 ≤ q.1 := by
  have e : dataLe false enc3 p q = dataLe false (fun b : Int × Int × Int => .list ([b.1, b.2.1, b.2.2].map .int)) p q := by
    rw [dataLe_eq, dataLe_eq]
    show (!dataLt (enc3 q) (enc3 p)) = (!dataLt _ _)
    unfold enc3
    rw [dlt_tl]; rfl
  rw [e, dataLe_rows] at h
  have h := of_decide_eq_true h
  rcases List.cons_le_cons_iff.mp h with h | h
  · omega
  · omega
theorem dlt_int (a b : Int) : dataLt (.int a) (.int b) = decide (a < b) := by
  have := congrFun (congrFun (dataLe_int (β := Int) id) b) a
  rw [dataLe_eq] at this
  have e : (!dataLt (.int a) (.int b)) = decide (b ≤ a) := this
  by_cases h : a < b
  · have h2 : ¬ b ≤ a := by omega
    simp [h, h2] at e ⊢; exact e
  · have h2 : b ≤ a := by omega
    simp [h, h2] at e ⊢; exact e
theorem alike_op (a b : Op) : alike a.enc b.enc = true := by simp [Op.enc, alike, alikeAll]
def encSO (o : Op) : PyData := .tuple [.int o.s, o.enc]
theorem shape_op (a : Op) : a.enc.canLay0 = true := by
  have h : PyData.strOk (kd a.w) = true := by cases a.w <;> decide +kernel
  simp [Op.enc, PyData.canLay0, PyData.canLayAll0, h]
theorem depth_op (a : Op) : a.enc.depth = 1 := by simp [Op.enc, PyData.depth, PyData.depthAll]
theorem sok_so (l : List Op) : sortOk (l.map encSO) = true := psort_l _ l (fun a b => by have := alike_op a b; simp [encSO, alike, alikeAll, this]) (.inl fun _ => rfl) fun a => ⟨by simp [encSO, PyData.depth, PyData.depthAll, depth_op], by simp [encSO, PyData.canLay0, PyData.canLayAll0, shape_op]⟩
theorem dle_so (p q : Op) (h : dataLe false encSO p q = true) : p.s ≤ q.s := by
  rw [dataLe_eq] at h
  have h : (!dataLt (encSO q) (encSO p)) = true := h
  unfold encSO at h
  rw [dataLt_pair (by simp [alike]) (alike_op q p)] at h
  by_cases e : q.s = p.s
  · omega
  · have e2 : (PyData.int q.s).eqv (.int p.s) = false := by unfold PyData.eqv; simpa using e
    rw [if_neg (by rw [e2]; decide), dlt_int] at h
    simp at h; exact h
/-- sorted already -/
theorem sort_id_2 (l : List (Int × Int)) (h : l.Pairwise fun p q => p.1 < q.1 ∨ (p.1 = q.1 ∧ p.2 ≤ q.2)) : l.mergeSort (dataLe false enc2) = l :=
  List.mergeSort_of_pairwise (h.imp fun {a b} h => by rw [dle_2]; exact decide_eq_true h)
end CS
/-! M5: the story that a script draws. -/
namespace CS
open PySem
theorem val_put (kvs : List (List L2.Key × PyData)) (k k' : List L2.Key) (d : PyData) : valD (putD kvs k d) k' = if k' = k then some d else valD kvs k' := by
  unfold valD putD
  by_cases hk : kvs.any (fun kv => decide (kv.1 = k)) = true
  · rw [if_pos hk]
    induction kvs with
    | nil => simp at hk
    | cons kv kvs ih =>
      rw [List.map_cons, List.find?_cons, List.find?_cons]
      by_cases e : kv.1 = k
      · rw [if_pos e]
        by_cases e2 : k' = k
        · simp [e2, e]
        · have e3 : ¬ k = k' := fun z => e2 z.symm
          have e4 : ¬ kv.1 = k' := fun z => e2 (z.symm.trans e)
          simp only [e3, e4, decide_false, if_neg e2]
          by_cases hk2 : kvs.any (fun kv => decide (kv.1 = k)) = true
          · rw [ih hk2, if_neg e2]
          · have : ∀ p ∈ kvs, (if p.1 = k then (p.1, d) else p) = p := fun p hp => by
              rw [if_neg]
              intro z
              exact hk2 (List.any_eq_true.mpr ⟨p, hp, by simp [z]⟩)
            rw [List.map_congr_left this, List.map_id']
      · rw [if_neg e]
        have hk2 : kvs.any (fun kv => decide (kv.1 = k)) = true := by
          rw [List.any_cons] at hk
          simpa [e] using hk
        by_cases e4 : kv.1 = k'
        · have e2 : ¬ k' = k := fun z => e (e4.trans z)
          simp [e4, e2]
        · simp only [e4, decide_false]
          rw [ih hk2]
  · rw [if_neg hk, List.find?_append]
    by_cases e2 : k' = k
    · have : kvs.find? (fun kv => decide (kv.1 = k')) = none := by
        rw [List.find?_eq_none]
        intro x hx z
        rw [e2] at z
        exact hk (List.any_eq_true.mpr ⟨x, hx, z⟩)
      rw [this, if_pos e2]
      simp [e2]
    · rw [if_neg e2]
      have e3 : ¬ k = k' := fun z => e2 z.symm
      simp [e3]
def dr (ds : List Int) (i : Int) : Int := ds.getD i.toNat 0
theorem ix_nth (ds : List PyData) (i : Int) (d : PyData) (h0 : 0 ≤ i) (h : ds[i.toNat]? = some d) : pIx (.list ds) (.int i) = some d := by
  show L2.atI ds i = some d
  exact atI_get h0 h
theorem ix_nthT (ds : List PyData) (i : Int) (d : PyData) (h0 : 0 ≤ i) (h : ds[i.toNat]? = some d) : pIx (.tuple ds) (.int i) = some d := by
  show L2.atI ds i = some d
  exact atI_get h0 h
theorem ix_dr {ds : List Int} (h : Draws ds) (i : Int) (h0 : 0 ≤ i) (h1 : i < 60) : pIx (.list (ds.map .int)) (.int i) = some (.int (dr ds i)) := by
  refine ix_nth _ _ _ h0 ?_
  have : i.toNat < ds.length := by rw [h.1]; omega
  rw [List.getElem?_map, dr, List.getD_eq_getElem?_getD, List.getElem?_eq_getElem this]
  rfl
theorem dr_bd {ds : List Int} (h : Draws ds) (i : Int) : 0 ≤ dr ds i ∧ dr ds i < 1000 := by
  unfold dr
  by_cases c : i.toNat < ds.length
  · rw [List.getD_eq_getElem?_getD, List.getElem?_eq_getElem c]
    exact h.2 _ (List.getElem_mem c)
  · rw [List.getD_eq_getElem?_getD, List.getElem?_eq_none (by omega)]
    decide
/-! the marks -/
def mid (ds : List Int) (i : Int) : Int := if 0 < dr ds 1 % 4 then 10 * i else dr ds (2 + i) % 60
def mks (ds : List Int) (i : Int) : Int := mid ds i - dr ds (10 + i) % (8 + dr ds 20 % 20)
def mke (ds : List Int) (i : Int) : Int := mid ds i + 1 + dr ds (30 + i) % (8 + dr ds 21 % 20)
def marks (ds : List Int) (n : Nat) : List (Int × Int × Int) := (List.range n).flatMap fun i => [(mks ds (i : Nat), ((i : Nat) : Int), 0), (mke ds (i : Nat), ((i : Nat) : Int), 1)]
theorem marks_succ (ds : List Int) (n : Nat) : marks ds (n + 1) = marks ds n ++ [(mks ds (n : Nat), ((n : Nat) : Int), 0)] ++ [(mke ds (n : Nat), ((n : Nat) : Int), 1)] := by
  unfold marks
  rw [List.range_succ, List.flatMap_append]
  simp
theorem marks_len (ds : List Int) (n : Nat) : (marks ds n).length = 2 * n := by
  induction n with
  | zero => rfl
  | succ n ih => rw [marks_succ]; simp [ih]; omega
theorem marks_mem {ds : List Int} {n : Nat} {p : Int × Int × Int} (h : p ∈ marks ds n) : ∃ i : Nat, i < n ∧ (p = (mks ds (i : Nat), ((i : Nat) : Int), 0) ∨ p = (mke ds (i : Nat), ((i : Nat) : Int), 1)) := by
  unfold marks at h
  obtain ⟨i, hi, h⟩ := List.mem_flatMap.mp h
  exact ⟨i, List.mem_range.mp hi, by simpa using h⟩
theorem marks_in {ds : List Int} {n i : Nat} (h : i < n) : (mks ds (i : Nat), ((i : Nat) : Int), 0) ∈ marks ds n ∧ (mke ds (i : Nat), ((i : Nat) : Int), 1) ∈ marks ds n :=
  ⟨List.mem_flatMap.mpr ⟨i, List.mem_range.mpr h, by simp⟩, List.mem_flatMap.mpr ⟨i, List.mem_range.mpr h, by simp⟩⟩
theorem marks_nodup (ds : List Int) (n : Nat) : ((marks ds n).map (·.2)).Nodup := by
  induction n with
  | zero => simp [marks]
  | succ n ih =>
    rw [marks_succ]
    simp only [List.map_append, List.map_cons, List.map_nil, List.append_assoc]
    rw [List.nodup_append]
    refine ⟨ih, by simp, ?_⟩
    intro a ha b hb e
    subst e
    obtain ⟨p, hp, rfl⟩ := List.mem_map.mp ha
    obtain ⟨i, hi, h | h⟩ := marks_mem hp <;> subst h <;> simp at hb <;> omega
theorem mk_lt {ds : List Int} (h : Draws ds) (i : Int) : mks ds i < mke ds i := by
  unfold mks mke
  have h1 := Int.emod_nonneg (dr ds (10 + i)) (b := 8 + dr ds 20 % 20) (by omega)
  have h2 := Int.emod_nonneg (dr ds (30 + i)) (b := 8 + dr ds 21 % 20) (by omega)
  omega
@[simp] theorem e3_1 (p : Int × Int × Int) : pIx (enc3 p) (.int 1) = some (.int p.2.1) := rfl
@[simp] theorem e3_2 (p : Int × Int × Int) : pIx (enc3 p) (.int 2) = some (.int p.2.2) := rfl
theorem e3_flat (p : Int × Int × Int) : flatD (enc3 p) = true := by simp [enc3, flatD, flatDs]
/-- the sorted marks -/
def smarks (ds : List Int) (n : Nat) : List (Int × Int × Int) := (marks ds n).mergeSort (W.dataLe false enc3)
theorem smarks_perm (ds : List Int) (n : Nat) : (smarks ds n).Perm (marks ds n) := List.mergeSort_perm _ _
theorem smarks_len (ds : List Int) (n : Nat) : (smarks ds n).length = 2 * n := by rw [(smarks_perm ds n).length_eq, marks_len]
theorem smarks_inj {ds : List Int} {n p q : Nat} {a b : Int × Int × Int} (h1 : (smarks ds n)[p]? = some a) (h2 : (smarks ds n)[q]? = some b) (e : a.2 = b.2) : p = q := by
  have nd : ((smarks ds n).map (·.2)).Nodup := ((smarks_perm ds n).map _).nodup_iff.mpr (marks_nodup ds n)
  obtain ⟨p1, p2⟩ := List.getElem?_eq_some_iff.mp h1
  obtain ⟨q1, q2⟩ := List.getElem?_eq_some_iff.mp h2
  have pw := List.pairwise_iff_getElem.mp nd
  rcases Nat.lt_trichotomy p q with z | z | z
  · have := pw p q (by simpa using p1) (by simpa using q1) z
    simp [p2, q2, e] at this
  · exact z
  · have := pw q p (by simpa using q1) (by simpa using p1) z
    simp [p2, q2, e] at this
theorem smarks_le {ds : List Int} {n p q : Nat} {a b : Int × Int × Int} (h1 : (smarks ds n)[p]? = some a) (h2 : (smarks ds n)[q]? = some b) (h : p < q) : a.1 ≤ b.1 := by
  have pw := sort_pw enc3 (marks ds n)
  obtain ⟨p1, p2⟩ := List.getElem?_eq_some_iff.mp h1
  obtain ⟨q1, q2⟩ := List.getElem?_eq_some_iff.mp h2
  have := List.pairwise_iff_getElem.mp pw p q p1 q1 h
  rw [← p2, ← q2]
  exact dle_3 _ _ this
def tAt (ds : List Int) (p : Nat) : Int := 3 * (p : Int) + dr ds (40 + (p : Int)) % 3
/-- what the dict of times holds behind p places -/
def Held (ds : List Int) (n p : Nat) (kvs : List (List L2.Key × PyData)) : Prop := kvs.length ≤ p ∧ ∀ (q : Nat) (a : Int × Int × Int), q < p → (smarks ds n)[q]? = some a → valD kvs [Sum.inl a.2.1, Sum.inl a.2.2] = some (.int (tAt ds q))
theorem held_put {ds : List Int} {n p : Nat} {kvs : List (List L2.Key × PyData)} {a : Int × Int × Int} (h : Held ds n p kvs) (e : (smarks ds n)[p]? = some a) : Held ds n (p + 1) (putD kvs [Sum.inl a.2.1, Sum.inl a.2.2] (.int (tAt ds p))) := by
  refine ⟨Nat.le_trans (putD_len _ _ _) (by have := h.1; omega), fun q b hq hb => ?_⟩
  rw [val_put]
  by_cases c : q = p
  · subst c
    rw [e] at hb
    cases hb
    rw [if_pos rfl]
  · rw [if_neg, h.2 q b (by omega) hb]
    intro z
    simp only [List.cons.injEq, Sum.inl.injEq, and_true] at z
    exact c (smarks_inj hb e (Prod.ext z.1 z.2))
/-- the times -/
structure Times (ds : List Int) (n : Nat) (kvs : List (List L2.Key × PyData)) (ts te : Nat → Int) : Prop where
  s : ∀ i, i < n → valD kvs [Sum.inl ((i : Nat) : Int), Sum.inl 0] = some (.int (ts i))
  e : ∀ i, i < n → valD kvs [Sum.inl ((i : Nat) : Int), Sum.inl 1] = some (.int (te i))
  bd : ∀ i, i < n → 0 ≤ ts i ∧ ts i < te i ∧ te i ≤ 35
  js : ∀ i j, i < n → j < n → ts i = ts j → i = j
  je : ∀ i j, i < n → j < n → te i = te j → i = j
  jx : ∀ i j, i < n → j < n → ts i ≠ te j
theorem times_of {ds : List Int} (hd : Draws ds) {n : Nat} (hn : n ≤ 6) {kvs : List (List L2.Key × PyData)} (h : Held ds n (2 * n) kvs) : ∃ ts te, Times ds n kvs ts te := by
  have pl : ∀ i : Nat, ∃ p q : Nat, i < n → (smarks ds n)[p]? = some (mks ds (i : Nat), ((i : Nat) : Int), 0) ∧ (smarks ds n)[q]? = some (mke ds (i : Nat), ((i : Nat) : Int), 1) ∧ p < 2 * n ∧ q < 2 * n := by
    intro i
    by_cases c : i < n
    · obtain ⟨m1, m2⟩ := marks_in (ds := ds) c
      obtain ⟨p, p1⟩ := List.getElem?_of_mem ((smarks_perm ds n).mem_iff.mpr m1)
      obtain ⟨q, q1⟩ := List.getElem?_of_mem ((smarks_perm ds n).mem_iff.mpr m2)
      refine ⟨p, q, fun _ => ⟨p1, q1, ?_, ?_⟩⟩
      · have := (List.getElem?_eq_some_iff.mp p1).1; rw [smarks_len] at this; exact this
      · have := (List.getElem?_eq_some_iff.mp q1).1; rw [smarks_len] at this; exact this
    · exact ⟨0, 0, fun z => absurd z c⟩
  obtain ⟨p, pl⟩ := Classical.skolem.mp pl
  obtain ⟨q, pl⟩ := Classical.skolem.mp pl
  have tj : ∀ a b : Nat, tAt ds a = tAt ds b → a = b := by
    intro a b e
    unfold tAt at e
    omega
  have tb : ∀ a : Nat, a < 12 → 0 ≤ tAt ds a ∧ tAt ds a ≤ 35 := by
    intro a ha
    unfold tAt
    omega
  refine ⟨fun i => tAt ds (p i), fun i => tAt ds (q i), ⟨fun i hi => ?_, fun i hi => ?_, fun i hi => ?_, fun i j hi hj e => ?_, fun i j hi hj e => ?_, fun i j hi hj e => ?_⟩⟩
  · obtain ⟨a, b, c, d⟩ := pl i hi
    exact h.2 _ _ c a
  · obtain ⟨a, b, c, d⟩ := pl i hi
    exact h.2 _ _ d b
  · obtain ⟨a, b, c, d⟩ := pl i hi
    have h1 := tb (p i) (by omega)
    have h2 := tb (q i) (by omega)
    refine ⟨h1.1, ?_, by omega⟩
    have hne : p i ≠ q i := fun z => by
      rw [z] at a
      rw [a] at b
      simp at b
    have hlt : p i < q i := by
      rcases Nat.lt_or_ge (p i) (q i) with z | z
      · exact z
      · have := smarks_le b a (by omega)
        have h3 := mk_lt hd ((i : Nat) : Int)
        simp at this
        omega
    show tAt ds (p i) < tAt ds (q i)
    unfold tAt
    omega
  · obtain ⟨a, b, c, d⟩ := pl i hi
    obtain ⟨a', b', c', d'⟩ := pl j hj
    have e := tj _ _ e
    rw [e, a'] at a
    simp at a
    omega
  · obtain ⟨a, b, c, d⟩ := pl i hi
    obtain ⟨a', b', c', d'⟩ := pl j hj
    have e := tj _ _ e
    rw [e, b'] at b
    simp at b
    omega
  · obtain ⟨a, b, c, d⟩ := pl i hi
    obtain ⟨a', b', c', d'⟩ := pl j hj
    have e := tj _ _ e
    rw [e, b'] at a
    simp at a
end CS
/-! M6: the story that a script draws, the loops. -/
namespace CS
open PySem
theorem canLay_ints : ∀ l : List Int, PyData.canLayAll0 (l.map .int) = true
  | [] => rfl
  | x :: l => by rw [List.map_cons, PyData.canLayAll0, canLay_ints l]; simp [PyData.canLay0]
theorem shaped_int (i : Int) : SeqAt.shaped (.int i) = true := rfl
theorem shaped_ints (l : List Int) : SeqAt.shaped (.list (l.map .int)) = true := by
  unfold SeqAt.shaped
  rw [PyData.canLay0, canLay_ints, PyData.depth, W.depth_ints]
  rfl
theorem shaped_intsT (l : List Int) : SeqAt.shaped (.tuple (l.map .int)) = true := by
  unfold SeqAt.shaped
  rw [PyData.canLay0, canLay_ints, PyData.depth, W.depth_ints]
  rfl
theorem eqv_int (i j : Int) : PyData.eqv (.int i) (.int j) = (i == j) := by unfold PyData.eqv; rfl
theorem any_int (l : List Int) (x : Int) : ((l.map PyData.int).any fun z => PyData.eqv z (.int x)) = decide (x ∈ l) := by
  induction l with
  | nil => rfl
  | cons y l ih =>
    rw [List.map_cons, List.any_cons, ih, eqv_int]
    by_cases h : y = x
    · subst h; simp
    · have h2 : ¬ x = y := fun z => h z.symm
      simp [h, h2]
@[simp] theorem notin_ints (x : Int) (l : List Int) : pInA true (.int x) (.list (l.map .int)) = some (.bool (!decide (x ∈ l))) :=
  p_inL (by rw [shaped_int, shaped_ints]; rfl) (any_int l x)
@[simp] theorem notin_intsT (x : Int) (l : List Int) : pInA true (.int x) (.tuple (l.map .int)) = some (.bool (!decide (x ∈ l))) :=
  p_inL (by rw [shaped_int, shaped_ints]; rfl) (any_int l x)
theorem flat_ints (l : List Int) : flatDs (l.map .int) = true := by
  induction l with
  | nil => rfl
  | cons x l ih => rw [List.map_cons, flatDs, ih]; rfl
/-- what is not among few -/
theorem free_len : ∀ (w l : List Int), l.Nodup → l.length ≤ (l.filter fun x => !decide (x ∈ w)).length + w.length
  | [], l, _ => by simp
  | y :: w, l, h => by
    have ih := free_len w l h
    have e : (l.filter fun x => !decide (x ∈ y :: w)) = (l.filter fun x => !decide (x ∈ w)).filter (fun x => x != y) := by
      rw [List.filter_filter]
      congr 1
      funext x
      simp only [List.mem_cons]
      by_cases h1 : x = y <;> by_cases h2 : x ∈ w <;> simp [h1, h2]
    have nd : (l.filter fun x => !decide (x ∈ w)).Nodup := h.filter _
    rw [e, ← nd.erase_eq_filter y]
    have := List.le_length_erase (l := l.filter fun x => !decide (x ∈ w)) (a := y)
    simp only [List.length_cons]
    omega
theorem rng_int (a : Int) (n : Nat) : rngD a n = ((List.range n).map fun i => a + ((i : Nat) : Int)).map .int := by
  unfold rngD
  rw [List.map_map]
  rfl
theorem pRng1 (n : Nat) (h : n ≤ 65536) : pRng [.int ((n : Nat) : Int)] = some (rngD 0 n) := by
  show (if _ then _ else _) = _
  rw [if_pos (by omega)]
  simp
def okV (o : Op) : Prop := (if o.w = true then 1 else 0) ≤ o.v ∧ o.v ≤ 9
/-- loop 1 -/
theorem story_1 {ds : List Int} (hd : Draws ds) {n : Nat} (hn : n ≤ 6) (a b c d : Cell) (tl : Ev) : ∃ c6 c7, forD (aName 6) (sSeq (sSet 7 (dIf (dT (d2 pGt (d2 pMod (d2 pIx (dVar 3) (dC (.int 1))) (dC (.int 4))) (dC (.int 0)))) (d2 pMul (dC (.int 10)) (dVar 6)) (d2 pMod (d2 pIx (dVar 3) (d2 pAdd (dC (.int 2)) (dVar 6))) (dC (.int 60)))))
    (sSeq (sApp 5 (dTup (dCons (d2 pSub (dVar 7) (d2 pMod (d2 pIx (dVar 3) (d2 pAdd (dC (.int 10)) (dVar 6))) (d2 pAdd (dC (.int 8)) (d2 pMod (d2 pIx (dVar 3) (dC (.int 20))) (dC (.int 20)))))) (dCons (dVar 6) (dCons (dC (.int 0)) dNil)))))
    (sApp 5 (dTup (dCons (d2 pAdd (d2 pAdd (dVar 7) (dC (.int 1))) (d2 pMod (d2 pIx (dVar 3) (d2 pAdd (dC (.int 30)) (dVar 6))) (d2 pAdd (dC (.int 8)) (d2 pMod (d2 pIx (dVar 3) (dC (.int 21))) (dC (.int 20)))))) (dCons (dVar 6) (dCons (dC (.int 1)) dNil)))))))
    (rngD 0 n) (a :: b :: c :: .dat (.list (ds.map .int)) :: d :: .own [] :: .no :: .no :: tl) = some (.nx (a :: b :: c :: .dat (.list (ds.map .int)) :: d :: .own ((marks ds n).map enc3) :: c6 :: c7 :: tl)) := by
  obtain ⟨ρ', e, c6, c7, rfl⟩ := for_rng (a := aName 6) (F := (sSeq (sSet 7 (dIf (dT (d2 pGt (d2 pMod (d2 pIx (dVar 3) (dC (.int 1))) (dC (.int 4))) (dC (.int 0)))) (d2 pMul (dC (.int 10)) (dVar 6)) (d2 pMod (d2 pIx (dVar 3) (d2 pAdd (dC (.int 2)) (dVar 6))) (dC (.int 60)))))
    (sSeq (sApp 5 (dTup (dCons (d2 pSub (dVar 7) (d2 pMod (d2 pIx (dVar 3) (d2 pAdd (dC (.int 10)) (dVar 6))) (d2 pAdd (dC (.int 8)) (d2 pMod (d2 pIx (dVar 3) (dC (.int 20))) (dC (.int 20)))))) (dCons (dVar 6) (dCons (dC (.int 0)) dNil)))))
    (sApp 5 (dTup (dCons (d2 pAdd (d2 pAdd (dVar 7) (dC (.int 1))) (d2 pMod (d2 pIx (dVar 3) (d2 pAdd (dC (.int 30)) (dVar 6))) (d2 pAdd (dC (.int 8)) (d2 pMod (d2 pIx (dVar 3) (dC (.int 21))) (dC (.int 20)))))) (dCons (dVar 6) (dCons (dC (.int 1)) dNil)))))))) n
    (fun i ρ => ∃ c6 c7, ρ = a :: b :: c :: .dat (.list (ds.map .int)) :: d :: .own ((marks ds i).map enc3) :: c6 :: c7 :: tl)
    (a :: b :: c :: .dat (.list (ds.map .int)) :: d :: .own [] :: .no :: .no :: tl) ⟨_, _, rfl⟩ (by
      rintro i ρ hi ⟨c6, c7, rfl⟩
      have d1 := ix_dr hd 1 (by omega) (by omega)
      have d2 := ix_dr hd 20 (by omega) (by omega)
      have d3 := ix_dr hd 21 (by omega) (by omega)
      have d4 := ix_dr hd (2 + (i : Int)) (by omega) (by omega)
      have d5 := ix_dr hd (10 + (i : Int)) (by omega) (by omega)
      have d6 := ix_dr hd (30 + (i : Int)) (by omega) (by omega)
      have g1 : 0 < 8 + dr ds 20 % 20 := by omega
      have g2 : 0 < 8 + dr ds 21 % 20 := by omega
      have z1 : (marks ds i).length < 65536 := by rw [marks_len]; omega
      have z2 : (marks ds i).length + 1 < 65536 := by rw [marks_len]; omega
      refine ⟨_, a :: b :: c :: .dat (.list (ds.map .int)) :: d :: .own ((marks ds (i + 1)).map enc3) :: .dat (.int i) :: .dat (.int (mid ds i)) :: tl, a_name _ _, seq_nxs (ρ' := a :: b :: c :: .dat (.list (ds.map .int)) :: d :: .own ((marks ds i).map enc3) :: .dat (.int i) :: .dat (.int (mid ds i)) :: tl) ?_ (seq_nxs (ρ' := a :: b :: c :: .dat (.list (ds.map .int)) :: d :: .own ((marks ds i ++ [(mks ds (i : Nat), ((i : Nat) : Int), 0)]).map enc3) :: .dat (.int i) :: .dat (.int (mid ds i)) :: tl) ?_ ?_), _, _, rfl⟩
      · by_cases h : 0 < dr ds 1 % 4
        · simp [d1, d4, h, mid]
        · simp [d1, d4, h, mid]
      · simp [d2, d5, g1, z1, enc3, mks]
      · rw [marks_succ]
        simp [d3, d6, g2, z2, enc3, mke])
  exact ⟨c6, c7, e⟩
end CS
/-! M7: the story that a script draws: the times. -/
namespace CS
open PySem
abbrev F2 : Ev → Option Out := (sSeq (sSetV 10 (d2 pIx (dB pSort (dCons (dVar 5) dNil)) (dVar 9)))
    (sDPut' 8 (d2 pIx (dVar 10) (dC (.int 1))) (d2 pIx (dVar 10) (dC (.int 2))) (d2 pAdd (d2 pMul (dC (.int 3)) (dVar 9)) (d2 pMod (d2 pIx (dVar 3) (d2 pAdd (dC (.int 40)) (dVar 9))) (dC (.int 3))))))
theorem story_2 {ds : List Int} (hd : Draws ds) {n : Nat} (hn : n ≤ 6) (a b c d c6 c7 : Cell) (tl : Ev) : ∃ kvs c9 c10, Held ds n (2 * n) kvs ∧ forD (aName 9) F2
    (rngD 0 (2 * n)) (a :: b :: c :: .dat (.list (ds.map .int)) :: d :: .own ((marks ds n).map enc3) :: c6 :: c7 :: .dct [] :: .no :: .no :: tl) = some (.nx (a :: b :: c :: .dat (.list (ds.map .int)) :: d :: .own ((marks ds n).map enc3) :: c6 :: c7 :: .dct kvs :: c9 :: c10 :: tl)) := by
  obtain ⟨ρ', e, kvs, c9, c10, h, rfl⟩ := for_rng (a := aName 9) (F := F2) (2 * n)
    (fun i ρ => ∃ kvs c9 c10, Held ds n i kvs ∧ ρ = a :: b :: c :: .dat (.list (ds.map .int)) :: d :: .own ((marks ds n).map enc3) :: c6 :: c7 :: .dct kvs :: c9 :: c10 :: tl)
    (a :: b :: c :: .dat (.list (ds.map .int)) :: d :: .own ((marks ds n).map enc3) :: c6 :: c7 :: .dct [] :: .no :: .no :: tl) ⟨[], _, _, ⟨Nat.le_refl _, fun q a hq => absurd hq (by omega)⟩, rfl⟩ (by
      rintro i ρ hi ⟨kvs, c9, c10, h, rfl⟩
      have hl : i < (smarks ds n).length := by rw [smarks_len]; exact hi
      obtain ⟨m, hm⟩ : ∃ m, (smarks ds n)[i]? = some m := ⟨_, List.getElem?_eq_getElem hl⟩
      have d4 := ix_dr hd (40 + (i : Int)) (by omega) (by omega)
      have ps := psort_list enc3 (marks ds n) (sok_3 _)
      have hx : pIx (.list ((smarks ds n).map enc3)) (.int (i : Int)) = some (enc3 m) := ix_nth _ _ _ (by omega) (by rw [Int.toNat_natCast, List.getElem?_map, hm]; rfl)
      have hk : kvs.length < 65536 := by have := h.1; omega
      refine ⟨_, a :: b :: c :: .dat (.list (ds.map .int)) :: d :: .own ((marks ds n).map enc3) :: c6 :: c7 :: .dct (putD kvs [Sum.inl m.2.1, Sum.inl m.2.2] (.int (tAt ds i))) :: .dat (.int i) :: .dat (enc3 m) :: tl, a_name _ _, seq_nxs (ρ' := a :: b :: c :: .dat (.list (ds.map .int)) :: d :: .own ((marks ds n).map enc3) :: c6 :: c7 :: .dct kvs :: .dat (.int i) :: .dat (enc3 m) :: tl) ?_ ?_, _, _, _, held_put h hm, rfl⟩
      · have ps' : pSort [.list ((marks ds n).map enc3)] = some (.list ((smarks ds n).map enc3)) := ps
        simp only [sD_cons, sD_nil, e_setV, x_d2, x_B, x_cons, x_nil, view, List.map_cons, List.set_cons_succ, List.set_cons_zero, v_own, v_dat, v_dct, var_s, var_0, b_some, ps', hx]
        rw [if_pos (e3_flat m)]
      · simp [d4, hk, tAt])
  exact ⟨kvs, c9, c10, h, e⟩
/-- loop 3 -/
abbrev F3 : Ev → Option Out := (sSeq (sSet 14 (dIf (dT (d2 pEq (d2 pMod (d2 pIx (dVar 3) (d2 pAdd (dC (.int 22)) (dVar 6))) (dC (.int 2))) (dC (.int 0)))) (dC (.str "write")) (dC (.str "read"))))
    (sSeq (sIf (dT (d2 pEq (dVar 14) (dC (.str "write")))) (sSeq (sSetV 12 (d2 pIx (dLc [16] (dRng (dCons (dC (.int 1)) (dCons (dC (.int 10)) dNil))) (aName 16) (dT (d2 (pInA true) (dVar 16) (dVar 13))) (dVar 16)) (d2 pMod (d2 pIx (dVar 3) (d2 pAdd (dC (.int 50)) (dVar 6))) (dC (.int 3)))))
    (sApp 13 (dVar 12))) sNext)
    (sSeq (sSet 15 (dVar 12))
    (sSeq (sIf (dAndT (dT (d2 pEq (dVar 14) (dC (.str "read")))) (dT (d2 pEq (d2 pMod (d2 pIx (dVar 3) (dC (.int 1))) (dC (.int 3))) (dC (.int 0))))) (sSetV 15 (d2 pIx (d2 pAdd (d2 pAdd (dLst (dCons (dC (.int 0)) dNil)) (dVar 13)) (dLst (dCons (dC (.int 9)) dNil))) (d2 pMod (d2 pIx (dVar 3) (d2 pAdd (dC (.int 50)) (dVar 6))) (d2 pAdd (dB pLen (dCons (dVar 13) dNil)) (dC (.int 2)))))) sNext)
    (sApp 11 (dTup (dCons (dVar 14) (dCons (dVar 15) (dCons (dDGet 8 (dVar 6) (dC (.int 0))) (dCons (dDGet 8 (dVar 6) (dC (.int 1))) dNil))))))))))
@[simp] theorem eq_ww : pEq (.str "write") (.str "write") = some (.bool true) := p_eqd (by decide +kernel) (by decide +kernel)
@[simp] theorem eq_rw : pEq (.str "read") (.str "write") = some (.bool false) := p_eqd (by decide +kernel) (by decide +kernel)
@[simp] theorem eq_wr : pEq (.str "write") (.str "read") = some (.bool false) := p_eqd (by decide +kernel) (by decide +kernel)
@[simp] theorem eq_rr : pEq (.str "read") (.str "read") = some (.bool true) := p_eqd (by decide +kernel) (by decide +kernel)
@[simp] theorem flat_i (i : Int) : flatD (.int i) = true := rfl
theorem rng_1_10 : pRng [.int 1, .int 10] = some (((List.range 9).map fun i => 1 + ((i : Nat) : Int)).map .int) := by
  have e : pRng [.int 1, .int 10] = if ((-65536 : Int) ≤ 1 ∧ (1 : Int) ≤ 65536) ∧ ((-65536 : Int) ≤ 10 ∧ (10 : Int) ≤ 65536) ∧ (10 : Int) - 1 ≤ 65536 then some (rngD 1 ((10 : Int) - 1).toNat) else none := rfl
  rw [e, if_pos (by decide), ← rng_int]
  rfl
def freeOf (w : List Int) : List Int := ((List.range 9).map fun i => 1 + ((i : Nat) : Int)).filter fun x => !decide (x ∈ w)
theorem free_mem {w : List Int} {x : Int} (h : x ∈ freeOf w) : x ∉ w ∧ 1 ≤ x ∧ x ≤ 9 := by
  unfold freeOf at h
  obtain ⟨h1, h2⟩ := List.mem_filter.mp h
  obtain ⟨i, hi, rfl⟩ := List.mem_map.mp h1
  have := List.mem_range.mp hi
  simp at h2
  exact ⟨h2, by omega, by omega⟩
theorem free_many (w : List Int) : 9 ≤ (freeOf w).length + w.length := by
  have := free_len w ((List.range 9).map fun i => 1 + ((i : Nat) : Int)) (by decide)
  simpa [freeOf] using this
structure Made (ts te : Nat → Int) (i : Nat) (ops : List Op) (last : Int) : Prop where
  s : ops.map Op.s = (List.range i).map ts
  e : ops.map Op.e = (List.range i).map te
  v : ∀ o ∈ ops, okV o
  wn : (writtenOf ops).Nodup
  wb : ∀ x ∈ writtenOf ops, 1 ≤ x ∧ x ≤ 9
  l0 : 0 ≤ last ∧ last ≤ 9
theorem Made.len {ts te : Nat → Int} {i : Nat} {ops : List Op} {last : Int} (h : Made ts te i ops last) : ops.length = i := by
  have := congrArg List.length h.s
  simpa using this
theorem written_app (ops : List Op) (o : Op) : writtenOf (ops ++ [o]) = writtenOf ops ++ (if o.w = true then [o.v] else []) := by
  unfold writtenOf
  rw [List.filter_append, List.map_append]
  congr 1
  by_cases h : o.w = true
  · simp [h]
  · simp [h]
theorem Made.add {ts te : Nat → Int} {i : Nat} {ops : List Op} {last : Int} (h : Made ts te i ops last) (w : Bool) (v last' : Int) (hv : okV ⟨w, v, ts i, te i⟩) (hw : w = true → v ∉ writtenOf ops) (hl : 0 ≤ last' ∧ last' ≤ 9) :
    Made ts te (i + 1) (ops ++ [⟨w, v, ts i, te i⟩]) last' where
  s := by rw [List.map_append, h.s, List.range_succ, List.map_append]; rfl
  e := by rw [List.map_append, h.e, List.range_succ, List.map_append]; rfl
  v := fun o ho => by
    rcases List.mem_append.mp ho with z | z
    · exact h.v o z
    · simp at z; subst z; exact hv
  wn := by
    rw [written_app]
    by_cases c : w = true
    · simp only [c, if_true]
      rw [List.nodup_append]
      refine ⟨h.wn, by simp, fun x hx y hy e => ?_⟩
      simp at hy
      subst e; subst hy
      exact hw c hx
    · simp [c, h.wn]
  wb := fun x hx => by
    rw [written_app] at hx
    rcases List.mem_append.mp hx with z | z
    · exact h.wb x z
    · by_cases c : w = true
      · simp only [c, if_true] at z
        simp at z; subst z
        have := hv
        unfold okV at this
        simp only [c, if_true] at this
        exact this
      · simp [c] at z
  l0 := hl
theorem story_3 {ds : List Int} (hd : Draws ds) {n : Nat} (hn : n ≤ 6) {kvs : List (List L2.Key × PyData)} {ts te : Nat → Int} (ht : Times ds n kvs ts te) (a b c d c5 c6 c7 c9 c10 : Cell) : ∃ ops last c6' c14 c15, Made ts te n ops last ∧ forD (aName 6) F3
    (rngD 0 n) [a, b, c, .dat (.list (ds.map .int)), d, c5, c6, c7, .dct kvs, c9, c10, .own [], .dat (.int 0), .own [], .no, .no, .no, .no] = some (.nx [a, b, c, .dat (.list (ds.map .int)), d, c5, c6', c7, .dct kvs, c9, c10, .own (ops.map Op.enc), .dat (.int last), .own ((writtenOf ops).map .int), c14, c15, .no, .no]) := by
  obtain ⟨ρ', e, ops, last, c6', c14, c15, h, rfl⟩ := for_rng (a := aName 6) (F := F3) n
    (fun i ρ => ∃ ops last c6' c14 c15, Made ts te i ops last ∧ ρ = [a, b, c, .dat (.list (ds.map .int)), d, c5, c6', c7, .dct kvs, c9, c10, .own (ops.map Op.enc), .dat (.int last), .own ((writtenOf ops).map .int), c14, c15, .no, .no])
    [a, b, c, .dat (.list (ds.map .int)), d, c5, c6, c7, .dct kvs, c9, c10, .own [], .dat (.int 0), .own [], .no, .no, .no, .no] ⟨[], 0, _, _, _, ⟨rfl, rfl, by simp, by simp [writtenOf], by simp [writtenOf], by omega⟩, rfl⟩ (by
      rintro i ρ hi ⟨ops, last, c6', c14, c15, h, rfl⟩
      have d22 := ix_dr hd (22 + (i : Int)) (by omega) (by omega)
      have d50 := ix_dr hd (50 + (i : Int)) (by omega) (by omega)
      have d1 := ix_dr hd 1 (by omega) (by omega)
      have t0 := ht.s i hi
      have t1 := ht.e i hi
      have hol := h.len
      have hwl : (writtenOf ops).length ≤ i := by
        unfold writtenOf; rw [List.length_map, ← hol]; exact List.length_filter_le _ _
      have hz : ops.length < 65536 := by omega
      have hz2 : (writtenOf ops).length < 65536 := by omega
      by_cases w : dr ds (22 + (i : Int)) % 2 = 0
      · -- a write
        have hfm := free_many (writtenOf ops)
        have hidx : (dr ds (50 + (i : Int)) % 3).toNat < (freeOf (writtenOf ops)).length := by omega
        obtain ⟨v, hv⟩ : ∃ v, (freeOf (writtenOf ops))[(dr ds (50 + (i : Int)) % 3).toNat]? = some v := ⟨_, List.getElem?_eq_getElem hidx⟩
        have hvm := free_mem (List.mem_of_getElem? hv)
        have hx : pIx (.list ((freeOf (writtenOf ops)).map .int)) (.int (dr ds (50 + (i : Int)) % 3)) = some (.int v) := ix_nth _ _ _ (by omega) (by rw [List.getElem?_map, hv]; rfl)
        refine ⟨_, [a, b, c, .dat (.list (ds.map .int)), d, c5, .dat (.int i), c7, .dct kvs, c9, c10, .own ((ops ++ [Op.mk true v (ts i) (te i)]).map Op.enc), .dat (.int v), .own ((writtenOf (ops ++ [Op.mk true v (ts i) (te i)])).map .int), .dat (.str "write"), .dat (.int v), .no, .no], a_name _ _,
          seq_nxs (ρ' := [a, b, c, .dat (.list (ds.map .int)), d, c5, .dat (.int i), c7, .dct kvs, c9, c10, .own (ops.map Op.enc), .dat (.int last), .own ((writtenOf ops).map .int), .dat (.str "write"), c15, .no, .no]) ?_
          (seq_nxs (ρ' := [a, b, c, .dat (.list (ds.map .int)), d, c5, .dat (.int i), c7, .dct kvs, c9, c10, .own (ops.map Op.enc), .dat (.int v), .own ((writtenOf ops ++ [v]).map .int), .dat (.str "write"), c15, .no, .no]) (if_yes ?_ (seq_nxs (ρ' := [a, b, c, .dat (.list (ds.map .int)), d, c5, .dat (.int i), c7, .dct kvs, c9, c10, .own (ops.map Op.enc), .dat (.int v), .own ((writtenOf ops).map .int), .dat (.str "write"), c15, .no, .no]) ?_ ?_))
          (seq_nxs (set_of (d := .int v) ?_) (seq_nxs (if_no ?_) ?_))), _, v, _, _, _, h.add true v v ?_ (fun _ => hvm.1) (by omega), rfl⟩
        · simp [d22, w]
        · simp
        · simp only [e_setV, x_d2, x_lc, x_Rng, x_cons, x_nil, x_C, b_some, rng_1_10, view, List.map_cons, List.map_nil, v_dat, v_own, v_no, v_dct]
          rw [comp1 PyData.int (fun x => !decide (x ∈ writtenOf ops)) PyData.int]
          · have e1 : (List.filter (fun x => !decide (x ∈ writtenOf ops)) ((List.range 9).map fun i => 1 + ((i : Nat) : Int))) = freeOf (writtenOf ops) := rfl
            rw [e1]
            simp [d50, hx]
          · rfl
          · intro x hx; simp
        · simp [hz2]
        · simp
        · simp
        · simp [t0, t1, hz, written_app, Op.enc, kd]
        · unfold okV; simp; omega
      · -- a read
        have hw2 : ¬ (dr ds (22 + (i : Int)) % 2 == 0) = true := by simpa using w
        by_cases r : dr ds 1 % 3 = 0
        · have hm := Int.emod_nonneg (dr ds (50 + (i : Int))) (b := ((writtenOf ops).length : Int) + 2) (by omega)
          have hm2 := Int.emod_lt_of_pos (dr ds (50 + (i : Int))) (b := ((writtenOf ops).length : Int) + 2) (by omega)
          have hidx : (dr ds (50 + (i : Int)) % (((writtenOf ops).length : Int) + 2)).toNat < ([0] ++ writtenOf ops ++ [9]).length := by simp; omega
          obtain ⟨v, hv⟩ : ∃ v, ([0] ++ writtenOf ops ++ [9])[(dr ds (50 + (i : Int)) % (((writtenOf ops).length : Int) + 2)).toNat]? = some v := ⟨_, List.getElem?_eq_getElem hidx⟩
          have hvb : 0 ≤ v ∧ v ≤ 9 := by
            have := List.mem_of_getElem? hv
            rcases List.mem_append.mp this with z | z
            · rcases List.mem_append.mp z with z | z
              · simp at z; omega
              · have := h.wb v z; omega
            · simp at z; omega
          have hx : pIx (.list (([0] ++ writtenOf ops ++ [9]).map .int)) (.int (dr ds (50 + (i : Int)) % (((writtenOf ops).length : Int) + 2))) = some (.int v) := ix_nth _ _ _ hm (by rw [List.getElem?_map, hv]; rfl)
          refine ⟨_, [a, b, c, .dat (.list (ds.map .int)), d, c5, .dat (.int i), c7, .dct kvs, c9, c10, .own ((ops ++ [Op.mk false v (ts i) (te i)]).map Op.enc), .dat (.int last), .own ((writtenOf (ops ++ [Op.mk false v (ts i) (te i)])).map .int), .dat (.str "read"), .dat (.int v), .no, .no], a_name _ _,
            seq_nxs (ρ' := [a, b, c, .dat (.list (ds.map .int)), d, c5, .dat (.int i), c7, .dct kvs, c9, c10, .own (ops.map Op.enc), .dat (.int last), .own ((writtenOf ops).map .int), .dat (.str "read"), c15, .no, .no]) ?_
            (seq_nxs (if_no ?_) (seq_nxs (set_of (d := .int last) ?_) (seq_nxs (ρ' := [a, b, c, .dat (.list (ds.map .int)), d, c5, .dat (.int i), c7, .dct kvs, c9, c10, .own (ops.map Op.enc), .dat (.int last), .own ((writtenOf ops).map .int), .dat (.str "read"), .dat (.int v), .no, .no]) (if_yes ?_ ?_) ?_))), _, last, _, _, _, h.add false v last ?_ (fun z => by cases z) h.l0, rfl⟩
          · simp [d22, w]
          · simp
          · simp
          · simp [d1, r]
          · have a1 : pAdd (.list [.int 0]) (.list ((writtenOf ops).map .int)) = some (.list (([0] ++ writtenOf ops).map .int)) := by rw [addL _ _ (by simp; omega)]; simp
            have a2 : pAdd (.list (([0] ++ writtenOf ops).map .int)) (.list [.int 9]) = some (.list (([0] ++ writtenOf ops ++ [9]).map .int)) := by rw [addL _ _ (by simp; omega)]; simp
            have g0 : (0 : Int) < ((writtenOf ops).length : Int) + 2 := by omega
            simp only [e_setV, x_d2, x_lst, x_cons, x_nil, x_C, x_B, b_some, view, List.map_cons, List.map_nil, v_dat, v_own, v_no, v_dct, var_s, var_0, List.length_cons, List.length_nil, p_add, p_lenL, List.length_map, List.set_cons_succ, List.set_cons_zero]
            simp only [show (0 + 1 ≤ 65536) = True from by simp, if_true, b_some, a1, a2, d50, p_mod _ _ g0, hx, flat_i]
          · simp [t0, t1, hz, written_app, Op.enc, kd]
          · unfold okV; simp; omega
        · refine ⟨_, [a, b, c, .dat (.list (ds.map .int)), d, c5, .dat (.int i), c7, .dct kvs, c9, c10, .own ((ops ++ [Op.mk false last (ts i) (te i)]).map Op.enc), .dat (.int last), .own ((writtenOf (ops ++ [Op.mk false last (ts i) (te i)])).map .int), .dat (.str "read"), .dat (.int last), .no, .no], a_name _ _,
            seq_nxs (ρ' := [a, b, c, .dat (.list (ds.map .int)), d, c5, .dat (.int i), c7, .dct kvs, c9, c10, .own (ops.map Op.enc), .dat (.int last), .own ((writtenOf ops).map .int), .dat (.str "read"), c15, .no, .no]) ?_
            (seq_nxs (if_no ?_) (seq_nxs (set_of (d := .int last) ?_) (seq_nxs (if_no ?_) ?_))), _, last, _, _, _, h.add false last last ?_ (fun z => by cases z) h.l0, rfl⟩
          · simp [d22, w]
          · simp
          · simp
          · simp [d1, r]
          · simp [t0, t1, hz, written_app, Op.enc, kd]
          · have := h.l0
            unfold okV; simp; omega)
  exact ⟨ops, last, c6', c14, c15, h, e⟩
end CS
/-! M8: the story that a script draws. -/
namespace CS
open PySem
theorem zip_tail_lt {l : List Op} (h : l.Pairwise fun a b => a.s < b.s) : ((l.zip (l.drop 1)).any fun p => decide (p.2.s ≤ p.1.s)) = false := by
  rw [List.any_eq_false]
  intro p hp
  obtain ⟨i, hi⟩ := List.getElem?_of_mem hp
  rw [List.getElem?_zip_eq_some] at hi
  obtain ⟨h1, h2⟩ := hi
  rw [List.getElem?_drop] at h2
  obtain ⟨a1, a2⟩ := List.getElem?_eq_some_iff.mp h1
  obtain ⟨b1, b2⟩ := List.getElem?_eq_some_iff.mp h2
  have := List.pairwise_iff_getElem.mp h i (1 + i) a1 b1 (by omega)
  rw [a2, b2] at this
  simp; omega
theorem nodup_map_on {α β : Type} {f : α → β} {l : List α} (nd : l.Nodup) (h : ∀ x ∈ l, ∀ y ∈ l, f x = f y → x = y) : (l.map f).Nodup := by
  unfold List.Nodup at *
  rw [List.pairwise_map]
  exact nd.imp_of_mem fun hx hy ne e => ne (h _ hx _ hy e)
theorem story_e {ds : List Int} {n : Nat} {kvs : List (List L2.Key × PyData)} {ts te : Nat → Int} (ht : Times ds n kvs ts te) {ops : List Op} {last : Int} (h : Made ts te n ops last) : ∀ o ∈ ops.mergeSort (W.dataLe false encSO), o.e ≤ 35 := by
  intro o ho
  have ho := (List.mergeSort_perm _ _).mem_iff.mp ho
  obtain ⟨j, hj⟩ := List.getElem?_of_mem ho
  have hol := h.len
  have hjn : j < n := by have := (List.getElem?_eq_some_iff.mp hj).1; omega
  have e2 : o.e = te j := by
    have : (ops.map Op.e)[j]? = some o.e := by rw [List.getElem?_map, hj]; rfl
    rw [h.e, List.getElem?_map, List.getElem?_range hjn] at this
    simpa using this.symm
  have := ht.bd j hjn
  omega
theorem story_fin {ds : List Int} {n : Nat} (hn : n ≤ 6) {kvs : List (List L2.Key × PyData)} {ts te : Nat → Int} (ht : Times ds n kvs ts te) {ops : List Op} {last : Int} (h : Made ts te n ops last) : storyOk (ops.mergeSort (W.dataLe false encSO)) = true := by
  have hp : (ops.mergeSort (W.dataLe false encSO)).Perm ops := List.mergeSort_perm _ _
  have hl := h.len
  have nds : (ops.map Op.s).Nodup := by
    rw [h.s]
    refine nodup_map_on List.nodup_range fun i hi j hj e => ?_
    exact ht.js i j (List.mem_range.mp hi) (List.mem_range.mp hj) e
  have nde : (ops.map Op.e).Nodup := by
    rw [h.e]
    refine nodup_map_on List.nodup_range fun i hi j hj e => ?_
    exact ht.je i j (List.mem_range.mp hi) (List.mem_range.mp hj) e
  have ndt : (timesOf ops).Nodup := by
    unfold timesOf
    rw [List.nodup_append]
    refine ⟨nds, nde, fun x hx y hy e => ?_⟩
    rw [h.s] at hx
    rw [h.e] at hy
    obtain ⟨i, hi, rfl⟩ := List.mem_map.mp hx
    obtain ⟨j, hj, e2⟩ := List.mem_map.mp hy
    exact ht.jx i j (List.mem_range.mp hi) (List.mem_range.mp hj) (e.trans e2.symm)
  have tp : (timesOf (ops.mergeSort (W.dataLe false encSO))).Perm (timesOf ops) := (hp.map _).append (hp.map _)
  have wp : (writtenOf (ops.mergeSort (W.dataLe false encSO))).Perm (writtenOf ops) := (hp.filter _).map _
  have pw : (ops.mergeSort (W.dataLe false encSO)).Pairwise fun a b => a.s < b.s := by
    have p1 : (ops.mergeSort (W.dataLe false encSO)).Pairwise fun a b => a.s ≤ b.s := (sort_pw encSO ops).imp fun {a b} z => dle_so a b z
    have p2 : (ops.mergeSort (W.dataLe false encSO)).Pairwise fun a b => a.s ≠ b.s := List.pairwise_map.mp ((hp.map Op.s).nodup_iff.mpr nds)
    exact (p1.and p2).imp fun {a b} z => by omega
  have okall : ∀ o ∈ ops, o.ok = true := by
    intro o ho
    obtain ⟨j, hj⟩ := List.getElem?_of_mem ho
    have hjn : j < n := by have := (List.getElem?_eq_some_iff.mp hj).1; omega
    have e1 : o.s = ts j := by
      have : (ops.map Op.s)[j]? = some o.s := by rw [List.getElem?_map, hj]; rfl
      rw [h.s, List.getElem?_map, List.getElem?_range hjn] at this
      simpa using this.symm
    have e2 : o.e = te j := by
      have : (ops.map Op.e)[j]? = some o.e := by rw [List.getElem?_map, hj]; rfl
      rw [h.e, List.getElem?_map, List.getElem?_range hjn] at this
      simpa using this.symm
    have hb := ht.bd j hjn
    have hv := h.v o ho
    unfold okV at hv
    unfold Op.ok
    simp only [Bool.and_eq_true, decide_eq_true_eq]
    omega
  unfold storyOk
  rw [zip_tail_lt pw]
  have a1 : (ops.mergeSort (W.dataLe false encSO)).length ≤ 6 := by rw [hp.length_eq]; omega
  have a2 : (ops.mergeSort (W.dataLe false encSO)).all Op.ok = true := List.all_eq_true.mpr fun o ho => okall o (hp.mem_iff.mp ho)
  have a3 := tp.nodup_iff.mpr ndt
  have a4 := wp.nodup_iff.mpr h.wn
  rw [a2]
  have a0 : ops.length ≤ 6 := by omega
  simp [a0, a3, a4]
theorem law_story_ok2 (ns : List Int) (k most : Int) (hk : 0 ≤ k) (h0 : 0 ≤ most) (h6 : most ≤ 6) : ∃ l : List Op, storyOk l = true ∧ (∀ o ∈ l, o.e ≤ 35) ∧ (l.length : Int) ≤ most ∧ m__law_story [encS ns, .int k, .int most] = some (encO l) := by
  obtain ⟨ds, hd, er⟩ := row_ok ns k hk
  have hb := dr_bd hd 0
  have n0 := Int.emod_nonneg (dr ds 0) (b := most + 1) (by omega)
  have n1 := Int.emod_lt_of_pos (dr ds 0) (b := most + 1) (by omega)
  generalize hN : (dr ds 0 % (most + 1)).toNat = n at *
  have hn6 : n ≤ 6 := by omega
  have hnm : dr ds 0 % (most + 1) = ((n : Nat) : Int) := by omega
  have d0 := ix_dr hd 0 (by omega) (by omega)
  have g0 : (0 : Int) < most + 1 := by omega
  obtain ⟨c6, c7, e1⟩ := story_1 hd hn6 (.dat (encS ns)) (.dat (.int k)) (.dat (.int most)) (.dat (.int n)) [.no, .no, .no, .no, .no, .no, .no, .no, .no, .no]
  obtain ⟨kvs, c9, c10, hh, e2⟩ := story_2 hd hn6 (.dat (encS ns)) (.dat (.int k)) (.dat (.int most)) (.dat (.int n)) c6 c7 [.no, .no, .no, .no, .no, .no, .no]
  obtain ⟨ts, te, ht⟩ := times_of hd hn6 hh
  obtain ⟨ops, last, c6', c14, c15, hm, e3⟩ := story_3 hd hn6 ht (.dat (encS ns)) (.dat (.int k)) (.dat (.int most)) (.dat (.int n)) (.own ((marks ds n).map enc3)) c6 c7 c9 c10
  have hol := hm.len
  refine ⟨_, story_fin hn6 ht hm, story_e ht hm, by rw [(List.mergeSort_perm _ _).length_eq, hol]; omega, ?_⟩
  have ps : pSort [.list ((marks ds n).map enc3)] = some (.list ((smarks ds n).map enc3)) := psort_list enc3 (marks ds n) (sok_3 _)
  have sl := smarks_len ds n
  have pr : pRng [.int (((2 * n : Nat) : Int))] = some (rngD 0 (2 * n)) := pRng1 _ (by omega)
  have pr2 : pRng [.int ((n : Nat) : Int)] = some (rngD 0 n) := pRng1 _ (by omega)
  simp only [m__law_story, e_fn, b__law_story]
  refine seq_nx (set_of (d := .list (ds.map .int)) ?_) (seq_nx (set_of (d := .int (n : Nat)) ?_) (seq_nx (ρ' := [.dat (encS ns), .dat (.int k), .dat (.int most), .dat (.list (ds.map .int)), .dat (.int n), .own [], .no, .no, .no, .no, .no, .no, .no, .no, .no, .no, .no, .no]) ?_
    (seq_nx (ρ' := [.dat (encS ns), .dat (.int k), .dat (.int most), .dat (.list (ds.map .int)), .dat (.int n), .own ((marks ds n).map enc3), c6, c7, .no, .no, .no, .no, .no, .no, .no, .no, .no, .no]) ?_
    (seq_nx (ρ' := [.dat (encS ns), .dat (.int k), .dat (.int most), .dat (.list (ds.map .int)), .dat (.int n), .own ((marks ds n).map enc3), c6, c7, .dct [], .no, .no, .no, .no, .no, .no, .no, .no, .no]) ?_
    (seq_nx (ρ' := [.dat (encS ns), .dat (.int k), .dat (.int most), .dat (.list (ds.map .int)), .dat (.int n), .own ((marks ds n).map enc3), c6, c7, .dct kvs, c9, c10, .no, .no, .no, .no, .no, .no, .no]) ?_
    (seq_nx (ρ' := [.dat (encS ns), .dat (.int k), .dat (.int most), .dat (.list (ds.map .int)), .dat (.int n), .own ((marks ds n).map enc3), c6, c7, .dct kvs, c9, c10, .own [], .dat (.int 0), .own [], .no, .no, .no, .no]) ?_
    (seq_nx (ρ' := [.dat (encS ns), .dat (.int k), .dat (.int most), .dat (.list (ds.map .int)), .dat (.int n), .own ((marks ds n).map enc3), c6', c7, .dct kvs, c9, c10, .own (ops.map Op.enc), .dat (.int last), .own ((writtenOf ops).map .int), c14, c15, .no, .no]) ?_
    (ret_end ?_))))))))
  · simp [er]
  · simp [d0, g0, hnm]
  · simp
  · simp only [e_for, x_Rng, x_cons, x_nil, var_s, var_0, b_some, pr2]
    exact e1
  · simp
  · simp only [e_forV, x_Rng, x_cons, x_nil, x_B, view, List.map_cons, List.map_nil, v_own, v_dat, v_no, v_dct, var_s, var_0, b_some, ps, p_lenL, List.length_map, sl, pr]
    exact e2
  · simp
  · simp only [e_for, x_Rng, x_cons, x_nil, var_s, var_0, b_some, pr2]
    exact e3
  · have ps2 : pSort [.list (ops.map encSO)] = some (.list ((ops.mergeSort (W.dataLe false encSO)).map encSO)) := psort_list encSO ops (sok_so _)
    simp only [x_B, x_cons, x_nil, x_lc, x_SeqI, view, List.map_cons, List.map_nil, v_own, v_dat, v_dct, v_no, var_s, var_0, b_some, asSeq_l]
    rw [comp1 Op.enc (fun _ => true) encSO]
    · rw [filter_tt]
      simp only [m_some, b_some, ps2, asSeq_l]
      rw [compD_map encSO (fun _ => true) Op.enc]
      · rw [filter_tt]; rfl
      · intro x hx
        exact ⟨[(17, .int x.s), (16, x.enc)], rfl, by rfl, rfl, fun _ => by simp⟩
    · rfl
    · intro x hx
      refine ⟨rfl, fun _ => ?_⟩
      simp [encSO]
theorem law_story_ok (ns : List Int) (k most : Int) (hk : 0 ≤ k) (h0 : 0 ≤ most) (h6 : most ≤ 6) : ∃ l : List Op, storyOk l = true ∧ (l.length : Int) ≤ most ∧ m__law_story [encS ns, .int k, .int most] = some (encO l) := by
  obtain ⟨l, h1, _, h2, h3⟩ := law_story_ok2 ns k most hk h0 h6
  exact ⟨l, h1, h2, h3⟩
end CS
/-! M9: preceding pairs; may_follow; explains_story. -/
namespace CS
open PySem
def opAt (l : List Op) (i : Nat) : Op := l.getD i ⟨false, 0, 0, 0⟩
theorem opAt_get {l : List Op} {i : Nat} (h : i < l.length) : l[i]? = some (opAt l i) := by
  unfold opAt; rw [List.getD_eq_getElem?_getD, List.getElem?_eq_getElem h]; rfl
theorem ix_op {l : List Op} {i : Nat} (h : i < l.length) : pIx (encO l) (.int ((i : Nat) : Int)) = some (opAt l i).enc :=
  ix_nthT _ _ _ (by omega) (by rw [Int.toNat_natCast, List.getElem?_map, opAt_get h]; rfl)
theorem ix_opI {l : List Op} {i : Int} (h0 : 0 ≤ i) (h : i < l.length) : pIx (encO l) (.int i) = some (opAt l i.toNat).enc := by
  have e : i = ((i.toNat : Nat) : Int) := by omega
  rw [e, ix_op (by omega)]
  rfl
theorem map_opAt (l : List Op) : (List.range l.length).map (opAt l) = l := by
  apply List.ext_getElem?
  intro i
  rw [List.getElem?_map]
  by_cases h : i < l.length
  · rw [List.getElem?_range h, opAt_get h]; rfl
  · rw [List.getElem?_eq_none (by simpa using h), List.getElem?_eq_none (by omega)]; rfl
theorem enum_rng (l : List Op) : enumD (l.map Op.enc) = (List.range l.length).map fun i => .tuple [.int ((i : Nat) : Int), (opAt l i).enc] := by
  unfold enumD
  apply List.ext_getElem?
  intro i
  simp only [List.length_map, List.getElem?_zipWith, List.getElem?_map]
  by_cases h : i < l.length
  · have e := opAt_get h
    rw [List.getElem?_eq_getElem h] at e
    have e := Option.some.inj e
    simp [h, e]
  · simp [h]
@[simp] theorem seq_encO (l : List Op) : asSeq (encO l) = some (l.map Op.enc) := rfl
@[simp] theorem len_encO (l : List Op) : pLen [encO l] = some (.int l.length) := by show some (PyData.int (l.map Op.enc).length) = _; rw [List.length_map]
/-- a for over what any numbers stand for -/
theorem for_rngG {a : PyData → Option (List (Nat × PyData))} {F : Ev → Option Out} (enc : Nat → PyData) (n : Nat) (I : Nat → Ev → Prop) (ρ : Ev) (h : I 0 ρ)
    (st : ∀ i ρ, i < n → I i ρ → ∃ as ρ', a (enc i) = some as ∧ F (setD ρ as) = some (.nx ρ') ∧ I (i + 1) ρ') : ∃ ρ', forD a F ((List.range n).map enc) ρ = some (.nx ρ') ∧ I n ρ' := by
  have key : ∀ (k i : Nat) (ρ : Ev), i + k = n → I i ρ → ∃ ρ', forD a F ((List.range' i k).map enc) ρ = some (.nx ρ') ∧ I n ρ' := by
    intro k
    induction k with
    | zero => intro i ρ e h; exact ⟨ρ, rfl, by simpa [← e] using h⟩
    | succ k ih =>
      intro i ρ e h
      obtain ⟨as, ρ1, e1, e2, h1⟩ := st i ρ (by omega) h
      obtain ⟨ρ', e3, h3⟩ := ih (i + 1) ρ1 (by omega) h1
      refine ⟨ρ', ?_, h3⟩
      rw [List.range'_succ, List.map_cons, forD, e1, b_some, e2, b_some]
      exact e3
  have := key n 0 ρ (by omega) h
  rwa [← List.range_eq_range'] at this
def row (l : List Op) (i : Nat) : List (Int × Int) := ((List.range l.length).filter fun j => (opAt l i).before (opAt l j)).map fun j => (((i : Nat) : Int), ((j : Nat) : Int))
def due (l : List Op) (n : Nat) : List (Int × Int) := (List.range n).flatMap (row l)
theorem due_succ (l : List Op) (n : Nat) : due l (n + 1) = due l n ++ row l n := by
  unfold due; rw [List.range_succ, List.flatMap_append]; simp
theorem row_len (l : List Op) (i : Nat) : (row l i).length ≤ l.length := by
  unfold row; rw [List.length_map]; exact Nat.le_trans (List.length_filter_le _ _) (by simp)
theorem due_len (l : List Op) (n : Nat) : (due l n).length ≤ n * l.length := by
  induction n with
  | zero => simp [due]
  | succ n ih => rw [due_succ, List.length_append, Nat.succ_mul]; have := row_len l n; omega
theorem due_sorted (l : List Op) (n : Nat) : (due l n).Pairwise fun p q => p.1 < q.1 ∨ (p.1 = q.1 ∧ p.2 ≤ q.2) := by
  unfold due
  rw [List.pairwise_flatMap]
  refine ⟨fun i hi => ?_, List.pairwise_lt_range.imp fun {a b} h x hx y hy => ?_⟩
  · unfold row
    rw [List.pairwise_map]
    exact ((List.pairwise_lt_range (n := l.length)).filter _).imp fun {a b} h => .inr ⟨rfl, by omega⟩
  · unfold row at hx hy
    obtain ⟨j, _, rfl⟩ := List.mem_map.mp hx
    obtain ⟨k, _, rfl⟩ := List.mem_map.mp hy
    left
    show ((a : Nat) : Int) < ((b : Nat) : Int)
    omega
theorem before_pairs_ok (l : List Op) (hl : l.length ≤ 6) : m_before_pairs [encO l] = some (.list ((due l l.length).map enc2)) := by
  obtain ⟨ρ', e, c2, c3, c4, c5, rfl⟩ := for_rngG (a := aTup [2, 3]) (F := (sExt 1 (dLc [4, 5] (dEnum (dVar 0)) (aTup [4, 5]) (dTru (dB m_precedes (dCons (dVar 3) (dCons (dVar 5) dNil)))) (dTup (dCons (dVar 2) (dCons (dVar 4) dNil)))))) (fun i => .tuple [.int ((i : Nat) : Int), (opAt l i).enc]) l.length
    (fun i ρ => ∃ c2 c3 c4 c5, ρ = [.dat (encO l), .own ((due l i).map enc2), c2, c3, c4, c5]) [.dat (encO l), .own [], .no, .no, .no, .no] ⟨_, _, _, _, rfl⟩ (by
      rintro i ρ hi ⟨c2, c3, c4, c5, rfl⟩
      refine ⟨[(2, .int ((i : Nat) : Int)), (3, (opAt l i).enc)], [.dat (encO l), .own ((due l (i + 1)).map enc2), .dat (.int i), .dat (opAt l i).enc, c4, c5], a_tup2 _ _ _ _, ?_, _, _, _, _, rfl⟩
      simp only [sD_cons, sD_nil, List.set_cons_succ, List.set_cons_zero, e_ext, own_s, own_0, b_some, x_lc, x_Enum, var_0, seq_encO, m_some, enum_rng]
      rw [comp2 (fun j : Nat => .tuple [.int ((j : Nat) : Int), (opAt l j).enc]) (fun j => .int ((j : Nat) : Int)) (fun j => (opAt l j).enc) (fun _ => rfl) (fun j => (opAt l i).before (opAt l j)) (fun j => enc2 (((i : Nat) : Int), ((j : Nat) : Int)))]
      · have h1 := due_len l i
        have h2 := row_len l i
        have h3 : i * l.length ≤ 6 * 6 := Nat.mul_le_mul (by omega) hl
        rw [m_some, b_some, asL_l, b_some]
        have er : ((List.range l.length).filter fun j => (opAt l i).before (opAt l j)).map (fun j => enc2 (((i : Nat) : Int), ((j : Nat) : Int))) = (row l i).map enc2 := by
          unfold row; rw [List.map_map]; rfl
        rw [er, if_pos (by rw [List.length_map, List.length_map]; omega), due_succ, List.map_append]
      · rfl
      · rfl
      · intro j hj
        simp [enc2])
  simp only [m_before_pairs, e_fn, b_before_pairs]
  refine seq_nx (ρ' := [.dat (encO l), .own [], .no, .no, .no, .no]) ?_ (seq_nx (ρ' := [.dat (encO l), .own ((due l l.length).map enc2), c2, c3, c4, c5]) ?_ (ret_end ?_))
  · simp
  · simp only [e_for, x_Enum, var_0, b_some, seq_encO, m_some, enum_rng]
    exact e
  · have ps := psort_list enc2 (due l l.length) (sok_2 _)
    rw [sort_id_2 _ (due_sorted l _)] at ps
    simp [ps]
theorem storyOk_len {l : List Op} (h : storyOk l = true) : l.length ≤ 6 := by
  unfold storyOk at h
  simp only [Bool.and_eq_true, decide_eq_true_eq] at h
  exact h.1.1.1
theorem storyOk_ok {l : List Op} (h : storyOk l = true) : ∀ o ∈ l, o.ok = true := by
  unfold storyOk at h
  simp only [Bool.and_eq_true, decide_eq_true_eq] at h
  exact List.all_eq_true.mp h.1.1.2
theorem storyOk_irr {l : List Op} (h : storyOk l = true) {i : Nat} (hi : i < l.length) : (opAt l i).before (opAt l i) = false := by
  have := storyOk_ok h (opAt l i) (List.mem_of_getElem? (opAt_get hi))
  unfold Op.ok at this
  simp only [Bool.and_eq_true, decide_eq_true_eq] at this
  unfold Op.before
  simp; omega
theorem check_ok {l : List Op} (h : storyOk l = true) : m_check_story [encO l] = some (.ok .none) := by
  have hs := is_story_ok l (by have := storyOk_len h; omega)
  rw [h] at hs
  simp [m_check_story, e_fnX, b_check_story, hs]
theorem preceding_ok {l : List Op} (h : storyOk l = true) : m_preceding [encO l] = some (.ok (.list ((due l l.length).map enc2))) := by
  simp [m_preceding, b_preceding, check_ok h, before_pairs_ok l (storyOk_len h)]
end CS
/-! M10: may_follow, explains_story and its law. -/
namespace CS
open PySem
/-- the values written by those of an order -/
def wOf (l : List Op) (o : List Int) : List Int := (o.filter fun i => (opAt l i.toNat).w).map fun i => (opAt l i.toNat).v
def lastW (l : List Op) (o : List Int) : Int := ((wOf l o).getLast?).getD 0
def InR (l : List Op) (o : List Int) : Prop := ∀ i ∈ o, 0 ≤ i ∧ i < l.length
/-- what may come behind an order -/
def mayF (l : List Op) (o : List Int) (k : Int) : Bool := (!(List.range l.length).any fun j => !decide (((j : Nat) : Int) ∈ o) && (opAt l j).before (opAt l k.toNat)) && ((opAt l k.toNat).w || (opAt l k.toNat).v == lastW l o)
theorem ix_last (w : List Int) (h : w ≠ []) : pIx (.list (w.map .int)) (.int (-1)) = some (.int (w.getLast?.getD 0)) := by
  have hl : 0 < w.length := List.length_pos_iff.mpr h
  show L2.atI (w.map PyData.int) (-1) = _
  unfold L2.atI L2.ixN
  rw [if_neg (by decide), if_pos (by rw [List.length_map]; omega), b_some]
  have e : ((-1 : Int) + ((w.map PyData.int).length : Nat)).toNat = w.length - 1 := by rw [List.length_map]; omega
  rw [e, List.getElem?_map, List.getLast?_eq_getElem?]
  rw [List.getElem?_eq_getElem (by omega)]
  rfl
theorem may_follow_ok (l : List Op) (o : List Int) (k : Int) (hl : l.length ≤ 1000) (ho : InR l o) (hk : 0 ≤ k ∧ k < l.length) : m_may_follow [encO l, encI o, .int k] = some (.bool (mayF l o k)) := by
  have hkk := ix_opI hk.1 hk.2
  have s0 : asSeq (encI o) = some (o.map .int) := rfl
  simp only [m_may_follow, e_fn, b_may_follow]
  refine seq_nx (set_of (d := .list ((((List.range l.length).filter fun j => !decide (((j : Nat) : Int) ∈ o)).map (opAt l)).map Op.enc)) ?_) ?_
  · simp only [e_start3, x_lc, x_Enum, var_0, b_some, seq_encO, m_some, enum_rng, rep_s, rep_0]
    rw [comp2 (fun j : Nat => .tuple [.int ((j : Nat) : Int), (opAt l j).enc]) (fun j => .int ((j : Nat) : Int)) (fun j => (opAt l j).enc) (fun _ => rfl) (fun j => !decide (((j : Nat) : Int) ∈ o)) (fun j => (opAt l j).enc)]
    · rw [m_some, List.map_map]; rfl
    · rfl
    · rfl
    · intro j hj
      simp [encI]
  have hc : (dLc [6] (dSeqI (dVar 3)) (aName 6) (dTru (dB m_precedes (dCons (dVar 6) (dCons (d2 pIx (dVar 0) (dVar 2)) dNil)))) (dVar 6)) [.dat (encO l), .dat (encI o), .dat (.int k), .dat (.list ((((List.range l.length).filter fun j => !decide (((j : Nat) : Int) ∈ o)).map (opAt l)).map Op.enc)), .no, .no, .no] = some (.list (((((List.range l.length).filter fun j => !decide (((j : Nat) : Int) ∈ o)).map (opAt l)).filter fun x => x.before (opAt l k.toNat)).map Op.enc)) := by
    simp only [x_lc, x_SeqI, var_s, var_0, b_some, asSeq_l]
    rw [comp1 Op.enc (fun x => x.before (opAt l k.toNat)) Op.enc]
    · rfl
    · rfl
    · intro x hx
      simp [hkk]
  have he : (((((List.range l.length).filter fun j => !decide (((j : Nat) : Int) ∈ o)).map (opAt l)).filter fun x => x.before (opAt l k.toNat)).map Op.enc).isEmpty = !(List.range l.length).any fun j => !decide (((j : Nat) : Int) ∈ o) && (opAt l j).before (opAt l k.toNat) := by
    rw [map_empty, filter_empty, List.any_map, List.any_filter]
    rfl
  by_cases c : ((List.range l.length).any fun j => !decide (((j : Nat) : Int) ∈ o) && (opAt l j).before (opAt l k.toNat)) = true
  · refine seq_rt (if_yes ?_ (ret_of (d := .bool false) rfl)) ?_
    · have hc' := hc
      rw [x_Tru]
      refine (congrArg (fun z => Option.bind z pTru) hc).trans ?_
      rw [b_some, t_list, he, c]; rfl
    · rw [o_rt, mayF, c]; rfl
  have c := eq_false_of_ne_true c
  refine seq_nx (if_no ?_) ?_
  · rw [x_Tru]
    refine (congrArg (fun z => Option.bind z pTru) hc).trans ?_
    rw [b_some, t_list, he, c]; rfl
  refine seq_nx (set_of (d := .list ((wOf l o).map .int)) ?_) (ret_end ?_)
  · simp only [e_start3, x_lc, x_SeqI, rep_s, rep_0, List.set_cons_succ, List.set_cons_zero, var_s, var_0, b_some, s0]
    rw [comp1 PyData.int (fun i => (opAt l i.toNat).w) (fun i => .int (opAt l i.toNat).v)]
    · rw [m_some, wOf, List.map_map]; rfl
    · rfl
    · intro i hi
      have h := ho i hi
      have hx := ix_opI h.1 h.2
      simp [hx]
  · rw [mayF, c]
    by_cases w : (opAt l k.toNat).w = true
    · simp [hkk, w]
    · have w := eq_false_of_ne_true w
      by_cases e : wOf l o = []
      · simp [hkk, w, e, lastW]
      · have hx := ix_last (wOf l o) e
        have he2 : ((wOf l o).map PyData.int).isEmpty = false := by rw [map_empty]; simpa using e
        have pn : pNeg (.int 1) = some (.int (-1)) := rfl
        simp [hkk, w, he2, hx, pn, lastW, e]
end CS
/-! M11: explains_story and its law, upon tuples of ints and None. -/
namespace CS
open PySem
def encOI : Option Int → PyData
  | none => .none
  | some i => .int i
def inR (a b : Int) : Option Int → Bool
  | none => false
  | some i => decide (a ≤ i) && decide (i ≤ b)
@[simp] theorem in_range_o (x : Option Int) (a b : Int) : m_in_range [encOI x, .int a, .int b] = some (.bool (inR a b x)) := by
  cases x with
  | none => simp [m_in_range, b_in_range, encOI, noDict, isD, inR]
  | some i => simp [encOI, inR]
@[simp] theorem law_in_o (x : Option Int) (a b : Int) : m__law_in [encOI x, .int a, .int b] = some (.bool (inR a b x)) := by
  cases x with
  | none => simp [m__law_in, b__law_in, m__law_whole, b__law_whole, encOI, noDict, isD, inR]
  | some i => simp [m__law_in, b__law_in, m__law_whole, b__law_whole, encOI, noDict, isD, inR]
theorem eqv_ints : ∀ a b : List Int, PyData.eqvAll (a.map .int) (b.map .int) = decide (a = b)
  | [], [] => rfl
  | [], _ :: _ => rfl
  | _ :: _, [] => rfl
  | x :: a, y :: b => by
    rw [List.map_cons, List.map_cons, PyData.eqvAll, eqv_ints a b, eqv_int]
    by_cases h1 : x = y <;> by_cases h2 : a = b <;> simp [h1, h2]
theorem ne_ints (a b : List Int) : pNe (.list (a.map .int)) (.list (b.map .int)) = some (.bool (!decide (a = b))) :=
  p_ned (by rw [shaped_ints, shaped_ints]; rfl) (by unfold PyData.eqv; exact eqv_ints a b)
theorem canLay_ois : ∀ l : List (Option Int), PyData.canLayAll0 (l.map encOI) = true
  | [] => rfl
  | x :: l => by rw [List.map_cons, PyData.canLayAll0, canLay_ois l]; cases x <;> simp [encOI, PyData.canLay0]
theorem depth_ois : ∀ l : List (Option Int), PyData.depthAll (l.map encOI) = 0
  | [] => rfl
  | x :: l => by rw [List.map_cons, PyData.depthAll, depth_ois l]; cases x <;> simp [encOI, PyData.depth]
theorem shaped_ois (l : List (Option Int)) : SeqAt.shaped (.list (l.map encOI)) = true := by
  unfold SeqAt.shaped
  rw [PyData.canLay0, canLay_ois, PyData.depth, depth_ois]
  rfl
theorem ne_nil_o (l : List (Option Int)) : pNe (.list (l.map encOI)) (.list []) = some (.bool (!l.isEmpty)) := by
  refine p_ned (by rw [shaped_ois]; rfl) ?_
  unfold PyData.eqv
  cases l <;> rfl
/-- what is tried -/
inductive Cand : PyData → Prop
  | non : Cand .none
  | lst (l : List Int) : Cand (.list (l.map .int))
  | tup (l : List (Option Int)) (h : l.length ≤ 1000) : Cand (.tuple (l.map encOI))
theorem all_ints : ∀ {a b : Int} {l : List (Option Int)}, (l.any fun x => !inR a b x) = false → ∃ is : List Int, l = is.map some ∧ ∀ i ∈ is, a ≤ i ∧ i ≤ b
  | _, _, [], _ => ⟨[], rfl, by simp⟩
  | a, b, x :: l, h => by
    rw [List.any_cons, Bool.or_eq_false_iff] at h
    obtain ⟨is, e, hi⟩ := all_ints h.2
    cases x with
    | none => simp [inR] at h
    | some i =>
      refine ⟨i :: is, by rw [e]; rfl, fun j hj => ?_⟩
      rcases List.mem_cons.mp hj with z | z
      · have := h.1
        simp [inR] at this
        omega
      · exact hi j z
/-- sorted is 0 .. n - 1 -/
def isPerm (l : List Op) (is : List Int) : Bool := decide (is.mergeSort (W.dataLe false .int) = (List.range l.length).map fun i => ((i : Nat) : Int))
theorem isPerm_perm {l : List Op} {is : List Int} (h : isPerm l is = true) : is.Perm ((List.range l.length).map fun i => ((i : Nat) : Int)) := by
  have h := of_decide_eq_true h
  exact (List.mergeSort_perm is (W.dataLe false .int)).symm.trans (h ▸ List.Perm.refl _)
def explT (l : List Op) (is : List Int) : Bool := isPerm l is && (List.range is.length).all fun p => mayF l (is.take p) (is.getD p 0)
theorem enum_ints (is : List Int) : enumD (is.map .int) = (List.range is.length).map fun i => .tuple [.int ((i : Nat) : Int), .int (is.getD i 0)] := by
  unfold enumD
  apply List.ext_getElem?
  intro i
  simp only [List.length_map, List.getElem?_zipWith, List.getElem?_map]
  by_cases h : i < is.length
  · simp [h]
  · simp [h]
theorem encI_o (is : List Int) : PyData.tuple ((is.map some).map encOI) = encI is := by
  rw [List.map_map]; rfl
theorem explains_bad {l : List Op} {d : PyData} (hc : Cand d) (h : ∀ is : List Int, d = encI is → ¬ ∀ i ∈ is, 0 ≤ i ∧ i ≤ (l.length : Int) - 1) :
    m_explains_story [encO l, d] = some (.bool false) ∧ m__law_explains [encO l, d] = some (.bool false) := by
  cases hc with
  | non =>
    refine ⟨?_, ?_⟩
    · simp only [m_explains_story, e_fn, b_explains_story]
      exact seq_rt (if_yes (by simp [noDict, isD]) (ret_of (d := .bool false) rfl)) rfl
    · simp only [m__law_explains, e_fn, b__law_explains]
      exact seq_rt (if_yes (by simp [noDict, isD]) (ret_of (d := .bool false) rfl)) rfl
  | lst is =>
    refine ⟨?_, ?_⟩
    · simp only [m_explains_story, e_fn, b_explains_story]
      exact seq_rt (if_yes (by simp [noDict, isD]) (ret_of (d := .bool false) rfl)) rfl
    · simp only [m__law_explains, e_fn, b__law_explains]
      exact seq_rt (if_yes (by simp [noDict, isD]) (ret_of (d := .bool false) rfl)) rfl
  | tup vs hv =>
    have hany : (vs.any fun x => !inR 0 ((l.length : Int) - 1) x) = true := by
      cases e : (vs.any fun x => !inR 0 ((l.length : Int) - 1) x) with
      | true => rfl
      | false =>
        obtain ⟨is, e1, hi⟩ := all_ints e
        exact absurd hi (h is (by rw [e1, encI_o]))
    refine ⟨?_, ?_⟩
    · simp only [m_explains_story, e_fn, b_explains_story]
      refine seq_rt (if_yes ?_ (ret_of (d := .bool false) rfl)) rfl
      simp only [x_OrT, x_NotT, x_Tru, x_Isi, x_lc, x_SeqI, e_start2, rep_s, rep_0, view, List.map_cons, List.map_nil, v_dat, v_no, var_s, var_0, b_some, asSeq_t, noDict, isD, if_true, t_b]
      rw [comp1 encOI (fun x => !inR 0 ((l.length : Int) - 1) x) encOI]
      · rw [m_some, b_some, t_list, map_empty, filter_empty, hany]; rfl
      · rfl
      · intro x hx; simp
    · simp only [m__law_explains, e_fn, b__law_explains]
      refine seq_rt (if_yes ?_ (ret_of (d := .bool false) rfl)) rfl
      simp only [x_OrT, x_NotT, x_Tru, x_T, x_d2, x_lst, x_nil, x_Isi, x_lc, x_SeqI, e_start2, rep_s, rep_0, view, List.map_cons, List.map_nil, v_dat, v_no, var_s, var_0, b_some, asSeq_t, noDict, isD, if_true, t_b]
      rw [comp1 encOI (fun x => !inR 0 ((l.length : Int) - 1) x) encOI]
      · rw [m_some, b_some, if_pos (by decide), b_some, ne_nil_o, filter_empty, hany]; rfl
      · rfl
      · intro x hx; simp
theorem rngI (n : Nat) : rngD 0 n = ((List.range n).map fun i => ((i : Nat) : Int)).map .int := by
  rw [rng_int]; simp
theorem explains_story_ok {l : List Op} {is : List Int} (hl : l.length ≤ 6) (hi : InR l is) (hlen : is.length ≤ 1000) : m_explains_story [encO l, encI is] = some (.bool (explT l is)) := by
  have hin : ∀ i ∈ is, inR 0 ((l.length : Int) - 1) (some i) = true := fun i h => by
    have := hi i h
    simp [inR]; omega
  have ps : pSort [encI is] = some (.list ((is.mergeSort (W.dataLe false .int)).map .int)) := psort_tuple PyData.int is (sok_int _)
  have s0 : asSeq (encI is) = some (is.map .int) := rfl
  simp only [m_explains_story, e_fn, b_explains_story]
  refine seq_nx (if_no ?_) ?_
  · simp only [x_OrT, x_NotT, x_Tru, x_Isi, x_lc, x_SeqI, e_start2, rep_s, rep_0, view, List.map_cons, List.map_nil, v_dat, v_no, var_s, var_0, b_some, s0]
    rw [comp1 PyData.int (fun x => false) PyData.int]
    · simp [encI, noDict, isD]
    · rfl
    · intro x hx
      have := hin x hx
      have e : m_in_range [.int x, .int 0, .int ((l.length : Int) - 1)] = some (.bool (inR 0 ((l.length : Int) - 1) (some x))) := in_range_o (some x) _ _
      simp only [this] at e
      simp [e]
  have nn : (0 : Int) ≤ (l.length : Int) ∧ (l.length : Int) ≤ 65536 := by omega
  have hne : pNe (.list ((is.mergeSort (W.dataLe false .int)).map .int)) (.list (rngD 0 l.length)) = some (.bool (!isPerm l is)) := by rw [rngI]; exact ne_ints _ _
  by_cases hp : isPerm l is = true
  case neg =>
    have hp := eq_false_of_ne_true hp
    refine seq_rt (if_yes ?_ (ret_of (d := .bool false) rfl)) ?_
    · simp only [x_T, x_d2, x_B, x_cons, x_nil, x_lstRg, e_start2, rep_s, rep_0, view, List.map_cons, List.map_nil, v_dat, v_no, var_s, var_0, b_some, ps, len_encO, asI_i, if_pos nn, m_some, Int.toNat_natCast, hne, hp]
      rfl
    · rw [o_rt, explT, hp]; rfl
  refine seq_nx (if_no ?_) (ret_end ?_)
  · simp only [x_T, x_d2, x_B, x_cons, x_nil, x_lstRg, e_start2, rep_s, rep_0, view, List.map_cons, List.map_nil, v_dat, v_no, var_s, var_0, b_some, ps, len_encO, asI_i, if_pos nn, m_some, Int.toNat_natCast, hne, hp]
    rfl
  · simp only [x_Not, x_lc, x_Enum, e_start2, rep_s, rep_0, view, List.map_cons, List.map_nil, v_dat, v_no, var_s, var_0, b_some, s0, m_some, enum_ints]
    rw [comp2 (fun i : Nat => .tuple [.int ((i : Nat) : Int), .int (is.getD i 0)]) (fun i => .int ((i : Nat) : Int)) (fun i => .int (is.getD i 0)) (fun _ => rfl) (fun p => !mayF l (is.take p) (is.getD p 0)) (fun _ => .int 1)]
    · rw [m_some, b_some, t_list, map_empty, filter_empty, b_some, explT, hp]
      simp [List.all_eq_not_any_not]
    · rfl
    · rfl
    · intro p hpp
      have hlt := List.mem_range.mp hpp
      have hmem : is.getD p 0 ∈ is := by rw [List.getD_eq_getElem?_getD, List.getElem?_eq_getElem hlt]; exact List.getElem_mem hlt
      have hs : pSl (encI is) none (some ((p : Nat) : Int)) = some (encI (is.take p)) := by
        show some (PyData.tuple (cutD (is.map .int) none (some ((p : Nat) : Int)))) = _
        rw [cut_to, ← List.map_take]; rfl
      have hm := may_follow_ok l (is.take p) (is.getD p 0) (by omega) (fun i h => hi i (List.mem_of_mem_take h)) (hi _ hmem)
      simp only [x_NotT, x_Tru, x_B, x_cons, x_nil, x_Sl, x_noPart, x_Part, wD_cons, wD_nil, List.set_cons_succ, List.set_cons_zero, var_s, var_0, b_some, asI_i, m_some, hs, hm, t_b]
      simp
end CS
/-! M12: the law's explains; both agree. -/
namespace CS
open PySem
/-- step by step, with the last written value -/
def goL (l : List Op) : List Int → Int → Bool
  | [], _ => true
  | x :: rest, last => if (rest.any fun y => (opAt l y.toNat).before (opAt l x.toNat)) = true then false
      else if (opAt l x.toNat).w = true then goL l rest (opAt l x.toNat).v else if (opAt l x.toNat).v = last then goL l rest last else false
abbrev FE : Ev → Option Out := (sSeq (sSet 4 (d2 pIx (dVar 0) (d2 pIx (dVar 1) (dVar 3))))
    (sSeq (sIf (dT (d2 pNe (dLc [5] (dSeqI (dSl (dVar 1) (dPart (d2 pAdd (dVar 3) (dC (.int 1)))) dNoPart)) (aName 5) (dT (d2 pLt (d2 pIx (d2 pIx (dVar 0) (dVar 5)) (dC (.int 3))) (d2 pIx (dVar 4) (dC (.int 2))))) (dVar 5)) (dLst dNil))) (sRet (dC (.bool false))) sNext)
    (sIf (dT (d2 pEq (d2 pIx (dVar 4) (dC (.int 0))) (dC (.str "write")))) (sSet 2 (d2 pIx (dVar 4) (dC (.int 1)))) (sIf (dT (d2 pNe (d2 pIx (dVar 4) (dC (.int 1))) (dVar 2))) (sRet (dC (.bool false))) sNext))))
theorem ne_nil_i (l : List Int) : pNe (.list (l.map .int)) (.list []) = some (.bool (!l.isEmpty)) := by
  have := ne_ints l []
  rw [List.map_nil] at this
  rw [this]
  cases l <;> rfl
theorem go_loop {l : List Op} {is : List Int} (hi : InR l is) : ∀ (k i : Nat) (last : Int) (c3 c4 c5 : Cell), i + k = is.length →
    (∃ last' c3' c4' c5', goL l (is.drop i) last = true ∧ forD (aName 3) FE ((List.range' i k).map fun j => .int ((j : Nat) : Int)) [.dat (encO l), .dat (encI is), .dat (.int last), c3, c4, c5] = some (.nx [.dat (encO l), .dat (encI is), .dat (.int last'), c3', c4', c5'])) ∨
    (goL l (is.drop i) last = false ∧ forD (aName 3) FE ((List.range' i k).map fun j => .int ((j : Nat) : Int)) [.dat (encO l), .dat (encI is), .dat (.int last), c3, c4, c5] = some (.rt (.bool false)))
  | 0, i, last, c3, c4, c5, e => .inl ⟨last, c3, c4, c5, by rw [List.drop_of_length_le (by omega)]; rfl, rfl⟩
  | k + 1, i, last, c3, c4, c5, e => by
    have hlt : i < is.length := by omega
    have hx := hi _ (List.getElem_mem hlt)
    have hd : is.drop i = is[i] :: is.drop (i + 1) := List.drop_eq_getElem_cons hlt
    generalize is[i] = x at hx hd
    have hix : pIx (encI is) (.int ((i : Nat) : Int)) = some (.int x) := ix_nthT _ _ _ (by omega) (by
      rw [Int.toNat_natCast, List.getElem?_map]
      have : is[i]? = some x := by
        have := congrArg (fun z => z[0]?) hd
        simpa using this
      rw [this]; rfl)
    have hox := ix_opI hx.1 hx.2
    have hs : pSl (encI is) (some (((i : Nat) : Int) + 1)) none = some (encI (is.drop (i + 1))) := by
      show some (PyData.tuple (cutD (is.map .int) (some (((i + 1 : Nat) : Int))) none)) = _
      rw [cut_from, ← List.map_drop]; rfl
    have s1 : asSeq (encI (is.drop (i + 1))) = some ((is.drop (i + 1)).map .int) := rfl
    have hcond : (dT (d2 pNe (dLc [5] (dSeqI (dSl (dVar 1) (dPart (d2 pAdd (dVar 3) (dC (.int 1)))) dNoPart)) (aName 5) (dT (d2 pLt (d2 pIx (d2 pIx (dVar 0) (dVar 5)) (dC (.int 3))) (d2 pIx (dVar 4) (dC (.int 2))))) (dVar 5)) (dLst dNil))) [.dat (encO l), .dat (encI is), .dat (.int last), .dat (.int i), .dat (opAt l x.toNat).enc, vw c5] = some ((is.drop (i + 1)).any fun y => (opAt l y.toNat).before (opAt l x.toNat)) := by
      simp only [x_T, x_d2, x_lc, x_SeqI, x_Sl, x_Part, x_noPart, x_C, x_lst, x_nil, var_s, var_0, b_some, p_add, asI_i, m_some, hs, s1]
      rw [comp1 PyData.int (fun y => (opAt l y.toNat).before (opAt l x.toNat)) PyData.int]
      · rw [m_some, b_some, if_pos (by decide), b_some, ne_nil_i, filter_empty, Bool.not_not, b_some]; rfl
      · rfl
      · intro y hy
        have h := hi y (List.mem_of_mem_drop hy)
        have hoy := ix_opI h.1 h.2
        simp [hoy, Op.before]
    rw [List.range'_succ, List.map_cons, forD, a_name, b_some, hd]
    simp only [sD_cons, sD_nil, List.set_cons_succ, List.set_cons_zero]
    have first : sSet 4 (d2 pIx (dVar 0) (d2 pIx (dVar 1) (dVar 3))) [.dat (encO l), .dat (encI is), .dat (.int last), .dat (.int i), c4, c5] = some (.nx [.dat (encO l), .dat (encI is), .dat (.int last), .dat (.int i), .dat (opAt l x.toNat).enc, c5]) := by
      simp [hix, hox]
    by_cases c : ((is.drop (i + 1)).any fun y => (opAt l y.toNat).before (opAt l x.toNat)) = true
    · right
      refine ⟨by rw [goL, if_pos c], ?_⟩
      have : FE [.dat (encO l), .dat (encI is), .dat (.int last), .dat (.int i), c4, c5] = some (.rt (.bool false)) :=
        seq_nxs first (seq_rts (if_yes (by simp only [view, List.map_cons, List.map_nil, v_dat]; rw [hcond, c]) (ret_of (d := .bool false) rfl)))
      rw [this]; rfl
    · have cf := eq_false_of_ne_true c
      have second : ∀ G, (sSeq (sIf (dT (d2 pNe (dLc [5] (dSeqI (dSl (dVar 1) (dPart (d2 pAdd (dVar 3) (dC (.int 1)))) dNoPart)) (aName 5) (dT (d2 pLt (d2 pIx (d2 pIx (dVar 0) (dVar 5)) (dC (.int 3))) (d2 pIx (dVar 4) (dC (.int 2))))) (dVar 5)) (dLst dNil))) (sRet (dC (.bool false))) sNext) G) [.dat (encO l), .dat (encI is), .dat (.int last), .dat (.int i), .dat (opAt l x.toNat).enc, c5] = G [.dat (encO l), .dat (encI is), .dat (.int last), .dat (.int i), .dat (opAt l x.toNat).enc, c5] := fun G =>
        seq_nxs (if_no (by simp only [view, List.map_cons, List.map_nil, v_dat]; rw [hcond, cf])) rfl
      by_cases w : (opAt l x.toNat).w = true
      · have ih := go_loop hi k (i + 1) (opAt l x.toNat).v (.dat (.int i)) (.dat (opAt l x.toNat).enc) c5 (by omega)
        have : FE [.dat (encO l), .dat (encI is), .dat (.int last), .dat (.int i), c4, c5] = some (.nx [.dat (encO l), .dat (encI is), .dat (.int (opAt l x.toNat).v), .dat (.int i), .dat (opAt l x.toNat).enc, c5]) :=
          seq_nxs first ((second _).trans (if_yes (by simp [w]) (by simp)))
        rw [this, b_some, goL, if_neg c, if_pos w]
        exact ih
      · have wf := eq_false_of_ne_true w
        by_cases v : (opAt l x.toNat).v = last
        · have ih := go_loop hi k (i + 1) last (.dat (.int i)) (.dat (opAt l x.toNat).enc) c5 (by omega)
          have : FE [.dat (encO l), .dat (encI is), .dat (.int last), .dat (.int i), c4, c5] = some (.nx [.dat (encO l), .dat (encI is), .dat (.int last), .dat (.int i), .dat (opAt l x.toNat).enc, c5]) :=
            seq_nxs first ((second _).trans (if_els (by simp [wf]) (if_no (by simp [v]))))
          rw [this, b_some, goL, if_neg c, if_neg w, if_pos v]
          exact ih
        · right
          refine ⟨by rw [goL, if_neg c, if_neg w, if_neg v], ?_⟩
          have : FE [.dat (encO l), .dat (encI is), .dat (.int last), .dat (.int i), c4, c5] = some (.rt (.bool false)) :=
            seq_nxs first ((second _).trans (if_els (by simp [wf]) (if_yes (by simp [v]) (ret_of (d := .bool false) rfl))))
          rw [this]; rfl
theorem law_explains_ok {l : List Op} {is : List Int} (hl : l.length ≤ 6) (hi : InR l is) (hlen : is.length ≤ 1000) : m__law_explains [encO l, encI is] = some (.bool (isPerm l is && goL l is 0)) := by
  have hin : ∀ i ∈ is, inR 0 ((l.length : Int) - 1) (some i) = true := fun i h => by
    have := hi i h
    simp [inR]; omega
  have ps : pSort [encI is] = some (.list ((is.mergeSort (W.dataLe false .int)).map .int)) := psort_tuple PyData.int is (sok_int _)
  have s0 : asSeq (encI is) = some (is.map .int) := rfl
  have l0 : pLen [encI is] = some (.int ((is.length : Nat) : Int)) := by show some (PyData.int (is.map PyData.int).length) = _; rw [List.length_map]
  simp only [m__law_explains, e_fn, b__law_explains]
  refine seq_nx (if_no ?_) ?_
  · simp only [x_OrT, x_NotT, x_Tru, x_T, x_d2, x_lst, x_nil, x_Isi, x_lc, x_SeqI, e_start2, rep_s, rep_0, view, List.map_cons, List.map_nil, v_dat, v_no, var_s, var_0, b_some, s0]
    rw [comp1 PyData.int (fun x => false) PyData.int]
    · have e := ne_nil_i (is.filter fun _ => false)
      rw [filter_empty] at e
      simp [encI, noDict, isD, e]
    · rfl
    · intro x hx
      have := hin x hx
      have e : m__law_in [.int x, .int 0, .int ((l.length : Int) - 1)] = some (.bool (inR 0 ((l.length : Int) - 1) (some x))) := law_in_o (some x) _ _
      simp only [this] at e
      simp [e]
  have nn : (0 : Int) ≤ (l.length : Int) ∧ (l.length : Int) ≤ 65536 := by omega
  have hne : pNe (.list ((is.mergeSort (W.dataLe false .int)).map .int)) (.list (rngD 0 l.length)) = some (.bool (!isPerm l is)) := by rw [rngI]; exact ne_ints _ _
  by_cases hp : isPerm l is = true
  case neg =>
    have hp := eq_false_of_ne_true hp
    refine seq_rt (if_yes ?_ (ret_of (d := .bool false) rfl)) ?_
    · simp only [x_T, x_d2, x_B, x_cons, x_nil, x_lstRg, e_start2, rep_s, rep_0, view, List.map_cons, List.map_nil, v_dat, v_no, var_s, var_0, b_some, ps, len_encO, asI_i, if_pos nn, m_some, Int.toNat_natCast, hne, hp]
      rfl
    · rw [o_rt, hp]; rfl
  refine seq_nx (if_no ?_) (seq_nx (set_of (d := .int 0) rfl) ?_)
  · simp only [x_T, x_d2, x_B, x_cons, x_nil, x_lstRg, e_start2, rep_s, rep_0, view, List.map_cons, List.map_nil, v_dat, v_no, var_s, var_0, b_some, ps, len_encO, asI_i, if_pos nn, m_some, Int.toNat_natCast, hne, hp]
    rfl
  have pr : pRng [.int ((is.length : Nat) : Int)] = some (rngD 0 is.length) := pRng1 _ (by omega)
  have hf : ∀ r, forD (aName 3) FE ((List.range' 0 is.length).map fun j => .int ((j : Nat) : Int)) [.dat (encO l), .dat (encI is), .dat (.int 0), .no, .no, .no] = r → sFor (dRng (dCons (dB pLen (dCons (dVar 1) dNil)) dNil)) (aName 3) FE (List.set (start0 6 [encO l, encI is]) 2 (.dat (.int 0))) = r := by
    intro r h
    simp only [e_for, x_Rng, x_cons, x_B, x_nil, e_start2, rep_s, rep_0, List.set_cons_succ, List.set_cons_zero, var_s, var_0, b_some, l0, pr, rng_map]
    rw [List.range_eq_range']
    exact h
  rcases go_loop hi is.length 0 0 .no .no .no (by omega) with ⟨last', c3', c4', c5', g, e⟩ | ⟨g, e⟩
  · rw [List.drop_zero] at g
    refine seq_nx (hf _ e) (ret_end ?_)
    rw [hp, g]; rfl
  · rw [List.drop_zero] at g
    refine seq_rt (hf _ e) ?_
    rw [o_rt, hp, g]; rfl
/-! both agree -/
theorem lastW_app (l : List Op) (o : List Int) (x : Int) : lastW l (o ++ [x]) = if (opAt l x.toNat).w = true then (opAt l x.toNat).v else lastW l o := by
  unfold lastW wOf
  rw [List.filter_append, List.map_append]
  by_cases w : (opAt l x.toNat).w = true
  · simp [w]
  · simp [w]
theorem agree {l : List Op} (hs : storyOk l = true) {is : List Int} (hp : is.Perm ((List.range l.length).map fun i => ((i : Nat) : Int))) : ∀ (rest done : List Int), done ++ rest = is →
    goL l rest (lastW l done) = (List.range' done.length rest.length).all fun p => mayF l (is.take p) (is.getD p 0)
  | [], done, e => by simp [goL]
  | x :: rest, done, e => by
    have ih := agree hs hp rest (done ++ [x]) (by rw [← e]; simp)
    have nd : is.Nodup := hp.nodup_iff.mpr (nodup_map_on List.nodup_range fun i _ j _ h => by omega)
    have hx : x ∈ is := by rw [← e]; simp
    have hxr : 0 ≤ x ∧ x < l.length := by
      have := hp.mem_iff.mp hx
      obtain ⟨i, hi, rfl⟩ := List.mem_map.mp this
      have := List.mem_range.mp hi
      omega
    have et : is.take done.length = done := by rw [← e]; simp
    have ed : is.getD done.length 0 = x := by rw [← e]; simp
    rw [List.length_cons, List.range'_succ, List.all_cons, et, ed]
    have hany : ((List.range l.length).any fun j => !decide (((j : Nat) : Int) ∈ done) && (opAt l j).before (opAt l x.toNat)) = rest.any fun y => (opAt l y.toNat).before (opAt l x.toNat) := by
      rw [Bool.eq_iff_iff, List.any_eq_true, List.any_eq_true]
      constructor
      · rintro ⟨j, hj, h⟩
        rw [Bool.and_eq_true] at h
        obtain ⟨h1, h2⟩ := h
        have hm : ((j : Nat) : Int) ∈ is := hp.mem_iff.mpr (List.mem_map.mpr ⟨j, hj, rfl⟩)
        rw [← e] at hm
        rcases List.mem_append.mp hm with z | z
        · simp [z] at h1
        · rcases List.mem_cons.mp z with z | z
          · have hj' : x.toNat = j := by omega
            rw [hj'] at h2
            rw [storyOk_irr hs (List.mem_range.mp hj)] at h2
            cases h2
          · exact ⟨_, z, by rw [Int.toNat_natCast]; exact h2⟩
      · rintro ⟨y, hy, h⟩
        have hm : y ∈ is := by rw [← e]; simp [hy]
        obtain ⟨j, hj, rfl⟩ := List.mem_map.mp (hp.mem_iff.mp hm)
        refine ⟨j, hj, ?_⟩
        rw [Bool.and_eq_true]
        refine ⟨?_, by rw [Int.toNat_natCast] at h; exact h⟩
        rw [← e] at nd
        have := (List.nodup_append.mp nd).2.2
        simp only [Bool.not_eq_true', decide_eq_false_iff_not]
        intro z
        exact this _ z _ (List.mem_cons_of_mem _ hy) rfl
    rw [goL]
    unfold mayF
    rw [hany]
    by_cases c : (rest.any fun y => (opAt l y.toNat).before (opAt l x.toNat)) = true
    · rw [if_pos c, c]; rfl
    · have cf := eq_false_of_ne_true c
      rw [if_neg c, cf]
      rw [lastW_app, List.length_append] at ih
      by_cases w : (opAt l x.toNat).w = true
      · rw [if_pos w] at ih ⊢
        rw [ih, w]
        simp
        rfl
      · rw [if_neg w] at ih
        rw [if_neg w]
        have wf := eq_false_of_ne_true w
        by_cases v : (opAt l x.toNat).v = lastW l done
        · rw [if_pos v, ih, wf]
          simp [v]
          rfl
        · rw [if_neg v, wf]
          simp [v]
theorem explains_agree {l : List Op} (hs : storyOk l = true) {d : PyData} (hc : Cand d) : ∃ b : Bool, m_explains [encO l, d] = some (.ok (.bool b)) ∧ m__law_explains [encO l, d] = some (.bool b) := by
  have hl := storyOk_len hs
  have key : ∃ b : Bool, m_explains_story [encO l, d] = some (.bool b) ∧ m__law_explains [encO l, d] = some (.bool b) := by
    by_cases h : ∃ is : List Int, d = encI is ∧ ∀ i ∈ is, 0 ≤ i ∧ i ≤ (l.length : Int) - 1
    · obtain ⟨is, rfl, hi⟩ := h
      have hir : InR l is := fun i h => by have := hi i h; omega
      have hlen : is.length ≤ 1000 := by
        generalize ed : encI is = d at hc
        cases hc with
        | non => cases ed
        | lst _ => cases ed
        | tup vs hv =>
          have : is.map PyData.int = vs.map encOI := by injection ed
          have := congrArg List.length this
          simp at this; omega
      refine ⟨_, explains_story_ok hl hir hlen, ?_⟩
      rw [law_explains_ok hl hir hlen, explT]
      by_cases hp : isPerm l is = true
      · have := agree hs (isPerm_perm hp) is [] rfl
        rw [show lastW l [] = 0 from rfl] at this
        rw [this, List.length_nil, ← List.range_eq_range']
      · rw [eq_false_of_ne_true hp]; rfl
    · exact ⟨false, explains_bad hc fun is e hi => h ⟨is, e, hi⟩⟩
  obtain ⟨b, h1, h2⟩ := key
  exact ⟨b, by simp [m_explains, b_explains, check_ok hs, h1], h2⟩
end CS
/-! M13: the law's step by step search. -/
namespace CS
open PySem
theorem for_find {a : PyData → Option (List (Nat × PyData))} {F : Ev → Option Out} {α β : Type} (enc : α → PyData) (J : Ev → Prop) (g : α → Option β) (encR : β → PyData) :
    ∀ (l : List α) (ρ : Ev), J ρ → (∀ x ∈ l, ∀ ρ, J ρ → ∃ as, a (enc x) = some as ∧ (match g x with
      | none => ∃ ρ', F (setD ρ as) = some (.nx ρ') ∧ J ρ'
      | some r => F (setD ρ as) = some (.rt (encR r)))) → match l.findSome? g with
      | none => ∃ ρ', forD a F (l.map enc) ρ = some (.nx ρ') ∧ J ρ'
      | some r => forD a F (l.map enc) ρ = some (.rt (encR r))
  | [], ρ, h, _ => ⟨ρ, rfl, h⟩
  | x :: l, ρ, h, st => by
    obtain ⟨as, e1, e2⟩ := st x (List.mem_cons_self ..) ρ h
    rw [List.findSome?_cons, List.map_cons]
    cases e : g x with
    | none =>
      rw [e] at e2
      obtain ⟨ρ', e3, h'⟩ := e2
      have ih := for_find enc J g encR l ρ' h' fun y hy => st y (List.mem_cons_of_mem _ hy)
      have hf : forD a F (enc x :: l.map enc) ρ = forD a F (l.map enc) ρ' := by rw [forD, e1, b_some, e3, b_some]
      rw [hf]
      exact ih
    | some r =>
      rw [e] at e2
      show forD a F (enc x :: l.map enc) ρ = some (.rt (encR r))
      rw [forD, e1, b_some, e2, b_some]
theorem eq_ints' (a b : List Int) : pEq (.list (a.map .int)) (.list (b.map .int)) = some (.bool (decide (a = b))) :=
  p_eqd (by rw [shaped_ints, shaped_ints]; rfl) (by unfold PyData.eqv; exact eqv_ints a b)
theorem eq_nil_i (l : List Int) : pEq (.list (l.map .int)) (.list []) = some (.bool l.isEmpty) := by
  have := eq_ints' l []
  rw [List.map_nil] at this
  rw [this]
  cases l <;> rfl
/-- those not in the order yet -/
def leftOf (l : List Op) (o : List Int) : List Int := ((List.range l.length).map fun i => ((i : Nat) : Int)).filter fun x => !decide (x ∈ o)
def earlyOf (l : List Op) (o : List Int) (x : Int) : List Int := (leftOf l o).filter fun y => decide ((opAt l y.toNat).e < (opAt l x.toNat).s)
/-- may x come next -/
def canF (l : List Op) (o : List Int) (x : Int) : Bool := (earlyOf l o x).isEmpty && ((opAt l x.toNat).w || (opAt l x.toNat).v == lastW l o)
def firstF (l : List Op) : Nat → List Int → Option (List Int)
  | 0, _ => none
  | n + 1, o => if o.length = l.length then some o else (leftOf l o).findSome? fun x => if canF l o x = true then firstF l n (o ++ [x]) else none
def encOpt : Option (List Int) → PyData
  | none => .none
  | some l => encI l
theorem left_in {l : List Op} {o : List Int} {x : Int} (h : x ∈ leftOf l o) : 0 ≤ x ∧ x < l.length ∧ x ∉ o := by
  unfold leftOf at h
  obtain ⟨h1, h2⟩ := List.mem_filter.mp h
  obtain ⟨i, hi, rfl⟩ := List.mem_map.mp h1
  have := List.mem_range.mp hi
  simp at h2
  exact ⟨by omega, by omega, h2⟩
theorem InR.snoc {l : List Op} {o : List Int} {x : Int} (h : InR l o) (hx : 0 ≤ x ∧ x < l.length) : InR l (o ++ [x]) := fun i hi => by
  rcases List.mem_append.mp hi with z | z
  · exact h i z
  · simp at z; subst z; exact hx
theorem firstF_in {l : List Op} : ∀ (n : Nat) (o r : List Int), InR l o → firstF l n o = some r → InR l r ∧ r.length = l.length
  | 0, _, _, _, e => by cases e
  | n + 1, o, r, h, e => by
    rw [firstF] at e
    split at e
    · rename_i c; cases e; exact ⟨h, c⟩
    · obtain ⟨x, hx, e⟩ := List.exists_of_findSome?_eq_some e
      split at e
      · exact firstF_in n _ _ (h.snoc ⟨(left_in hx).1, (left_in hx).2.1⟩) e
      · cases e
@[simp] theorem isN_t1 (d : List Int) : pIsN true (encI d) .none = some (.bool true) := rfl
@[simp] theorem isN_t2 : pIsN true .none .none = some (.bool false) := rfl
theorem law_first_ok {l : List Op} (hl : l.length ≤ 1000) : ∀ (n : Nat) (o : List Int), InR l o → o.length ≤ l.length → l.length < o.length + n → m__law_first n [encO l, encI o] = some (encOpt (firstF l n o))
  | 0, o, _, h1, h2 => by omega
  | n + 1, o, ho, h1, h2 => by
    have lo : pLen [encI o] = some (.int ((o.length : Nat) : Int)) := by show some (PyData.int (o.map PyData.int).length) = _; rw [List.length_map]
    have s0 : asSeq (encI o) = some (o.map .int) := rfl
    show fnD 12 (b__law_first (m__law_first n)) [encO l, encI o] = _
    simp only [e_fn, b__law_first]
    by_cases c : o.length = l.length
    · refine seq_rt (if_yes ?_ (ret_of (d := encI o) rfl)) ?_
      · simp [lo, c]
      · rw [o_rt, firstF, if_pos c]; rfl
    have pr : pRng [.int ((l.length : Nat) : Int)] = some (rngD 0 l.length) := pRng1 _ (by omega)
    refine seq_nx (if_no ?_) (seq_nx (set_of (d := .list ((leftOf l o).map .int)) ?_) (seq_nx (set_of (d := .list ((0 :: wOf l o).map .int)) ?_) ?_))
    · simp [lo]; omega
    · simp only [x_lc, x_Rng, x_cons, x_B, x_nil, e_start2, rep_s, rep_0, var_s, var_0, b_some, len_encO, pr, rngI]
      rw [comp1 PyData.int (fun x => !decide (x ∈ o)) PyData.int]
      · rfl
      · rfl
      · intro x hx
        simp [encI]
    · simp only [x_d2, x_lst, x_cons, x_nil, x_C, x_lc, x_SeqI, e_start2, rep_s, rep_0, List.set_cons_succ, List.set_cons_zero, var_s, var_0, b_some, s0]
      rw [comp1 PyData.int (fun i => (opAt l i.toNat).w) (fun i => .int (opAt l i.toNat).v)]
      · rw [if_pos (by decide), b_some, m_some, b_some]
        have hw : (wOf l o).length ≤ o.length := by unfold wOf; rw [List.length_map]; exact List.length_filter_le _ _
        have e : ((o.filter fun i => (opAt l i.toNat).w).map fun i => PyData.int (opAt l i.toNat).v) = (wOf l o).map .int := by rw [wOf, List.map_map]; rfl
        rw [e, addL _ _ (by simp; omega)]
        rfl
      · rfl
      · intro i hi
        have h := ho i hi
        have hx := ix_opI h.1 h.2
        simp [hx]
    have hlast : pIx (.list ((0 :: wOf l o).map .int)) (.int (-1)) = some (.int (lastW l o)) := by
      rw [ix_last _ (by simp)]
      unfold lastW
      rw [List.getLast?_cons]
      rfl
    have loop := for_find (a := aName 4) (F := (sSeq (sTgt (aTup [5, 6, 7, 8]) (d2 pIx (dVar 0) (dVar 4)))
    (sSeq (sSet 9 (dLc [11] (dSeqI (dVar 2)) (aName 11) (dT (d2 pLt (d2 pIx (d2 pIx (dVar 0) (dVar 11)) (dC (.int 3))) (dVar 7))) (dVar 11)))
    (sIf (dAndT (dT (d2 pEq (dVar 9) (dLst dNil))) (dOrT (dT (d2 pEq (dVar 5) (dC (.str "write")))) (dT (d2 pEq (dVar 6) (d2 pIx (dVar 3) (d1 pNeg (dC (.int 1)))))))) (sSeq (sSet 10 (dB (m__law_first n) (dCons (dVar 0) (dCons (d2 pAdd (dVar 1) (dTup (dCons (dVar 4) dNil))) dNil))))
    (sIf (dT (d2 (pIsN true) (dVar 10) (dC .none))) (sRet (dVar 10)) sNext)) sNext)))) PyData.int
      (fun ρ => ∃ c4 c5 c6 c7 c8 c9 c10 c11, ρ = [.dat (encO l), .dat (encI o), .dat (.list ((leftOf l o).map .int)), .dat (.list ((0 :: wOf l o).map .int)), c4, c5, c6, c7, c8, c9, c10, c11])
      (fun x => if canF l o x = true then firstF l n (o ++ [x]) else none) encI (leftOf l o)
      [.dat (encO l), .dat (encI o), .dat (.list ((leftOf l o).map .int)), .dat (.list ((0 :: wOf l o).map .int)), .no, .no, .no, .no, .no, .no, .no, .no] ⟨_, _, _, _, _, _, _, _, rfl⟩ (by
        rintro x hx ρ ⟨c4, c5, c6, c7, c8, c9, c10, c11, rfl⟩
        refine ⟨_, a_name _ _, ?_⟩
        simp only [sD_cons, sD_nil, List.set_cons_succ, List.set_cons_zero]
        have hxi := left_in hx
        have hxo := ix_opI hxi.1 hxi.2.1
        have t1 : sTgt (aTup [5, 6, 7, 8]) (d2 pIx (dVar 0) (dVar 4)) [.dat (encO l), .dat (encI o), .dat (.list ((leftOf l o).map .int)), .dat (.list ((0 :: wOf l o).map .int)), .dat (.int x), c5, c6, c7, c8, c9, c10, c11]
            = some (.nx [.dat (encO l), .dat (encI o), .dat (.list ((leftOf l o).map .int)), .dat (.list ((0 :: wOf l o).map .int)), .dat (.int x), .dat (.str (kd (opAt l x.toNat).w)), .dat (.int (opAt l x.toNat).v), .dat (.int (opAt l x.toNat).s), .dat (.int (opAt l x.toNat).e), c9, c10, c11]) := by
          simp only [e_tgt, x_d2, var_s, var_0, b_some, hxo, Op.enc, a_tup4, m_some, sD_cons, sD_nil, List.set_cons_succ, List.set_cons_zero]
        have t2 : sSet 9 (dLc [11] (dSeqI (dVar 2)) (aName 11) (dT (d2 pLt (d2 pIx (d2 pIx (dVar 0) (dVar 11)) (dC (.int 3))) (dVar 7))) (dVar 11)) [.dat (encO l), .dat (encI o), .dat (.list ((leftOf l o).map .int)), .dat (.list ((0 :: wOf l o).map .int)), .dat (.int x), .dat (.str (kd (opAt l x.toNat).w)), .dat (.int (opAt l x.toNat).v), .dat (.int (opAt l x.toNat).s), .dat (.int (opAt l x.toNat).e), c9, c10, c11]
            = some (.nx [.dat (encO l), .dat (encI o), .dat (.list ((leftOf l o).map .int)), .dat (.list ((0 :: wOf l o).map .int)), .dat (.int x), .dat (.str (kd (opAt l x.toNat).w)), .dat (.int (opAt l x.toNat).v), .dat (.int (opAt l x.toNat).s), .dat (.int (opAt l x.toNat).e), .dat (.list ((earlyOf l o x).map .int)), c10, c11]) := by
          simp only [e_set, x_lc, x_SeqI, var_s, var_0, b_some, asSeq_l]
          rw [comp1 PyData.int (fun y => decide ((opAt l y.toNat).e < (opAt l x.toNat).s)) PyData.int]
          · simp only [m_some, List.set_cons_succ, List.set_cons_zero]; rfl
          · rfl
          · intro y hy
            have hyi := left_in hy
            have hyo := ix_opI hyi.1 hyi.2.1
            simp [hyo]
        have en := eq_nil_i (earlyOf l o x)
        have cond : (dAndT (dT (d2 pEq (dVar 9) (dLst dNil))) (dOrT (dT (d2 pEq (dVar 5) (dC (.str "write")))) (dT (d2 pEq (dVar 6) (d2 pIx (dVar 3) (d1 pNeg (dC (.int 1))))))))
            (view [.dat (encO l), .dat (encI o), .dat (.list ((leftOf l o).map .int)), .dat (.list ((0 :: wOf l o).map .int)), .dat (.int x), .dat (.str (kd (opAt l x.toNat).w)), .dat (.int (opAt l x.toNat).v), .dat (.int (opAt l x.toNat).s), .dat (.int (opAt l x.toNat).e), .dat (.list ((earlyOf l o x).map .int)), c10, c11]) = some (canF l o x) := by
          have pn : pNeg (.int 1) = some (.int (-1)) := rfl
          simp only [x_AndT, x_OrT, x_T, x_d2, x_lst, x_nil, x_d1, x_C, view, List.map_cons, List.map_nil, v_dat, var_s, var_0, b_some, List.length_nil, Nat.zero_le, if_true, en, asB_b, kd_w, pn]
          rw [show ((.int 0 : PyData) :: (wOf l o).map .int) = (0 :: wOf l o).map .int from rfl, hlast, b_some, p_eqi, b_some, asB_b, kOr_b, kAnd_b]
          rfl
        by_cases cf : canF l o x = true
        · simp only [if_pos cf]
          have ha : pAdd (encI o) (.tuple [.int x]) = some (encI (o ++ [x])) := by
            show pAdd (.tuple (o.map .int)) (.tuple [.int x]) = _
            rw [addT _ _ (by simp; omega)]
            unfold encI; rw [List.map_append]; rfl
          have hin := ho.snoc ⟨hxi.1, hxi.2.1⟩
          have ih := law_first_ok hl n (o ++ [x]) hin (by simp; omega) (by simp; omega)
          have t3 : sSet 10 (dB (m__law_first n) (dCons (dVar 0) (dCons (d2 pAdd (dVar 1) (dTup (dCons (dVar 4) dNil))) dNil))) [.dat (encO l), .dat (encI o), .dat (.list ((leftOf l o).map .int)), .dat (.list ((0 :: wOf l o).map .int)), .dat (.int x), .dat (.str (kd (opAt l x.toNat).w)), .dat (.int (opAt l x.toNat).v), .dat (.int (opAt l x.toNat).s), .dat (.int (opAt l x.toNat).e), .dat (.list ((earlyOf l o x).map .int)), c10, c11]
            = some (.nx [.dat (encO l), .dat (encI o), .dat (.list ((leftOf l o).map .int)), .dat (.list ((0 :: wOf l o).map .int)), .dat (.int x), .dat (.str (kd (opAt l x.toNat).w)), .dat (.int (opAt l x.toNat).v), .dat (.int (opAt l x.toNat).s), .dat (.int (opAt l x.toNat).e), .dat (.list ((earlyOf l o x).map .int)), .dat (encOpt (firstF l n (o ++ [x]))), c11]) := by
            simp [ha, ih]
          cases er : firstF l n (o ++ [x]) with
          | none =>
            rw [er] at t3
            exact ⟨_, seq_nxs t1 (seq_nxs t2 (if_yes (cond.trans (by rw [cf])) (seq_nxs t3 (if_no (by simp [encOpt]))))), _, _, _, _, _, _, _, _, rfl⟩
          | some r =>
            rw [er] at t3
            exact seq_nxs t1 (seq_nxs t2 (if_yes (cond.trans (by rw [cf])) (seq_nxs t3 (if_yes (by simp [encOpt]) (ret_of (d := encI r) (by simp [encOpt]))))))
        · simp only [if_neg cf]
          exact ⟨_, seq_nxs t1 (seq_nxs t2 (if_no (cond.trans (by rw [eq_false_of_ne_true cf])))), _, _, _, _, _, _, _, _, rfl⟩)
    rw [firstF, if_neg c]
    cases er : (leftOf l o).findSome? (fun x => if canF l o x = true then firstF l n (o ++ [x]) else none) with
    | none =>
      rw [er] at loop
      obtain ⟨ρ', e, c4, c5, c6, c7, c8, c9, c10, c11, rfl⟩ := loop
      refine seq_nx (ρ' := [.dat (encO l), .dat (encI o), .dat (.list ((leftOf l o).map .int)), .dat (.list ((0 :: wOf l o).map .int)), c4, c5, c6, c7, c8, c9, c10, c11]) ?_ (ret_end ?_)
      · simp only [e_for, x_SeqI, e_start2, rep_s, rep_0, List.set_cons_succ, List.set_cons_zero, var_s, var_0, b_some, asSeq_l]
        exact e
      · rfl
    | some r =>
      rw [er] at loop
      refine seq_rt (d := encI r) ?_ rfl
      simp only [e_for, x_SeqI, e_start2, rep_s, rep_0, List.set_cons_succ, List.set_cons_zero, var_s, var_0, b_some, asSeq_l]
      exact loop
end CS
/-! M14: extend gives all explanations, cut. -/
namespace CS
open PySem
def nums (n : Nat) : List Int := (List.range n).map fun i => ((i : Nat) : Int)
theorem rng_nums (n : Nat) : rngD 0 n = (nums n).map .int := rngI n
theorem nums_mem {n : Nat} {x : Int} : x ∈ nums n ↔ 0 ≤ x ∧ x < n := by
  unfold nums
  rw [List.mem_map]
  constructor
  · rintro ⟨i, hi, rfl⟩
    have := List.mem_range.mp hi
    omega
  · rintro ⟨h0, h1⟩
    exact ⟨x.toNat, List.mem_range.mpr (by omega), by omega⟩
theorem nums_nodup (n : Nat) : (nums n).Nodup := nodup_map_on List.nodup_range fun i _ j _ h => by omega
theorem nums_len (n : Nat) : (nums n).length = n := by simp [nums]
/-- may k come next -/
def nextF (l : List Op) (o : List Int) (k : Int) : Bool := !decide (k ∈ o) && mayF l o k
def allF (l : List Op) : Nat → List Int → List (List Int)
  | 0, _ => []
  | n + 1, o => if o.length = l.length then [o] else ((nums l.length).filter (nextF l o)).flatMap fun k => allF l n (o ++ [k])
theorem take_take {α : Type} (x y : List α) (m : Nat) : (x.take m ++ y).take m = (x ++ y).take m := by
  by_cases h : x.length ≤ m
  · rw [List.take_of_length_le h]
  · rw [List.take_append_of_le_length (by rw [List.length_take]; omega), List.take_append_of_le_length (by omega), List.take_take]
    congr 1
    omega
theorem take_full {α : Type} (x y : List α) (m : Nat) (h : x.length = m) : (x ++ y).take m = x := by
  rw [List.take_append_of_le_length (by omega), List.take_of_length_le (by omega)]
theorem extGo_ok {l : List Op} (hl : l.length ≤ 1000) {o : List Int} (ho : InR l o) (hlt : o.length < l.length) {most : Nat} {self : PyData → PyData → List PyData → PyData → Option (List PyData)} {A : List Int → List (List Int)}
    (hs : ∀ (k : Int) (fd : List (List Int)), 0 ≤ k ∧ k < l.length → fd.length < most → self (encO l) (encI (o ++ [k])) (fd.map encI) (.int most) = some (((fd ++ A (o ++ [k])).take most).map encI)) :
    ∀ (ks : List Int) (fd : List (List Int)), (∀ k ∈ ks, 0 ≤ k ∧ k < l.length) → fd.length ≤ most →
      extGo c2_extend self (encO l) (encI o) (.int most) (ks.map .int) (fd.map encI) = some (((fd ++ (ks.filter (nextF l o)).flatMap fun k => A (o ++ [k])).take most).map encI)
  | [], fd, _, hf => by
    rw [List.map_nil, extGo, List.filter_nil, List.flatMap_nil, List.append_nil, List.take_of_length_le hf]
  | k :: ks, fd, hk, hf => by
    have hk1 := hk k (List.mem_cons_self ..)
    have hk2 : ∀ k ∈ ks, 0 ≤ k ∧ k < l.length := fun x hx => hk x (List.mem_cons_of_mem _ hx)
    have hm := may_follow_ok l o k hl ho hk1
    have hc : c2_extend [.dat (encO l), .dat (encI o), .dat (.list (fd.map encI)), .dat (.int most), .dat (.int k)] = some (decide (((fd.length : Nat) : Int) < ((most : Nat) : Int)) && nextF l o k) := by
      have hin : pInA true (.int k) (encI o) = some (.bool (!decide (k ∈ o))) := notin_intsT k o
      simp only [c2_extend, x_AndT, x_T, x_Tru, x_d2, x_B, x_cons, x_nil, var_s, var_0, b_some, p_lenL, List.length_map, p_lt, asB_b, hin, hm, t_b, kAnd_b]
      rfl
    rw [List.map_cons, extGo, hc, b_some]
    by_cases c : (decide (((fd.length : Nat) : Int) < ((most : Nat) : Int)) && nextF l o k) = true
    · rw [if_pos c]
      rw [Bool.and_eq_true, decide_eq_true_eq] at c
      have ha : pAdd (encI o) (.tuple [.int k]) = some (encI (o ++ [k])) := by
        show pAdd (.tuple (o.map .int)) (.tuple [.int k]) = _
        rw [addT _ _ (by simp; omega)]
        unfold encI; rw [List.map_append]; rfl
      rw [ha, b_some, hs k fd hk1 (by omega), b_some, extGo_ok hl ho hlt hs ks _ hk2 (by rw [List.length_take]; exact Nat.min_le_left _ _)]
      rw [take_take, List.filter_cons, if_pos c.2, List.flatMap_cons, List.append_assoc]
    · rw [if_neg c, extGo_ok hl ho hlt hs ks fd hk2 hf]
      by_cases c2 : nextF l o k = true
      · have hfull : fd.length = most := by
          rw [c2, Bool.and_true, decide_eq_true_eq] at c
          omega
        rw [take_full _ _ _ hfull, take_full _ _ _ hfull]
      · rw [List.filter_cons, if_neg c2]
theorem extend_ok {l : List Op} (hl : l.length ≤ 1000) {most : Nat} (hm : most ≤ 1000) : ∀ (n : Nat) (o : List Int) (fd : List (List Int)), InR l o → o.length ≤ l.length → l.length < o.length + n → fd.length < most →
    x_extend n (encO l) (encI o) (fd.map encI) (.int most) = some (((fd ++ allF l n o).take most).map encI)
  | 0, o, fd, _, h1, h2, _ => by omega
  | n + 1, o, fd, ho, h1, h2, h3 => by
    have lo : pLen [encI o] = some (.int ((o.length : Nat) : Int)) := by show some (PyData.int (o.map PyData.int).length) = _; rw [List.length_map]
    show extD c1_extend c2_extend (n + 1) (encO l) (encI o) (fd.map encI) (.int most) = _
    unfold extD
    have hc : c1_extend [.dat (encO l), .dat (encI o), .dat (.list (fd.map encI)), .dat (.int most), .no] = some (((o.length : Nat) : Int) == ((l.length : Nat) : Int)) := by
      simp only [c1_extend, x_T, x_d2, x_B, x_cons, x_nil, var_s, var_0, b_some, lo, len_encO, p_eqi, asB_b]
    rw [hc, b_some]
    by_cases c : o.length = l.length
    · rw [if_pos (by simp [c]), if_pos (by rw [List.length_map]; omega), allF, if_pos c, List.take_of_length_le (by rw [List.length_append]; simp; omega), List.map_append]
      rfl
    · rw [if_neg (by simp; omega), len_encO, b_some, pRng1 _ (by omega), b_some, rng_nums]
      have := extGo_ok hl ho (by omega) (self := extD c1_extend c2_extend n) (A := allF l n) (fun k fd' hk hf => extend_ok hl hm n (o ++ [k]) fd' (ho.snoc hk) (by simp; omega) (by simp; omega) hf) (nums l.length) fd (fun k hk => nums_mem.mp hk) (by omega)
      rw [this, allF, if_neg c]
/-- all explanations, in order -/
def expls (l : List Op) : List (List Int) := allF l 8 []
theorem explanations_ok {l : List Op} (hl : l.length ≤ 6) {most : Nat} (h0 : 0 < most) (hm : most ≤ 1000) : m_explanations_of [encO l, .int most] = some (.list (((expls l).take most).map encI)) := by
  have e := extend_ok (l := l) (by omega) hm 8 [] [] (by intro i hi; simp at hi) (by simp) (by simp; omega) (by simpa using h0)
  rw [List.nil_append] at e
  simp only [m_explanations_of, e_fn, b_explanations_of]
  refine seq_nx (ρ' := [.dat (encO l), .dat (.int most), .own []]) (by simp) (seq_nx (ρ' := [.dat (encO l), .dat (.int most), .own (((expls l).take most).map encI)]) ?_ (ret_end ?_))
  · unfold sExt4
    simp only [own_s, own_0, b_some, var_s, var_0, x_tup, x_nil, List.length_nil, Nat.zero_le, if_true]
    have e' : x_extend 8 (encO l) (.tuple []) [] (.int ((most : Nat) : Int)) = some (((expls l).take most).map encI) := e
    rw [e', m_some]
    rfl
  · simp
/-! how many -/
theorem split_len {α : Type} (p : α → Bool) : ∀ l : List α, (l.filter p).length + (l.filter fun x => !p x).length = l.length
  | [] => rfl
  | x :: l => by
    have := split_len p l
    rw [List.filter_cons, List.filter_cons]
    cases e : p x <;> simp <;> omega
theorem left_count {n : Nat} {o : List Int} (nd : o.Nodup) (hr : ∀ i ∈ o, 0 ≤ i ∧ i < n) : ((nums n).filter fun k => !decide (k ∈ o)).length + o.length = n := by
  have h1 : ((nums n).filter fun k => decide (k ∈ o)).Perm o := by
    rw [List.perm_ext_iff_of_nodup ((nums_nodup n).filter _) nd]
    intro a
    rw [List.mem_filter]
    constructor
    · rintro ⟨_, h⟩; simpa using h
    · intro h; exact ⟨nums_mem.mpr (hr a h), by simpa using h⟩
  have h2 := split_len (fun k => decide (k ∈ o)) (nums n)
  rw [nums_len, h1.length_eq] at h2
  omega
def fact : Nat → Nat
  | 0 => 1
  | n + 1 => (n + 1) * fact n
theorem flat_len {α β : Type} (f : α → List β) (b : Nat) : ∀ l : List α, (∀ x ∈ l, (f x).length ≤ b) → (l.flatMap f).length ≤ l.length * b
  | [], _ => by simp
  | x :: l, h => by
    have := flat_len f b l fun y hy => h y (List.mem_cons_of_mem _ hy)
    have h1 := h x (List.mem_cons_self ..)
    rw [List.flatMap_cons, List.length_append, List.length_cons, Nat.succ_mul]
    omega
theorem allF_len {l : List Op} : ∀ (n : Nat) (o : List Int), o.Nodup → InR l o → o.length ≤ l.length → (allF l n o).length ≤ fact (l.length - o.length)
  | 0, o, _, _, _ => by simp [allF]
  | n + 1, o, nd, ho, hle => by
    rw [allF]
    by_cases c : o.length = l.length
    · rw [if_pos c, c, Nat.sub_self]; exact Nat.le_refl 1
    · rw [if_neg c]
      have hc := left_count nd ho
      have e : l.length - o.length = (l.length - o.length - 1) + 1 := by omega
      rw [e, fact]
      refine Nat.le_trans (flat_len _ (fact (l.length - o.length - 1)) _ fun k hk => ?_) (Nat.mul_le_mul_right _ ?_)
      · obtain ⟨h1, h2⟩ := List.mem_filter.mp hk
        have hk1 := nums_mem.mp h1
        unfold nextF at h2
        rw [Bool.and_eq_true] at h2
        have hno : k ∉ o := by simpa using h2.1
        have := allF_len (l := l) n (o ++ [k]) (by
          rw [List.nodup_append]
          refine ⟨nd, by simp, fun x hx y hy e => ?_⟩
          simp at hy; subst hy; subst e; exact hno hx) (ho.snoc hk1) (by simp; omega)
        have e2 : l.length - (o ++ [k]).length = l.length - o.length - 1 := by simp; omega
        rw [e2] at this
        exact this
      · have : ((nums l.length).filter (nextF l o)).length ≤ ((nums l.length).filter fun k => !decide (k ∈ o)).length := by
          rw [← List.countP_eq_length_filter, ← List.countP_eq_length_filter]
          refine List.countP_mono_left fun x _ h => ?_
          unfold nextF at h
          rw [Bool.and_eq_true] at h
          exact h.1
        omega
theorem fact_mono {a b : Nat} (h : a ≤ b) : fact a ≤ fact b := by
  induction b with
  | zero => have : a = 0 := by omega
            subst this; exact Nat.le_refl _
  | succ b ih =>
    by_cases c : a = b + 1
    · subst c; exact Nat.le_refl _
    · have := ih (by omega)
      rw [fact, Nat.succ_mul]
      omega
theorem expls_len {l : List Op} (hl : l.length ≤ 6) : (expls l).length ≤ 720 := by
  have := allF_len (l := l) 8 [] (by simp) (by intro i hi; simp at hi) (by simp)
  have h2 := fact_mono (a := l.length - ([] : List Int).length) (b := 6) (by simp; omega)
  have h3 : fact 6 = 720 := rfl
  unfold expls
  omega
theorem explanations_all {l : List Op} (hl : l.length ≤ 6) : m_explanations_of [encO l, .int 720] = some (.list ((expls l).map encI)) := by
  have := explanations_ok hl (most := 720) (by decide) (by decide)
  rw [List.take_of_length_le (expls_len hl)] at this
  exact this
/-! the law's search is the same -/
theorem canF_mayF (l : List Op) (o : List Int) (x : Int) : canF l o x = mayF l o x := by
  unfold canF mayF
  congr 1
  unfold earlyOf leftOf
  rw [filter_empty, List.any_filter, List.any_map]
  rfl
theorem find_flat {α β : Type} (p : α → Bool) (f : α → List β) (g : α → Option β) (h : ∀ x, g x = (f x).head?) : ∀ l : List α, (l.findSome? fun x => if p x = true then g x else none) = ((l.filter p).flatMap f).head?
  | [] => rfl
  | x :: l => by
    rw [List.findSome?_cons, List.filter_cons]
    by_cases c : p x = true
    · rw [if_pos c, if_pos c, List.flatMap_cons, h x]
      cases e : f x with
      | nil => rw [List.nil_append]; exact find_flat p f g h l
      | cons y ys => rfl
    · rw [if_neg c, if_neg c]
      exact find_flat p f g h l
theorem firstF_head (l : List Op) : ∀ (n : Nat) (o : List Int), firstF l n o = (allF l n o).head?
  | 0, o => rfl
  | n + 1, o => by
    rw [firstF, allF]
    by_cases c : o.length = l.length
    · rw [if_pos c, if_pos c]; rfl
    · rw [if_neg c, if_neg c]
      have e : (nums l.length).filter (nextF l o) = (leftOf l o).filter (canF l o) := by
        unfold leftOf
        rw [List.filter_filter]
        show _ = List.filter _ (nums l.length)
        congr 1
        funext k
        unfold nextF
        rw [canF_mayF, Bool.and_comm]
      rw [e]
      exact find_flat _ _ _ (fun k => firstF_head l n (o ++ [k])) _
end CS
/-! M17: every explanation is a permutation; the law's own list of them. -/
namespace CS
open PySem
theorem allF_perm {l : List Op} : ∀ (n : Nat) (o r : List Int), o.Nodup → InR l o → r ∈ allF l n o → r.Perm (nums l.length) ∧ o <+: r
  | 0, o, r, _, _, h => by simp [allF] at h
  | n + 1, o, r, nd, ho, h => by
    rw [allF] at h
    by_cases c : o.length = l.length
    · rw [if_pos c] at h
      simp at h
      subst h
      refine ⟨?_, List.prefix_refl _⟩
      rw [List.perm_ext_iff_of_nodup nd (nums_nodup _)]
      intro a
      constructor
      · intro ha; exact nums_mem.mpr (ho a ha)
      · intro ha
        have hc := left_count nd ho
        have h0 : ((nums l.length).filter fun k => !decide (k ∈ r)).length = 0 := by omega
        have h1 := List.length_eq_zero_iff.mp h0
        rw [List.filter_eq_nil_iff] at h1
        have := h1 a ha
        simpa using this
    · rw [if_neg c] at h
      obtain ⟨k, hk, h⟩ := List.mem_flatMap.mp h
      obtain ⟨h1, h2⟩ := List.mem_filter.mp hk
      have hk1 := nums_mem.mp h1
      unfold nextF at h2
      rw [Bool.and_eq_true] at h2
      have hno : k ∉ o := by simpa using h2.1
      have := allF_perm n (o ++ [k]) r (by
        rw [List.nodup_append]
        refine ⟨nd, by simp, fun x hx y hy e => ?_⟩
        simp at hy; subst hy; subst e; exact hno hx) (ho.snoc hk1) h
      exact ⟨this.1, (List.prefix_append o [k]).trans this.2⟩
theorem expls_perm {l : List Op} {r : List Int} (h : r ∈ expls l) : r.Perm (nums l.length) :=
  (allF_perm 8 [] r (by simp) (by intro i hi; simp at hi) h).1
theorem expls_nodup {l : List Op} {r : List Int} (h : r ∈ expls l) : r.Nodup := (expls_perm h).nodup_iff.mpr (nums_nodup _)
theorem expls_len1 {l : List Op} {r : List Int} (h : r ∈ expls l) : r.length = l.length := by rw [(expls_perm h).length_eq, nums_len]
theorem expls_mem {l : List Op} {r : List Int} (h : r ∈ expls l) (k : Int) : k ∈ r ↔ 0 ≤ k ∧ k < l.length := by
  rw [(expls_perm h).mem_iff, nums_mem]
theorem expls_in {l : List Op} {r : List Int} (h : r ∈ expls l) : InR l r := fun k hk => (expls_mem h k).mp hk
/-- every prefix could be gone on with -/
theorem allF_steps {l : List Op} : ∀ (n : Nat) (o r : List Int), r ∈ allF l n o → ∀ p x s, r = p ++ x :: s → o.length ≤ p.length → o <+: r → nextF l p x = true
  | 0, o, r, h, _, _, _, _, _, _ => by simp [allF] at h
  | n + 1, o, r, h, p, x, s, e, hl, hpre => by
    rw [allF] at h
    by_cases c : o.length = l.length
    · rw [if_pos c] at h
      simp at h
      subst h
      have := congrArg List.length e
      simp at this
      omega
    · rw [if_neg c] at h
      obtain ⟨k, hk, h⟩ := List.mem_flatMap.mp h
      obtain ⟨h1, h2⟩ := List.mem_filter.mp hk
      by_cases d : o.length = p.length
      · have hop : o = p := by
          have : o <+: p ++ x :: s := e ▸ hpre
          have := List.prefix_of_prefix_length_le this (List.prefix_append p (x :: s)) (by omega)
          exact this.eq_of_length d
        subst hop
        -- k = x
        have hkx : k = x := by
          have hp2 : (o ++ [k]) <+: r := allF_pre n _ _ h
          rw [e] at hp2
          have := (List.prefix_append_right_inj o).mp hp2
          simpa using this
        subst hkx
        exact h2
      · have hp2 : (o ++ [k]) <+: r := allF_pre n _ _ h
        exact allF_steps n (o ++ [k]) r h p x s e (by rw [List.length_append]; simp; omega) hp2
where
  allF_pre {l : List Op} : ∀ (n : Nat) (o r : List Int), r ∈ allF l n o → o <+: r
    | 0, o, r, h => by simp [allF] at h
    | n + 1, o, r, h => by
      rw [allF] at h
      by_cases c : o.length = l.length
      · rw [if_pos c] at h
        simp at h
        subst h
        exact List.prefix_refl _
      · rw [if_neg c] at h
        obtain ⟨k, hk, h⟩ := List.mem_flatMap.mp h
        exact (List.prefix_append o [k]).trans (allF_pre n _ _ h)
theorem expls_step {l : List Op} {r p s : List Int} {x : Int} (h : r ∈ expls l) (e : r = p ++ x :: s) : nextF l p x = true :=
  allF_steps 8 [] r h p x s e (by simp) (List.nil_prefix)
/-- who precedes comes first -/
theorem expls_before {l : List Op} {r : List Int} (h : r ∈ expls l) {a b : Int} (ha : 0 ≤ a ∧ a < l.length) (hb : 0 ≤ b ∧ b < l.length) (hab : (opAt l a.toNat).before (opAt l b.toNat) = true) : ∃ p q s, r = p ++ a :: q ++ b :: s := by
  obtain ⟨p, s, e⟩ := List.append_of_mem ((expls_mem h b).mpr hb)
  have hn := expls_step h e
  unfold nextF mayF at hn
  simp only [Bool.and_eq_true, Bool.not_eq_true', List.any_eq_false] at hn
  have := hn.2.1 a.toNat (List.mem_range.mpr (by omega))
  have hap : a ∈ p := by
    have e2 : ((a.toNat : Nat) : Int) = a := by omega
    rw [e2, hab] at this
    simpa using this
  obtain ⟨p1, p2, e3⟩ := List.append_of_mem hap
  exact ⟨p1, p2, s, by rw [e, e3]⟩
/-! the law's list, level by level -/
def extO (l : List Op) (o : List Int) : List (List Int) := ((leftOf l o).filter (canF l o)).map fun k => o ++ [k]
def iterO (l : List Op) : Nat → List (List Int) → List (List Int)
  | 0, gs => gs
  | r + 1, gs => iterO l r (gs.flatMap (extO l))
theorem iterO_flat (l : List Op) : ∀ (r : Nat) (gs : List (List Int)), iterO l r gs = gs.flatMap fun g => iterO l r [g]
  | 0, gs => by
    show gs = gs.flatMap fun g => [g]
    induction gs with
    | nil => rfl
    | cons g gs ih => rw [List.flatMap_cons, ← ih]; rfl
  | r + 1, gs => by
    rw [iterO, iterO_flat l r, List.flatMap_assoc]
    congr 1
    funext g
    rw [iterO, List.flatMap_cons, List.flatMap_nil, List.append_nil, ← iterO_flat l r]
theorem left_next (l : List Op) (o : List Int) : (nums l.length).filter (nextF l o) = (leftOf l o).filter (canF l o) := by
  unfold leftOf
  rw [List.filter_filter]
  show _ = List.filter _ (nums l.length)
  congr 1
  funext k
  unfold nextF
  rw [canF_mayF, Bool.and_comm]
theorem allF_iter (l : List Op) : ∀ (r n : Nat) (o : List Int), o.length + r = l.length → r < n → allF l n o = iterO l r [o]
  | r, 0, o, _, h => by omega
  | 0, n + 1, o, h, _ => by rw [allF, if_pos (by omega)]; rfl
  | r + 1, n + 1, o, h, h2 => by
    rw [allF, if_neg (by omega), iterO, List.flatMap_cons, List.flatMap_nil, List.append_nil, iterO_flat, extO, left_next, List.flatMap_map]
    congr 1
    funext k
    exact allF_iter l r n (o ++ [k]) (by simp; omega) (by omega)
theorem expls_iter {l : List Op} (hl : l.length ≤ 6) : expls l = iterO l l.length [[]] := allF_iter l l.length 8 [] (by simp) (by omega)
theorem iter_succ (l : List Op) : ∀ (r : Nat) (gs : List (List Int)), iterO l (r + 1) gs = (iterO l r gs).flatMap (extO l)
  | 0, gs => rfl
  | r + 1, gs => by rw [iterO, iter_succ l r, ← iterO]
end CS
/-! M18: the law's list of all explanations. -/
namespace CS
open PySem
theorem for_mapJ {α : Type} {a : PyData → Option (List (Nat × PyData))} {F : Ev → Option Out} (enc : α → PyData) (I : List α → Ev → Prop) :
    ∀ (ds done : List α) (ρ : Ev), I done ρ → (∀ done' x rest ρ, done ++ ds = done' ++ x :: rest → I done' ρ → ∃ as ρ', a (enc x) = some as ∧ F (setD ρ as) = some (.nx ρ') ∧ I (done' ++ [x]) ρ') → ∃ ρ', forD a F (ds.map enc) ρ = some (.nx ρ') ∧ I (done ++ ds) ρ'
  | [], done, ρ, h, _ => ⟨ρ, rfl, by rw [List.append_nil]; exact h⟩
  | d :: ds, done, ρ, h, st => by
    obtain ⟨as, ρ1, e1, e2, h1⟩ := st done d ds ρ rfl h
    obtain ⟨ρ', e3, h3⟩ := for_mapJ enc I ds (done ++ [d]) ρ1 h1 fun done' x rest ρ2 er h2 => st done' x rest ρ2 (by rw [← er]; simp) h2
    refine ⟨ρ', ?_, by simpa using h3⟩
    rw [List.map_cons, forD, e1, b_some, e2, b_some]
    exact e3
theorem add_one (a : List Int) (k : Int) (h : a.length ≤ 1000) : pAdd (encI a) (.tuple [.int k]) = some (encI (a ++ [k])) := by
  show pAdd (.tuple (a.map .int)) (.tuple [.int k]) = _
  rw [addT _ _ (by simp; omega)]
  unfold encI; rw [List.map_append]; rfl
theorem iter_in {l : List Op} : ∀ (r : Nat) (gs : List (List Int)), (∀ g ∈ gs, InR l g) → ∀ g ∈ iterO l r gs, InR l g
  | 0, gs, h, g, hg => h g hg
  | r + 1, gs, h, g, hg => iter_in r _ (fun g' hg' => by
      obtain ⟨o, ho, h1⟩ := List.mem_flatMap.mp hg'
      obtain ⟨k, hk, rfl⟩ := List.mem_map.mp h1
      have := left_in (List.mem_filter.mp hk).1
      exact (h o ho).snoc ⟨this.1, this.2.1⟩) g hg
theorem iter_len1 {l : List Op} : ∀ (r : Nat) (gs : List (List Int)) (n : Nat), (∀ g ∈ gs, g.length = n) → ∀ g ∈ iterO l r gs, g.length = n + r
  | 0, gs, n, h, g, hg => h g hg
  | r + 1, gs, n, h, g, hg => by
    have := iter_len1 r (gs.flatMap (extO l)) (n + 1) (fun g' hg' => by
      obtain ⟨o, ho, h1⟩ := List.mem_flatMap.mp hg'
      obtain ⟨k, hk, rfl⟩ := List.mem_map.mp h1
      simp [h o ho]) g hg
    omega
theorem ext_len {l : List Op} (hl : l.length ≤ 6) (o : List Int) : (extO l o).length ≤ 6 := by
  unfold extO
  rw [List.length_map]
  refine Nat.le_trans (List.length_filter_le _ _) ?_
  unfold leftOf
  refine Nat.le_trans (List.length_filter_le _ _) ?_
  simp; exact hl
theorem iter_many {l : List Op} (hl : l.length ≤ 6) : ∀ r : Nat, (iterO l r [[]]).length ≤ 6 ^ r
  | 0 => by simp [iterO]
  | r + 1 => by
    rw [iter_succ, Nat.pow_succ]
    exact Nat.le_trans (flat_len _ 6 _ fun g _ => ext_len hl g) (Nat.mul_le_mul_right _ (iter_many hl r))
abbrev HC : Ev → Option Out := (sSeq (sTgt (aTup [8, 9, 10, 11]) (d2 pIx (dVar 0) (dVar 7)))
    (sIf (dAndT (dT (d2 pEq (dLc [12] (dSeqI (dVar 6)) (aName 12) (dT (d2 pLt (d2 pIx (d2 pIx (dVar 0) (dVar 12)) (dC (.int 3))) (dVar 10))) (dVar 12)) (dLst dNil))) (dOrT (dT (d2 pEq (dVar 8) (dC (.str "write")))) (dT (d2 pEq (dVar 9) (d2 pIx (dVar 5) (d1 pNeg (dC (.int 1)))))))) (sApp 3 (d2 pAdd (dVar 4) (dTup (dCons (dVar 7) dNil)))) sNext))
theorem every_in {l : List Op} (hl : l.length ≤ 6) {o : List Int} (ho : InR l o) (hol : o.length ≤ 6) (c1 c2 : Cell) (acc : List (List Int)) (hacc : acc.length + 6 < 65536) (c7 c8 c9 c10 c11 c12 : Cell) : ∃ c7' c8' c9' c10' c11', forD (aName 7) HC ((leftOf l o).map .int)
      [.dat (encO l), c1, c2, .own (acc.map encI), .dat (encI o), .dat (.list ((0 :: wOf l o).map .int)), .dat (.list ((leftOf l o).map .int)), c7, c8, c9, c10, c11, c12] =
      some (.nx [.dat (encO l), c1, c2, .own ((acc ++ extO l o).map encI), .dat (encI o), .dat (.list ((0 :: wOf l o).map .int)), .dat (.list ((leftOf l o).map .int)), c7', c8', c9', c10', c11', c12]) := by
  have hll : (leftOf l o).length ≤ 6 := by
    unfold leftOf
    refine Nat.le_trans (List.length_filter_le _ _) ?_
    simp; exact hl
  have hlast : pIx (.list ((0 :: wOf l o).map .int)) (.int (-1)) = some (.int (lastW l o)) := by
    rw [ix_last _ (by simp)]
    unfold lastW
    rw [List.getLast?_cons]
    rfl
  obtain ⟨ρ', e, c7', c8', c9', c10', c11', rfl⟩ := for_mapJ (a := aName 7) (F := HC) PyData.int (fun done ρ => ∃ c7 c8 c9 c10 c11, ρ = [.dat (encO l), c1, c2, .own ((acc ++ (done.filter (canF l o)).map fun k => o ++ [k]).map encI), .dat (encI o), .dat (.list ((0 :: wOf l o).map .int)), .dat (.list ((leftOf l o).map .int)), c7, c8, c9, c10, c11, c12]) (leftOf l o) []
    [.dat (encO l), c1, c2, .own (acc.map encI), .dat (encI o), .dat (.list ((0 :: wOf l o).map .int)), .dat (.list ((leftOf l o).map .int)), c7, c8, c9, c10, c11, c12] ⟨c7, c8, c9, c10, c11, by simp⟩ (by
    rintro done x rest ρ er ⟨c7, c8, c9, c10, c11, rfl⟩
    rw [List.nil_append] at er
    have hx : x ∈ leftOf l o := by rw [er]; simp
    have hxi := left_in hx
    have hxo := ix_opI hxi.1 hxi.2.1
    have hdl : done.length < 6 := by
      have := congrArg List.length er
      rw [List.length_append, List.length_cons] at this
      omega
    have hfl := List.length_filter_le (canF l o) done
    have t1 : sTgt (aTup [8, 9, 10, 11]) (d2 pIx (dVar 0) (dVar 7)) (setD [.dat (encO l), c1, c2, .own ((acc ++ (done.filter (canF l o)).map fun k => o ++ [k]).map encI), .dat (encI o), .dat (.list ((0 :: wOf l o).map .int)), .dat (.list ((leftOf l o).map .int)), c7, c8, c9, c10, c11, c12] [(7, .int x)])
        = some (.nx [.dat (encO l), c1, c2, .own ((acc ++ (done.filter (canF l o)).map fun k => o ++ [k]).map encI), .dat (encI o), .dat (.list ((0 :: wOf l o).map .int)), .dat (.list ((leftOf l o).map .int)), .dat (.int x), .dat (.str (kd (opAt l x.toNat).w)), .dat (.int (opAt l x.toNat).v), .dat (.int (opAt l x.toNat).s), .dat (.int (opAt l x.toNat).e), c12]) := by
      simp only [sD_cons, sD_nil, List.set_cons_succ, List.set_cons_zero, e_tgt, x_d2, var_s, var_0, b_some, hxo, Op.enc, a_tup4, m_some]
    have cond : (dAndT (dT (d2 pEq (dLc [12] (dSeqI (dVar 6)) (aName 12) (dT (d2 pLt (d2 pIx (d2 pIx (dVar 0) (dVar 12)) (dC (.int 3))) (dVar 10))) (dVar 12)) (dLst dNil))) (dOrT (dT (d2 pEq (dVar 8) (dC (.str "write")))) (dT (d2 pEq (dVar 9) (d2 pIx (dVar 5) (d1 pNeg (dC (.int 1))))))))
        (view [.dat (encO l), c1, c2, .own ((acc ++ (done.filter (canF l o)).map fun k => o ++ [k]).map encI), .dat (encI o), .dat (.list ((0 :: wOf l o).map .int)), .dat (.list ((leftOf l o).map .int)), .dat (.int x), .dat (.str (kd (opAt l x.toNat).w)), .dat (.int (opAt l x.toNat).v), .dat (.int (opAt l x.toNat).s), .dat (.int (opAt l x.toNat).e), c12]) = some (canF l o x) := by
      have pn : pNeg (.int 1) = some (.int (-1)) := rfl
      have en := eq_nil_i (earlyOf l o x)
      have hlc : (dLc [12] (dSeqI (dVar 6)) (aName 12) (dT (d2 pLt (d2 pIx (d2 pIx (dVar 0) (dVar 12)) (dC (.int 3))) (dVar 10))) (dVar 12)) (view [.dat (encO l), c1, c2, .own ((acc ++ (done.filter (canF l o)).map fun k => o ++ [k]).map encI), .dat (encI o), .dat (.list ((0 :: wOf l o).map .int)), .dat (.list ((leftOf l o).map .int)), .dat (.int x), .dat (.str (kd (opAt l x.toNat).w)), .dat (.int (opAt l x.toNat).v), .dat (.int (opAt l x.toNat).s), .dat (.int (opAt l x.toNat).e), c12]) = some (.list ((earlyOf l o x).map .int)) := by
        simp only [x_lc, x_SeqI, view, List.map_cons, List.map_nil, v_dat, v_own, var_s, var_0, b_some, asSeq_l]
        rw [comp1 PyData.int (fun y => decide ((opAt l y.toNat).e < (opAt l x.toNat).s)) PyData.int]
        · rfl
        · rfl
        · intro y hy
          have hyi := left_in hy
          have hyo := ix_opI hyi.1 hyi.2.1
          simp [hyo]
      rw [x_AndT, x_T, x_d2, hlc]
      simp only [x_OrT, x_T, x_d2, x_lst, x_nil, x_d1, x_C, view, List.map_cons, List.map_nil, v_dat, v_own, var_s, var_0, b_some, List.length_nil, Nat.zero_le, if_true, en, asB_b, kd_w, pn]
      rw [show ((.int 0 : PyData) :: (wOf l o).map .int) = (0 :: wOf l o).map .int from rfl, hlast, b_some, p_eqi, b_some, asB_b, kOr_b, kAnd_b]
      rfl
    by_cases cf : canF l o x = true
    · have ha := add_one o x (by omega)
      refine ⟨_, [.dat (encO l), c1, c2, .own ((acc ++ ((done ++ [x]).filter (canF l o)).map fun k => o ++ [k]).map encI), .dat (encI o), .dat (.list ((0 :: wOf l o).map .int)), .dat (.list ((leftOf l o).map .int)), .dat (.int x), .dat (.str (kd (opAt l x.toNat).w)), .dat (.int (opAt l x.toNat).v), .dat (.int (opAt l x.toNat).s), .dat (.int (opAt l x.toNat).e), c12], a_name _ _, seq_nxs t1 (if_yes (cond.trans (by rw [cf])) ?_), _, _, _, _, _, rfl⟩
      simp only [e_app, own_s, own_0, b_some, x_d2, x_tup, x_cons, x_nil, var_s, var_0, List.length_cons, List.length_nil, Nat.zero_add, Nat.reduceLeDiff, if_true, ha]
      rw [if_pos (by rw [List.length_map, List.length_append, List.length_map]; omega)]
      simp only [List.set_cons_succ, List.set_cons_zero, List.filter_append, List.filter_cons, List.filter_nil, if_pos cf, List.map_append, List.map_cons, List.map_nil, List.append_assoc]
    · refine ⟨_, [.dat (encO l), c1, c2, .own ((acc ++ ((done ++ [x]).filter (canF l o)).map fun k => o ++ [k]).map encI), .dat (encI o), .dat (.list ((0 :: wOf l o).map .int)), .dat (.list ((leftOf l o).map .int)), .dat (.int x), .dat (.str (kd (opAt l x.toNat).w)), .dat (.int (opAt l x.toNat).v), .dat (.int (opAt l x.toNat).s), .dat (.int (opAt l x.toNat).e), c12], a_name _ _, ?_, _, _, _, _, _, rfl⟩
      refine (seq_nxs t1 (if_no (cond.trans (by rw [eq_false_of_ne_true cf])))).trans ?_
      rw [List.filter_append, List.filter_cons, if_neg cf, List.filter_nil, List.append_nil])
  exact ⟨c7', c8', c9', c10', c11', e⟩
abbrev HB : Ev → Option Out := (sSeq (sSet 5 (d2 pAdd (dLst (dCons (dC (.int 0)) dNil)) (dLc [7] (dSeqI (dVar 4)) (aName 7) (dT (d2 pEq (d2 pIx (d2 pIx (dVar 0) (dVar 7)) (dC (.int 0))) (dC (.str "write")))) (d2 pIx (d2 pIx (dVar 0) (dVar 7)) (dC (.int 1))))))
    (sSeq (sSet 6 (dLc [7] (dRng (dCons (dB pLen (dCons (dVar 0) dNil)) dNil)) (aName 7) (dT (d2 (pInA true) (dVar 7) (dVar 4))) (dVar 7)))
    (sFor (dSeqI (dVar 6)) (aName 7) HC)))
theorem every_mid {l : List Op} (hl : l.length ≤ 6) (gs : List (List Int)) (hi : ∀ g ∈ gs, InR l g ∧ g.length ≤ 6) (hn : gs.length ≤ 7776) (c1 c2 c4 c5 c6 c7 c8 c9 c10 c11 c12 : Cell) : ∃ c4' c5' c6' c7' c8' c9' c10' c11', forD (aName 4) HB (gs.map encI) [.dat (encO l), c1, c2, .own [], c4, c5, c6, c7, c8, c9, c10, c11, c12] = some (.nx [.dat (encO l), c1, c2, .own ((gs.flatMap (extO l)).map encI), c4', c5', c6', c7', c8', c9', c10', c11', c12]) := by
  obtain ⟨ρ', e, c4', c5', c6', c7', c8', c9', c10', c11', rfl⟩ := for_mapJ (a := aName 4) (F := HB) encI (fun done ρ => ∃ c4 c5 c6 c7 c8 c9 c10 c11, ρ = [.dat (encO l), c1, c2, .own ((done.flatMap (extO l)).map encI), c4, c5, c6, c7, c8, c9, c10, c11, c12]) gs [] [.dat (encO l), c1, c2, .own [], c4, c5, c6, c7, c8, c9, c10, c11, c12] ⟨_, _, _, _, _, _, _, _, rfl⟩ (by
    rintro done o rest ρ er ⟨c4, c5, c6, c7, c8, c9, c10, c11, rfl⟩
    rw [List.nil_append] at er
    have hog : o ∈ gs := by rw [er]; simp
    obtain ⟨ho, hol⟩ := hi o hog
    have hdl : done.length < 7776 := by
      have := congrArg List.length er
      rw [List.length_append, List.length_cons] at this
      omega
    have hfl := flat_len (extO l) 6 done fun g _ => ext_len hl g
    have s0 : asSeq (encI o) = some (o.map .int) := rfl
    obtain ⟨c7', c8', c9', c10', c11', e⟩ := every_in hl ho hol c1 c2 (done.flatMap (extO l)) (by omega) c7 c8 c9 c10 c11 c12
    have ed : (done ++ [o]).flatMap (extO l) = done.flatMap (extO l) ++ extO l o := by rw [List.flatMap_append]; simp
    refine ⟨_, _, a_name _ _, seq_nxs (set_of (d := .list ((0 :: wOf l o).map .int)) ?_) (seq_nxs (set_of (d := .list ((leftOf l o).map .int)) ?_) ?_), .dat (encI o), .dat (.list ((0 :: wOf l o).map .int)), .dat (.list ((leftOf l o).map .int)), c7', c8', c9', c10', c11', rfl⟩
    · simp only [sD_cons, sD_nil, x_d2, x_lst, x_cons, x_nil, x_C, x_lc, x_SeqI, List.set_cons_succ, List.set_cons_zero, var_s, var_0, b_some, s0]
      rw [comp1 PyData.int (fun i => (opAt l i.toNat).w) (fun i => .int (opAt l i.toNat).v)]
      · rw [if_pos (by decide), b_some, m_some, b_some]
        have hw : (wOf l o).length ≤ o.length := by unfold wOf; rw [List.length_map]; exact List.length_filter_le _ _
        have e : ((o.filter fun i => (opAt l i.toNat).w).map fun i => PyData.int (opAt l i.toNat).v) = (wOf l o).map .int := by rw [wOf, List.map_map]; rfl
        rw [e, addL _ _ (by simp; omega)]
        rfl
      · rfl
      · intro i hi
        have h := ho i hi
        have hx := ix_opI h.1 h.2
        simp [hx]
    · have pr : pRng [.int ((l.length : Nat) : Int)] = some (rngD 0 l.length) := pRng1 _ (by omega)
      simp only [sD_cons, sD_nil, x_lc, x_Rng, x_cons, x_B, x_nil, List.set_cons_succ, List.set_cons_zero, var_s, var_0, b_some, len_encO, pr, rngI]
      rw [comp1 PyData.int (fun x => !decide (x ∈ o)) PyData.int]
      · rfl
      · rfl
      · intro x hx
        simp [encI]
    · simp only [sD_cons, sD_nil, e_for, x_SeqI, List.set_cons_succ, List.set_cons_zero, var_s, var_0, b_some, asSeq_l]
      rw [ed]
      exact e)
  exact ⟨c4', c5', c6', c7', c8', c9', c10', c11', e⟩
theorem law_every_ok {l : List Op} (hl : l.length ≤ 6) : m__law_every [encO l] = some (.list ((expls l).map encI)) := by
  obtain ⟨ρ', e, c2, c3, c4, c5, c6, c7, c8, c9, c10, c11, rfl⟩ := for_rng (a := aName 2) (F := (sSeq (sOwn 3 (fLst dNil)) (sSeq (sFor (dSeqI (dVar 1)) (aName 4) HB) (sMove 1 3)))) l.length
    (fun i ρ => ∃ c2 c3 c4 c5 c6 c7 c8 c9 c10 c11, ρ = [.dat (encO l), .dat (.list ((iterO l i [[]]).map encI)), c2, c3, c4, c5, c6, c7, c8, c9, c10, c11, .no])
    [.dat (encO l), .dat (.list [.tuple []]), .no, .no, .no, .no, .no, .no, .no, .no, .no, .no, .no] ⟨_, _, _, _, _, _, _, _, _, _, rfl⟩ (by
      rintro i ρ hi ⟨c2, c3, c4, c5, c6, c7, c8, c9, c10, c11, rfl⟩
      have hpow := iter_many hl i
      have hpow2 : 6 ^ i ≤ 6 ^ 5 := Nat.pow_le_pow_right (by decide) (by omega)
      have h65 : 6 ^ 5 = 7776 := rfl
      obtain ⟨c4', c5', c6', c7', c8', c9', c10', c11', e⟩ := every_mid hl (iterO l i [[]]) (fun g hg => ⟨iter_in i [[]] (by intro g hg; simp at hg; subst hg; intro k hk; simp at hk) g hg, by have := iter_len1 i [[]] 0 (by intro g hg; simp at hg; subst hg; rfl) g hg; omega⟩) (by omega)
        (.dat (.list ((iterO l i [[]]).map encI))) (.dat (.int (i : Nat))) c4 c5 c6 c7 c8 c9 c10 c11 .no
      refine ⟨_, [.dat (encO l), .dat (.list ((iterO l (i + 1) [[]]).map encI)), .dat (.int (i : Nat)), .no, c4', c5', c6', c7', c8', c9', c10', c11', .no], a_name _ _, seq_nxs (ρ' := [.dat (encO l), .dat (.list ((iterO l i [[]]).map encI)), .dat (.int (i : Nat)), .own [], c4, c5, c6, c7, c8, c9, c10, c11, .no]) (by simp) (seq_nxs (ρ' := [.dat (encO l), .dat (.list ((iterO l i [[]]).map encI)), .dat (.int (i : Nat)), .own (((iterO l i [[]]).flatMap (extO l)).map encI), c4', c5', c6', c7', c8', c9', c10', c11', .no]) ?_ ?_), _, _, _, _, _, _, _, _, _, _, rfl⟩
      · simp only [e_for, x_SeqI, var_s, var_0, b_some, asSeq_l]
        exact e
      · rw [iter_succ]
        rfl)
  have pr : pRng [.int ((l.length : Nat) : Int)] = some (rngD 0 l.length) := pRng1 _ (by omega)
  simp only [m__law_every, e_fn, b__law_every]
  refine seq_nx (set_of (d := .list [.tuple []]) (by simp)) (seq_nx (ρ' := [.dat (encO l), .dat (.list ((iterO l l.length [[]]).map encI)), c2, c3, c4, c5, c6, c7, c8, c9, c10, c11, .no]) ?_ (ret_end ?_))
  · simp only [e_for, x_Rng, x_cons, x_B, x_nil, e_start1, rep_s, rep_0, List.set_cons_succ, List.set_cons_zero, var_s, var_0, b_some, len_encO, pr]
    exact e
  · rw [expls_iter hl]
    simp
end CS
/-! M19: places and sure pairs. -/
namespace CS
open PySem
def ix : List Int → Int → Nat
  | [], _ => 0
  | x :: xs, k => if x = k then 0 else ix xs k + 1
theorem ix_data : ∀ {o : List Int} {k : Int}, k ∈ o → idxD (.int k) (o.map .int) = some (ix o k)
  | [], k, h => by simp at h
  | x :: xs, k, h => by
    rw [List.map_cons, idxD, eqv_int, ix]
    by_cases c : x = k
    · rw [if_pos (by simpa using c), if_pos c]
    · have hm : k ∈ xs := by
        rcases List.mem_cons.mp h with z | z
        · exact absurd z.symm c
        · exact z
      rw [if_neg (by simpa using c), if_neg c, ix_data hm]
      rfl
theorem t_index {o : List Int} {k : Int} (h : k ∈ o) : pTIndex (encI o) (.int k) = some (.int ((ix o k : Nat) : Int)) := by
  show (if SeqAt.shaped (.list (o.map PyData.int)) = true ∧ SeqAt.shaped (.int k) = true then (idxD (.int k) (o.map .int)).map fun j => PyData.int (j : Nat) else none) = _
  rw [if_pos ⟨shaped_ints o, shaped_int k⟩, ix_data h]
  rfl
theorem ix_get : ∀ {o : List Int} {k : Int}, k ∈ o → o[ix o k]? = some k
  | [], k, h => by simp at h
  | x :: xs, k, h => by
    rw [ix]
    by_cases c : x = k
    · rw [if_pos c, c]; rfl
    · have hm : k ∈ xs := by
        rcases List.mem_cons.mp h with z | z
        · exact absurd z.symm c
        · exact z
      rw [if_neg c, List.getElem?_cons_succ]
      exact ix_get hm
theorem ix_lt {o : List Int} {k : Int} (h : k ∈ o) : ix o k < o.length := (List.getElem?_eq_some_iff.mp (ix_get h)).1
theorem ix_inj {o : List Int} {a b : Int} (ha : a ∈ o) (hb : b ∈ o) (e : ix o a = ix o b) : a = b := by
  have h1 := ix_get ha
  rw [e, ix_get hb] at h1
  exact (Option.some.inj h1).symm
theorem ix_at : ∀ {p s : List Int} {k : Int}, k ∉ p → ix (p ++ k :: s) k = p.length
  | [], s, k, _ => by rw [List.nil_append, ix, if_pos rfl]; rfl
  | x :: p, s, k, h => by
    have hx : ¬ x = k := fun z => h (by rw [z]; exact List.mem_cons_self ..)
    rw [List.cons_append, ix, if_neg hx, ix_at fun z => h (List.mem_cons_of_mem _ z), List.length_cons]
/-- who precedes has the smaller place -/
theorem ix_before {l : List Op} {r : List Int} (h : r ∈ expls l) {a b : Int} (ha : 0 ≤ a ∧ a < l.length) (hb : 0 ≤ b ∧ b < l.length) (hab : (opAt l a.toNat).before (opAt l b.toNat) = true) : ix r a < ix r b := by
  obtain ⟨p, q, s, e⟩ := expls_before h ha hb hab
  have nd := expls_nodup h
  rw [e] at nd
  have e1 : r = p ++ a :: (q ++ b :: s) := by rw [e]; simp
  have h1 : a ∉ p := by
    rw [show p ++ a :: q ++ b :: s = p ++ (a :: (q ++ b :: s)) by simp, List.nodup_append] at nd
    exact fun z => nd.2.2 a z a (List.mem_cons_self ..) rfl
  have h2 : b ∉ p ++ a :: q := by
    rw [List.nodup_append] at nd
    exact fun z => nd.2.2 b z b (List.mem_cons_self ..) rfl
  rw [e1, ix_at h1, show p ++ a :: (q ++ b :: s) = (p ++ a :: q) ++ b :: s by simp, ix_at h2]
  simp
def hereOf (l : List Op) (k : Int) : List Int := (expls l).map fun o => ((ix o k : Nat) : Int)
def plF (l : List Op) (k : Int) : Int × Int := (minI (hereOf l k), maxI (hereOf l k))
def plOf (l : List Op) (n : Nat) : List (Int × Int) := (nums n).map (plF l)
theorem nums_succ (n : Nat) : nums (n + 1) = nums n ++ [((n : Nat) : Int)] := by
  unfold nums; rw [List.range_succ, List.map_append]; rfl
theorem min_l (xs : List Int) (h : xs ≠ []) : pMin [.list (xs.map .int)] = some (.int (minI xs)) := by
  show ((intsOf (xs.map .int)).bind fun ns => if ns ≠ [] then some (PyData.int (minI ns)) else none) = _
  rw [intsOf_map, b_some, if_pos h]
theorem max_l (xs : List Int) (h : xs ≠ []) : pMax [.list (xs.map .int)] = some (.int (maxI xs)) := by
  show ((intsOf (xs.map .int)).bind fun ns => if ns ≠ [] then some (PyData.int (maxI ns)) else none) = _
  rw [intsOf_map, b_some, if_pos h]
theorem tru_expls (l : List Op) : pTru (.list ((expls l).map encI)) = some (!(expls l).isEmpty) := by rw [t_list, map_empty]
theorem here_lc {l : List Op} {k : Int} (hk : 0 ≤ k ∧ k < l.length) {i j : Nat} {ρ : Ev} (h1 : dVar i (List.set (wipeD ρ [j]) j (.dat .none)) = some (.int k)) : True := trivial
theorem places_ok {l : List Op} (hs : storyOk l = true) : m_places [encO l] = some (if expls l = [] then .error 4 else .ok (.list ((plOf l l.length).map enc2))) := by
  have hl := storyOk_len hs
  have ex := explanations_all hl
  simp only [m_places, e_fnX, b_places]
  refine seq_nx (ρ' := [.dat (encO l), .no, .no, .no, .no, .no]) (by simp [check_ok hs]) (seq_nx (set_of (d := .list ((expls l).map encI)) (by simp [ex])) ?_)
  by_cases c : expls l = []
  · rw [if_pos c]
    have : sIf (dNotT (dTru (dVar 1))) (sRaise 4) sNext (List.set [.dat (encO l), .no, .no, .no, .no, .no] 1 (.dat (.list ((expls l).map encI)))) = some (.xc 4 (List.set [.dat (encO l), .no, .no, .no, .no, .no] 1 (.dat (.list ((expls l).map encI))))) :=
      if_yes (by simp [c]) rfl
    rw [e_seq, this]
    rfl
  · rw [if_neg c]
    have hne : ∀ k, hereOf l k ≠ [] := fun k z => c (by unfold hereOf at z; simpa using z)
    obtain ⟨ρ', e, c3, c4, rfl⟩ := for_rng (a := aName 3) (F := (sSeq (sSet 4 (dLc [5] (dSeqI (dVar 1)) (aName 5) dYes (d2 pTIndex (dVar 5) (dVar 3)))) (sApp 2 (dTup (dCons (dB pMin (dCons (dVar 4) dNil)) (dCons (dB pMax (dCons (dVar 4) dNil)) dNil)))))) l.length
      (fun i ρ => ∃ c3 c4, ρ = [.dat (encO l), .dat (.list ((expls l).map encI)), .own ((plOf l i).map enc2), c3, c4, .no])
      [.dat (encO l), .dat (.list ((expls l).map encI)), .own [], .no, .no, .no] ⟨_, _, rfl⟩ (by
        rintro i ρ hi ⟨c3, c4, rfl⟩
        have hz : (plOf l i).length < 65536 := by unfold plOf; rw [List.length_map, nums_len]; omega
        refine ⟨_, [.dat (encO l), .dat (.list ((expls l).map encI)), .own ((plOf l (i + 1)).map enc2), .dat (.int (i : Nat)), .dat (.list ((hereOf l (i : Nat)).map .int)), .no], a_name _ _, seq_nxs (set_of (d := .list ((hereOf l (i : Nat)).map .int)) ?_) ?_, _, _, rfl⟩
        · simp only [sD_cons, sD_nil, List.set_cons_succ, List.set_cons_zero, x_lc, x_SeqI, var_s, var_0, b_some, asSeq_l]
          rw [comp1 encI (fun _ => true) (fun o => .int ((ix o (i : Nat) : Nat) : Int))]
          · rw [filter_tt, m_some, hereOf, List.map_map]; rfl
          · rfl
          · intro o ho
            have := t_index (k := ((i : Nat) : Int)) ((expls_mem ho _).mpr (by omega))
            simp [this]
        · simp only [sD_cons, sD_nil, List.set_cons_succ, List.set_cons_zero, e_app, own_s, own_0, b_some, x_tup, x_cons, x_B, x_nil, var_s, var_0, min_l _ (hne _), max_l _ (hne _), List.length_cons, List.length_nil, Nat.zero_add, Nat.reduceAdd, Nat.reduceLeDiff, if_true, List.length_map, if_pos hz]
          unfold plOf
          rw [nums_succ, List.map_append, List.map_append]
          rfl)
    have pr : pRng [.int ((l.length : Nat) : Int)] = some (rngD 0 l.length) := pRng1 _ (by omega)
    refine seq_nx (if_no ?_) (seq_nx (ρ' := [.dat (encO l), .dat (.list ((expls l).map encI)), .own [], .no, .no, .no]) (by simp) (seq_nx (ρ' := [.dat (encO l), .dat (.list ((expls l).map encI)), .own ((plOf l l.length).map enc2), c3, c4, .no]) ?_ ?_))
    · have := tru_expls l
      simp [c]
    · simp only [e_for, x_Rng, x_cons, x_B, x_nil, var_s, var_0, b_some, len_encO, pr]
      exact e
    · simp
/-! sure pairs -/
def sureB (l : List Op) (a b : Int) : Bool := !decide (a = b) && !(expls l).any fun o => decide (ix o b < ix o a)
def sureRow (l : List Op) (a : Int) : List (Int × Int) := ((nums l.length).filter (sureB l a)).map fun b => (a, b)
def sureOf (l : List Op) : List (Int × Int) := (nums l.length).flatMap (sureRow l)
end CS
/-! M20: sure pairs. -/
namespace CS
open PySem
theorem eqv_prs : ∀ a b : List (Int × Int), PyData.eqvAll (a.map enc2) (b.map enc2) = decide (a = b)
  | [], [] => rfl
  | [], _ :: _ => rfl
  | _ :: _, [] => rfl
  | (x, x') :: a, (y, y') :: b => by
    rw [List.map_cons, List.map_cons, PyData.eqvAll, eqv_prs a b]
    have e : PyData.eqv (enc2 (x, x')) (enc2 (y, y')) = (x == y && x' == y') := by
      simp [enc2, PyData.eqv, PyData.eqvAll]
    rw [e]
    by_cases h1 : x = y <;> by_cases h2 : x' = y' <;> by_cases h3 : a = b <;> simp [h1, h2, h3]
theorem shaped_prs (l : List (Int × Int)) : SeqAt.shaped (.list (l.map enc2)) = true := by
  have h1 : PyData.canLayAll0 (l.map enc2) = true := by
    induction l with
    | nil => rfl
    | cons x l ih => rw [List.map_cons, PyData.canLayAll0, ih]; simp [enc2, PyData.canLay0, PyData.canLayAll0]
  have h2 : PyData.depthAll (l.map enc2) ≤ 1 := by
    induction l with
    | nil => decide
    | cons x l ih => 
      have := ih (by
        rw [List.map_cons, PyData.canLayAll0, Bool.and_eq_true] at h1; exact h1.2)
      rw [List.map_cons, PyData.depthAll]
      have e : (enc2 x).depth = 1 := by simp [enc2, PyData.depth, PyData.depthAll]
      omega
  unfold SeqAt.shaped
  rw [PyData.canLay0, h1, PyData.depth]
  simp; omega
theorem ne_prs (a b : List (Int × Int)) : pNe (.list (a.map enc2)) (.list (b.map enc2)) = some (.bool (!decide (a = b))) :=
  p_ned (by rw [shaped_prs, shaped_prs]; rfl) (by unfold PyData.eqv; exact eqv_prs a b)
theorem eq_prs (a b : List (Int × Int)) : pEq (.list (a.map enc2)) (.list (b.map enc2)) = some (.bool (decide (a = b))) :=
  p_eqd (by rw [shaped_prs, shaped_prs]; rfl) (by unfold PyData.eqv; exact eqv_prs a b)
theorem shaped_lli (l : List (List Int)) : SeqAt.shaped (.list (l.map encI)) = true := by
  have h1 : PyData.canLayAll0 (l.map encI) = true := by
    induction l with
    | nil => rfl
    | cons x l ih => rw [List.map_cons, PyData.canLayAll0, ih, encI, PyData.canLay0, canLay_ints]; rfl
  have h2 : PyData.depthAll (l.map encI) ≤ 1 := by
    clear h1
    induction l with
    | nil => decide
    | cons x l ih =>
      rw [List.map_cons, PyData.depthAll, encI, PyData.depth, W.depth_ints]
      omega
  unfold SeqAt.shaped
  rw [PyData.canLay0, h1, PyData.depth]
  simp; omega
theorem eq_nil_x (l : List (List Int)) : pEq (.list (l.map encI)) (.list []) = some (.bool l.isEmpty) := by
  refine p_eqd (by rw [shaped_lli]; rfl) ?_
  unfold PyData.eqv
  cases l <;> rfl
theorem sure_cond {l : List Op} {a b : Int} (ha : 0 ≤ a ∧ a < l.length) (hb : 0 ≤ b ∧ b < l.length) (c2 : Cell) (h2 : True) : (dAndT (dT (d2 pNe (dVar 3) (dVar 4))) (dNotT (dTru (dLc [5] (dSeqI (dVar 1)) (aName 5) (dT (d2 pGt (d2 pTIndex (dVar 5) (dVar 3)) (d2 pTIndex (dVar 5) (dVar 4)))) (dVar 5))))) [.dat (encO l), .dat (.list ((expls l).map encI)), c2, .dat (.int a), .dat (.int b), .no] = some (sureB l a b) := by
  have hlc : (dLc [5] (dSeqI (dVar 1)) (aName 5) (dT (d2 pGt (d2 pTIndex (dVar 5) (dVar 3)) (d2 pTIndex (dVar 5) (dVar 4)))) (dVar 5)) [.dat (encO l), .dat (.list ((expls l).map encI)), c2, .dat (.int a), .dat (.int b), .no] = some (.list (((expls l).filter fun o => decide (ix o b < ix o a)).map encI)) := by
    simp only [x_lc, x_SeqI, var_s, var_0, b_some, asSeq_l]
    rw [comp1 encI (fun o => decide (ix o b < ix o a)) encI]
    · rfl
    · rfl
    · intro o ho
      have h1 := t_index (k := a) ((expls_mem ho _).mpr ha)
      have h2 := t_index (k := b) ((expls_mem ho _).mpr hb)
      simp [h1, h2]
  rw [x_AndT, x_NotT, x_Tru, hlc, b_some, t_list, map_empty, filter_empty]
  simp only [x_T, x_d2, var_s, var_0, b_some, p_nei, asB_b, Bool.not_not, kAnd_b]
  unfold sureB
  congr 1
theorem sure_inner {l : List Op} (hl : l.length ≤ 6) {a : Int} (ha : 0 ≤ a ∧ a < l.length) (acc : List (Int × Int)) (hacc : acc.length ≤ 1000) (c4 : Cell) : ∃ c4', forD (aName 4) (sIf (dAndT (dT (d2 pNe (dVar 3) (dVar 4))) (dNotT (dTru (dLc [5] (dSeqI (dVar 1)) (aName 5) (dT (d2 pGt (d2 pTIndex (dVar 5) (dVar 3)) (d2 pTIndex (dVar 5) (dVar 4)))) (dVar 5))))) (sApp 2 (dTup (dCons (dVar 3) (dCons (dVar 4) dNil)))) sNext) (rngD 0 l.length)
      [.dat (encO l), .dat (.list ((expls l).map encI)), .own (acc.map enc2), .dat (.int a), c4, .no] = some (.nx [.dat (encO l), .dat (.list ((expls l).map encI)), .own ((acc ++ sureRow l a).map enc2), .dat (.int a), c4', .no]) := by
  obtain ⟨ρ', e, c4', rfl⟩ := for_rng (a := aName 4) (F := (sIf (dAndT (dT (d2 pNe (dVar 3) (dVar 4))) (dNotT (dTru (dLc [5] (dSeqI (dVar 1)) (aName 5) (dT (d2 pGt (d2 pTIndex (dVar 5) (dVar 3)) (d2 pTIndex (dVar 5) (dVar 4)))) (dVar 5))))) (sApp 2 (dTup (dCons (dVar 3) (dCons (dVar 4) dNil)))) sNext)) l.length
    (fun i ρ => ∃ c4, ρ = [.dat (encO l), .dat (.list ((expls l).map encI)), .own ((acc ++ ((nums i).filter (sureB l a)).map fun b => (a, b)).map enc2), .dat (.int a), c4, .no])
    [.dat (encO l), .dat (.list ((expls l).map encI)), .own (acc.map enc2), .dat (.int a), c4, .no] ⟨c4, by simp [nums]⟩ (by
      rintro i ρ hi ⟨c4, rfl⟩
      have hc := sure_cond (l := l) (a := a) (b := ((i : Nat) : Int)) ha (by omega) (vw (.own ((acc ++ ((nums i).filter (sureB l a)).map fun b => (a, b)).map enc2))) trivial
      have hfl := List.length_filter_le (sureB l a) (nums i)
      rw [nums_len] at hfl
      refine ⟨_, [.dat (encO l), .dat (.list ((expls l).map encI)), .own ((acc ++ ((nums (i + 1)).filter (sureB l a)).map fun b => (a, b)).map enc2), .dat (.int a), .dat (.int (i : Nat)), .no], a_name _ _, ?_, _, rfl⟩
      by_cases c : sureB l a (i : Nat) = true
      · refine if_yes (hc.trans (by rw [c])) ?_
        simp only [sD_cons, sD_nil, List.set_cons_succ, List.set_cons_zero, e_app, own_s, own_0, b_some, x_tup, x_cons, x_nil, var_s, var_0, List.length_cons, List.length_nil, Nat.zero_add, Nat.reduceAdd, Nat.reduceLeDiff, if_true]
        rw [if_pos (by rw [List.length_map, List.length_append, List.length_map]; omega), nums_succ, List.filter_append, List.filter_cons, if_pos c]
        simp [enc2]
      · refine (if_no (hc.trans (by rw [eq_false_of_ne_true c]))).trans ?_
        rw [nums_succ, List.filter_append, List.filter_cons, if_neg c, List.filter_nil, List.append_nil]
        rfl)
  exact ⟨c4', e⟩
theorem sureRow_len (l : List Op) (a : Int) : (sureRow l a).length ≤ l.length := by
  unfold sureRow
  rw [List.length_map]
  exact Nat.le_trans (List.length_filter_le _ _) (by rw [nums_len]; exact Nat.le_refl _)
theorem sure_ok {l : List Op} (hs : storyOk l = true) (hne : expls l ≠ []) : m_sure_pairs [encO l] = some (.ok (.list ((sureOf l).map enc2))) := by
  have hl := storyOk_len hs
  have ex := explanations_all hl
  have pr : pRng [.int ((l.length : Nat) : Int)] = some (rngD 0 l.length) := pRng1 _ (by omega)
  simp only [m_sure_pairs, e_fnX, b_sure_pairs]
  obtain ⟨ρ', e, c3, c4, rfl⟩ := for_rng (a := aName 3) (F := (sFor (dRng (dCons (dB pLen (dCons (dVar 0) dNil)) dNil)) (aName 4) (sIf (dAndT (dT (d2 pNe (dVar 3) (dVar 4))) (dNotT (dTru (dLc [5] (dSeqI (dVar 1)) (aName 5) (dT (d2 pGt (d2 pTIndex (dVar 5) (dVar 3)) (d2 pTIndex (dVar 5) (dVar 4)))) (dVar 5))))) (sApp 2 (dTup (dCons (dVar 3) (dCons (dVar 4) dNil)))) sNext))) l.length
    (fun i ρ => ∃ c3 c4, ρ = [.dat (encO l), .dat (.list ((expls l).map encI)), .own (((nums i).flatMap (sureRow l)).map enc2), c3, c4, .no])
    [.dat (encO l), .dat (.list ((expls l).map encI)), .own [], .no, .no, .no] ⟨_, _, rfl⟩ (by
      rintro i ρ hi ⟨c3, c4, rfl⟩
      have hfl := flat_len (sureRow l) 6 (nums i) fun x _ => Nat.le_trans (sureRow_len l x) hl
      rw [nums_len] at hfl
      obtain ⟨c4', e⟩ := sure_inner hl (a := ((i : Nat) : Int)) (by omega) ((nums i).flatMap (sureRow l)) (by omega) c4
      refine ⟨_, [.dat (encO l), .dat (.list ((expls l).map encI)), .own (((nums (i + 1)).flatMap (sureRow l)).map enc2), .dat (.int (i : Nat)), c4', .no], a_name _ _, ?_, _, _, rfl⟩
      simp only [sD_cons, sD_nil, List.set_cons_succ, List.set_cons_zero, e_for, x_Rng, x_cons, x_B, x_nil, var_s, var_0, b_some, len_encO, pr]
      rw [nums_succ, List.flatMap_append, List.flatMap_cons, List.flatMap_nil, List.append_nil]
      exact e)
  refine seq_nx (ρ' := [.dat (encO l), .no, .no, .no, .no, .no]) (by simp [check_ok hs]) (seq_nx (set_of (d := .list ((expls l).map encI)) (by simp [ex])) (seq_nx (if_no ?_) (seq_nx (ρ' := [.dat (encO l), .dat (.list ((expls l).map encI)), .own [], .no, .no, .no]) (by simp) (seq_nx (ρ' := [.dat (encO l), .dat (.list ((expls l).map encI)), .own ((sureOf l).map enc2), c3, c4, .no]) ?_ ?_))))
  · simp [hne]
  · simp only [e_for, x_Rng, x_cons, x_B, x_nil, var_s, var_0, b_some, len_encO, pr]
    exact e
  · simp
/-! how many are sure -/
theorem count_lt {α : Type} {A : List α} (f : α → Int) {m : Nat} (nd : A.Nodup) (inj : ∀ x ∈ A, ∀ y ∈ A, f x = f y → x = y) (h : ∀ x ∈ A, 0 ≤ f x ∧ f x < m) : A.length ≤ m := by
  have nd2 := nodup_map_on nd inj
  have := free_len (nums m) (A.map f) nd2
  have e : (A.map f).filter (fun x => !decide (x ∈ nums m)) = [] := by
    rw [List.filter_eq_nil_iff]
    intro x hx
    obtain ⟨y, hy, rfl⟩ := List.mem_map.mp hx
    have := nums_mem.mpr (h y hy)
    simp [this]
  rw [e, nums_len, List.length_map] at this
  simpa using this
theorem sure_lt {l : List Op} {a b : Int} (ha : 0 ≤ a ∧ a < l.length) (hb : 0 ≤ b ∧ b < l.length) (h : sureB l a b = true) {o : List Int} (ho : o ∈ expls l) : ix o a < ix o b := by
  unfold sureB at h
  simp only [Bool.and_eq_true, Bool.not_eq_true', decide_eq_false_iff_not, List.any_eq_false, decide_eq_true_eq] at h
  have h1 := h.2 o ho
  have h2 : ix o a ≠ ix o b := fun z => h.1 (ix_inj ((expls_mem ho a).mpr ha) ((expls_mem ho b).mpr hb) z)
  omega
def befOf (l : List Op) (k : Int) : List Int := (nums l.length).filter fun a => sureB l a k
def aftOf (l : List Op) (k : Int) : List Int := (nums l.length).filter (sureB l k)
theorem bef_eq {l : List Op} {k : Int} (hk : 0 ≤ k ∧ k < l.length) : ((sureOf l).filter fun p => decide (p.2 = k)).map (·.1) = befOf l k := by
  unfold sureOf befOf
  have hk2 := nums_mem.mpr hk
  have key : ∀ as : List Int, ((as.flatMap (sureRow l)).filter fun p => decide (p.2 = k)).map (·.1) = as.filter fun a => sureB l a k := by
    intro as
    induction as with
    | nil => rfl
    | cons a as ih =>
      rw [List.flatMap_cons, List.filter_append, List.map_append, ih, List.filter_cons]
      have e : ((sureRow l a).filter fun p => decide (p.2 = k)).map (·.1) = if sureB l a k = true then [a] else [] := by
        unfold sureRow
        rw [List.filter_map, List.filter_filter, List.map_map]
        have e1 : ((nums l.length).filter fun x => ((fun p : Int × Int => decide (p.2 = k)) ∘ fun b => (a, b)) x && sureB l a x) = ((nums l.length).filter fun x => decide (x = k)).filter (sureB l a) := by
          rw [List.filter_filter]
          congr 1
          funext x
          rw [Bool.and_comm]; rfl
        rw [e1]
        have e2 : (nums l.length).filter (fun x => decide (x = k)) = [k] := by
          have hp : ((nums l.length).filter fun x => decide (x = k)).Perm [k] := by
            rw [List.perm_ext_iff_of_nodup ((nums_nodup _).filter _) (by simp)]
            intro x
            rw [List.mem_filter]
            simp
            intro h; subst h; exact hk2
          exact List.perm_singleton.mp hp
        rw [e2, List.filter_cons]
        by_cases c : sureB l a k = true
        · rw [if_pos c, if_pos c]; rfl
        · rw [if_neg c, if_neg c]; rfl
      rw [e]
      by_cases c : sureB l a k = true
      · rw [if_pos c, if_pos c]; rfl
      · rw [if_neg c, if_neg c]; rfl
  exact key _
theorem aft_eq {l : List Op} {k : Int} (hk : 0 ≤ k ∧ k < l.length) : ((sureOf l).filter fun p => decide (p.1 = k)).map (·.2) = aftOf l k := by
  unfold sureOf aftOf
  have hk2 := nums_mem.mpr hk
  have key : ∀ as : List Int, as.Nodup → ((as.flatMap (sureRow l)).filter fun p => decide (p.1 = k)).map (·.2) = if k ∈ as then (nums l.length).filter (sureB l k) else [] := by
    intro as
    induction as with
    | nil => intro _; rfl
    | cons a as ih =>
      intro nd
      rw [List.nodup_cons] at nd
      rw [List.flatMap_cons, List.filter_append, List.map_append, ih nd.2]
      by_cases c : a = k
      · subst c
        have e : ((sureRow l a).filter fun p => decide (p.1 = a)).map (·.2) = (nums l.length).filter (sureB l a) := by
          unfold sureRow
          rw [List.filter_map, List.map_map]
          have : ((fun p : Int × Int => decide (p.1 = a)) ∘ fun b => (a, b)) = fun _ => true := by funext b; simp
          rw [this, filter_tt]
          have : ((fun x : Int × Int => x.2) ∘ fun b => (a, b)) = id := by funext b; rfl
          rw [this, List.map_id]
        rw [e, if_neg nd.1, if_pos (List.mem_cons_self ..), List.append_nil]
      · have e : ((sureRow l a).filter fun p => decide (p.1 = k)).map (·.2) = [] := by
          unfold sureRow
          rw [List.filter_map, List.map_map]
          have : ((fun p : Int × Int => decide (p.1 = k)) ∘ fun b => (a, b)) = fun _ => false := by funext b; simp [c]
          rw [this]
          simp
        rw [e, List.nil_append]
        have : (k ∈ a :: as) = (k ∈ as) := by
          rw [List.mem_cons]
          exact propext ⟨fun z => z.elim (fun z => absurd z.symm c) id, .inr⟩
        simp only [this]
  rw [key _ (nums_nodup _), if_pos hk2]
theorem bef_len {l : List Op} {k : Int} (hk : 0 ≤ k ∧ k < l.length) {o : List Int} (ho : o ∈ expls l) : (befOf l k).length ≤ ix o k := by
  refine count_lt (fun a => ((ix o a : Nat) : Int)) ((nums_nodup _).filter _) (fun x hx y hy e => ?_) (fun x hx => ?_)
  · have h1 := nums_mem.mp (List.mem_filter.mp hx).1
    have h2 := nums_mem.mp (List.mem_filter.mp hy).1
    exact ix_inj ((expls_mem ho x).mpr h1) ((expls_mem ho y).mpr h2) (by omega)
  · have h1 := nums_mem.mp (List.mem_filter.mp hx).1
    have := sure_lt h1 hk (List.mem_filter.mp hx).2 ho
    omega
theorem aft_len {l : List Op} {k : Int} (hk : 0 ≤ k ∧ k < l.length) {o : List Int} (ho : o ∈ expls l) : (aftOf l k).length + ix o k + 1 ≤ l.length := by
  have hlt := ix_lt ((expls_mem ho k).mpr hk)
  rw [expls_len1 ho] at hlt
  have := count_lt (A := aftOf l k) (m := l.length - 1 - ix o k) (fun a => ((ix o a : Nat) : Int) - ((ix o k : Nat) : Int) - 1) ((nums_nodup _).filter _) (fun x hx y hy e => ?_) (fun x hx => ?_)
  · omega
  · have h1 := nums_mem.mp (List.mem_filter.mp hx).1
    have h2 := nums_mem.mp (List.mem_filter.mp hy).1
    exact ix_inj ((expls_mem ho x).mpr h1) ((expls_mem ho y).mpr h2) (by omega)
  · have h1 := nums_mem.mp (List.mem_filter.mp hx).1
    have := sure_lt hk h1 (List.mem_filter.mp hx).2 ho
    have h3 := ix_lt ((expls_mem ho x).mpr h1)
    rw [expls_len1 ho] at h3
    omega
end CS
/-! M22: answers, candidates. -/
namespace CS
open PySem
abbrev Ans := Int × Int × Bool
def encA (a : Ans) : PyData := .tuple [.int a.1, .int a.2.1, .bool a.2.2]
def ansOk (l : List Op) (a : Ans) : Prop := (0 ≤ a.1 ∧ a.1 < l.length) ∧ (0 ≤ a.2.1 ∧ a.2.1 < l.length) ∧ a.1 ≠ a.2.1
def agreeB (as : List Ans) (o : List Int) : Bool := !as.any fun a => decide (ix o a.1 < ix o a.2.1) != a.2.2
def candF (l : List Op) (as : List Ans) : List (List Int) := (expls l).filter (agreeB as)
theorem ne_boolA (a b : Bool) : pNe (.bool a) (.bool b) = some (.bool (a != b)) := p_ned (by rfl) (by unfold PyData.eqv; rfl)
theorem check_answers_ok {l : List Op} (hs : storyOk l = true) (hne : expls l ≠ []) {as : List Ans} (ha : ∀ a ∈ as, ansOk l a) : m_check_answers [encO l, .tuple (as.map encA)] = some (.ok .none) := by
  have hl := storyOk_len hs
  have hx : m_explanations_of [encO l, .int 1] = some (.list (((expls l).take 1).map encI)) := explanations_ok hl (most := 1) (by decide) (by decide)
  have he : (((expls l).take 1).map encI).isEmpty = false := by
    rw [map_empty]
    cases e : expls l with
    | nil => exact absurd e hne
    | cons _ _ => rfl
  obtain ⟨ρ', e, c2, rfl⟩ : ∃ ρ', forD (aName 2) (sSeq (sIf (dOrT (dNotT (dTru (dIsi "tuple" (dVar 2)))) (dOrT (dT (d2 pNe (dB pLen (dCons (dVar 2) dNil)) (dC (.int 3)))) (dNotT (dTru (dIsi "bool" (d2 pIx (dVar 2) (dC (.int 2)))))))) (sRaise 3) sNext)
    (sIf (dOrT (dTru (dLc [3] (dSeqI (dSl (dVar 2) dNoPart (dPart (dC (.int 2))))) (aName 3) (dNotT (dTru (dB m_in_range (dCons (dVar 3) (dCons (dC (.int 0)) (dCons (d2 pSub (dB pLen (dCons (dVar 0) dNil)) (dC (.int 1))) dNil)))))) (dVar 3))) (dT (d2 pEq (d2 pIx (dVar 2) (dC (.int 0))) (d2 pIx (dVar 2) (dC (.int 1)))))) (sRaise 3) sNext)) (as.map encA) [.dat (encO l), .dat (.tuple (as.map encA)), .no, .no] = some (.nx ρ') ∧ ∃ c2, ρ' = [.dat (encO l), .dat (.tuple (as.map encA)), c2, .no] := by
    obtain ⟨ρ', e, c2, rfl⟩ := for_mapJ (a := aName 2) (F := (sSeq (sIf (dOrT (dNotT (dTru (dIsi "tuple" (dVar 2)))) (dOrT (dT (d2 pNe (dB pLen (dCons (dVar 2) dNil)) (dC (.int 3)))) (dNotT (dTru (dIsi "bool" (d2 pIx (dVar 2) (dC (.int 2)))))))) (sRaise 3) sNext)
    (sIf (dOrT (dTru (dLc [3] (dSeqI (dSl (dVar 2) dNoPart (dPart (dC (.int 2))))) (aName 3) (dNotT (dTru (dB m_in_range (dCons (dVar 3) (dCons (dC (.int 0)) (dCons (d2 pSub (dB pLen (dCons (dVar 0) dNil)) (dC (.int 1))) dNil)))))) (dVar 3))) (dT (d2 pEq (d2 pIx (dVar 2) (dC (.int 0))) (d2 pIx (dVar 2) (dC (.int 1)))))) (sRaise 3) sNext))) encA (fun _ ρ => ∃ c2, ρ = [.dat (encO l), .dat (.tuple (as.map encA)), c2, .no]) as [] [.dat (encO l), .dat (.tuple (as.map encA)), .no, .no] ⟨_, rfl⟩ (by
      rintro done a rest ρ er ⟨c2, rfl⟩
      rw [List.nil_append] at er
      obtain ⟨h1, h2, h3⟩ := ha a (by rw [er]; simp)
      refine ⟨_, [.dat (encO l), .dat (.tuple (as.map encA)), .dat (encA a), .no], a_name _ _, seq_nxs (if_no ?_) (if_no ?_), _, rfl⟩
      · simp [encA, noDict, isD]
      · have hs2 : pSl (encA a) none (some 2) = some (.tuple ([a.1, a.2.1].map .int)) := rfl
        simp only [sD_cons, sD_nil, List.set_cons_succ, List.set_cons_zero, x_OrT, x_Tru, x_lc, x_SeqI, x_Sl, x_Part, x_noPart, x_C, view, List.map_cons, List.map_nil, v_dat, v_no, var_s, var_0, b_some, asI_i, m_some]
        rw [hs2]
        simp only [b_some, asSeq_t]
        rw [comp1 PyData.int (fun _ => false) PyData.int]
        · simp [encA, h3]
        · rfl
        · intro x hx
          have hxr : 0 ≤ x ∧ x < l.length := by
            simp at hx
            rcases hx with z | z <;> subst z
            · exact h1
            · exact h2
          refine ⟨?_, fun z => by cases z⟩
          simp
          omega)
    exact ⟨_, e, c2, rfl⟩
  simp only [m_check_answers, e_fnX, b_check_answers]
  refine seq_nx (ρ' := [.dat (encO l), .dat (.tuple (as.map encA)), .no, .no]) (by simp [check_ok hs]) (seq_nx (if_no ?_) (seq_nx (if_no ?_) ?_))
  · simp only [x_NotT, x_Tru, x_B, x_cons, x_nil, x_C, view, List.map_cons, List.map_nil, v_dat, v_no, var_s, var_0, b_some, hx, t_list, he]
    rfl
  · simp [noDict, isD]
  · simp only [e_for, x_SeqI, var_s, var_0, b_some, asSeq_t]
    rw [e]
    rfl
theorem candidates_ok {l : List Op} (hs : storyOk l = true) (hne : expls l ≠ []) {as : List Ans} (ha : ∀ a ∈ as, ansOk l a) : m_candidates [encO l, .tuple (as.map encA)] = some (.ok (.list ((candF l as).map encI))) := by
  have hl := storyOk_len hs
  have ch := check_answers_ok hs hne ha
  have ex := explanations_all hl
  have hlen := expls_len hl
  obtain ⟨ρ', e, c3, rfl⟩ := for_mapJ (a := aName 3) (F := (sIf (dNotT (dTru (dLc [4, 5, 6] (dSeqI (dVar 1)) (aTup [4, 5, 6]) (dT (d2 pNe (d2 pLt (d2 pTIndex (dVar 3) (dVar 4)) (d2 pTIndex (dVar 3) (dVar 5))) (dVar 6))) (dVar 4)))) (sApp 2 (dVar 3)) sNext)) encI
    (fun done ρ => ∃ c3, ρ = [.dat (encO l), .dat (.tuple (as.map encA)), .own ((done.filter (agreeB as)).map encI), c3, .no, .no, .no]) (expls l) [] [.dat (encO l), .dat (.tuple (as.map encA)), .own [], .no, .no, .no, .no] ⟨_, rfl⟩ (by
      rintro done o rest ρ er ⟨c3, rfl⟩
      rw [List.nil_append] at er
      have ho : o ∈ expls l := by rw [er]; simp
      have hdl : done.length < 65536 := by
        have := congrArg List.length er
        rw [List.length_append, List.length_cons] at this
        omega
      have hfl := List.length_filter_le (agreeB as) done
      have hc : (dNotT (dTru (dLc [4, 5, 6] (dSeqI (dVar 1)) (aTup [4, 5, 6]) (dT (d2 pNe (d2 pLt (d2 pTIndex (dVar 3) (dVar 4)) (d2 pTIndex (dVar 3) (dVar 5))) (dVar 6))) (dVar 4)))) (view (setD [.dat (encO l), .dat (.tuple (as.map encA)), .own ((done.filter (agreeB as)).map encI), c3, .no, .no, .no] [(3, encI o)])) = some (agreeB as o) := by
        simp only [sD_cons, sD_nil, List.set_cons_succ, List.set_cons_zero, x_NotT, x_Tru, x_lc, x_SeqI, view, List.map_cons, List.map_nil, v_dat, v_own, v_no, var_s, var_0, b_some, asSeq_t]
        rw [compD_map encA (fun a => decide (ix o a.1 < ix o a.2.1) != a.2.2) (fun a => .int a.1)]
        · rw [m_some, b_some, t_list, map_empty, filter_empty, b_some]
          simp [agreeB]
        · rintro ⟨a1, a2, a3⟩ hm
          obtain ⟨h1, h2, h3⟩ := ha _ hm
          have t1 := t_index (k := a1) ((expls_mem ho _).mpr h1)
          have t2 := t_index (k := a2) ((expls_mem ho _).mpr h2)
          refine ⟨[(4, .int a1), (5, .int a2), (6, .bool a3)], rfl, by rfl, ?_, fun _ => by simp⟩
          simp [t1, t2, ne_boolA]
      by_cases c : agreeB as o = true
      · refine ⟨_, [.dat (encO l), .dat (.tuple (as.map encA)), .own (((done ++ [o]).filter (agreeB as)).map encI), .dat (encI o), .no, .no, .no], a_name _ _, if_yes (hc.trans (by rw [c])) ?_, _, rfl⟩
        simp only [sD_cons, sD_nil, List.set_cons_succ, List.set_cons_zero, e_app, own_s, own_0, b_some, var_s, var_0, List.length_map]
        rw [if_pos (by omega), List.filter_append, List.filter_cons, if_pos c]
        simp
      · refine ⟨_, [.dat (encO l), .dat (.tuple (as.map encA)), .own (((done ++ [o]).filter (agreeB as)).map encI), .dat (encI o), .no, .no, .no], a_name _ _, (if_no (hc.trans (by rw [eq_false_of_ne_true c]))).trans ?_, _, rfl⟩
        rw [List.filter_append, List.filter_cons, if_neg c, List.filter_nil, List.append_nil]
        rfl)
  simp only [m_candidates, e_fnX, b_candidates]
  refine seq_nx (ρ' := [.dat (encO l), .dat (.tuple (as.map encA)), .no, .no, .no, .no, .no]) (by simp [ch]) (seq_nx (ρ' := [.dat (encO l), .dat (.tuple (as.map encA)), .own [], .no, .no, .no, .no]) (by simp) (seq_nx (ρ' := [.dat (encO l), .dat (.tuple (as.map encA)), .own ((candF l as).map encI), c3, .no, .no, .no]) ?_ ?_))
  · simp only [e_for, x_SeqI, x_B, x_cons, x_nil, x_C, var_s, var_0, b_some, ex, asSeq_l]
    exact e
  · simp
end CS
/-! M23: the best pair. -/
namespace CS
open PySem
def cntP (F : List (List Int)) (a b : Int) : Nat := (F.filter fun o => decide (ix o a < ix o b)).length
def worstP (F : List (List Int)) (a b : Int) : Int := if ((F.length : Nat) : Int) - cntP F a b > cntP F a b then ((F.length : Nat) : Int) - cntP F a b else cntP F a b
abbrev Best := Option (Int × Int × Int)
def encB : Best → PyData
  | none => .none
  | some p => .tuple [.int p.1, enc2 p.2]
def condB (F : List (List Int)) (best : Best) (a b : Int) : Bool := decide (worstP F a b < (F.length : Nat)) && (match best with | none => true | some p => decide (worstP F a b < p.1))
def stepB (F : List (List Int)) (best : Best) (a b : Int) : Best := if condB F best a b = true then some (worstP F a b, a, b) else best
/-- b from s on -/
def rowB (F : List (List Int)) (a : Int) (best : Best) (bs : List Int) : Best := bs.foldl (fun best b => stepB F best a b) best
def upI (s : Int) (n : Nat) : List Int := (List.range ((n : Int) - s).toNat).map fun i => s + ((i : Nat) : Int)
def bestF (F : List (List Int)) (n : Nat) : Best := (nums n).foldl (fun best a => rowB F a best (upI (a + 1) n)) none
@[simp] theorem isN_B (b : Best) : pIsN false (encB b) .none = some (.bool b.isNone) := by cases b <;> rfl
abbrev KB : Ev → Option Out := (sSeq (sSet 6 (dB pLen (dCons (dLc [8] (dSeqI (dVar 2)) (aName 8) (dT (d2 pLt (d2 pTIndex (dVar 8) (dVar 4)) (d2 pTIndex (dVar 8) (dVar 5)))) (dVar 8)) dNil)))
    (sSeq (sSet 7 (dB pMax (dCons (dVar 6) (dCons (d2 pSub (dB pLen (dCons (dVar 2) dNil)) (dVar 6)) dNil))))
    (sIf (dAndT (dT (d2 pLt (dVar 7) (dB pLen (dCons (dVar 2) dNil)))) (dOrT (dT (d2 (pIsN false) (dVar 3) (dC .none))) (dT (d2 pLt (dVar 7) (d2 pIx (dVar 3) (dC (.int 0))))))) (sSet 3 (dTup (dCons (dVar 7) (dCons (dTup (dCons (dVar 4) (dCons (dVar 5) dNil))) dNil)))) sNext)))
theorem best_in {l : List Op} {F : List (List Int)} (hF : ∀ o ∈ F, o ∈ expls l) {a b : Int} (ha : 0 ≤ a ∧ a < l.length) (hb : 0 ≤ b ∧ b < l.length) (c0 c1 c8 c6 c7 : Cell) (best : Best) : ∃ c6' c7', KB [c0, c1, .dat (.list (F.map encI)), .dat (encB best), .dat (.int a), .dat (.int b), c6, c7, c8] = some (.nx [c0, c1, .dat (.list (F.map encI)), .dat (encB (stepB F best a b)), .dat (.int a), .dat (.int b), c6', c7', c8]) := by
  refine ⟨.dat (.int (cntP F a b)), .dat (.int (worstP F a b)), ?_⟩
  refine seq_nxs (set_of (d := .int (cntP F a b)) ?_) (seq_nxs (set_of (d := .int (worstP F a b)) ?_) ?_)
  · simp only [x_B, x_cons, x_nil, x_lc, x_SeqI, var_s, var_0, b_some, asSeq_l]
    rw [comp1 encI (fun o => decide (ix o a < ix o b)) encI]
    · rw [m_some, b_some, b_some, p_lenL, List.length_map]; rfl
    · rfl
    · intro o ho
      have t1 := t_index (k := a) ((expls_mem (hF o ho) _).mpr ha)
      have t2 := t_index (k := b) ((expls_mem (hF o ho) _).mpr hb)
      simp [t1, t2]
  · have pm : ∀ i j : Int, pMax [.int i, .int j] = some (.int (if j > i then j else i)) := fun _ _ => rfl
    simp only [List.set_cons_succ, List.set_cons_zero, x_B, x_cons, x_nil, x_d2, var_s, var_0, b_some, p_lenL, List.length_map, p_sub, pm]
    rfl
  · simp only [List.set_cons_succ, List.set_cons_zero]
    have hc : (dAndT (dT (d2 pLt (dVar 7) (dB pLen (dCons (dVar 2) dNil)))) (dOrT (dT (d2 (pIsN false) (dVar 3) (dC .none))) (dT (d2 pLt (dVar 7) (d2 pIx (dVar 3) (dC (.int 0))))))) (view [c0, c1, .dat (.list (F.map encI)), .dat (encB best), .dat (.int a), .dat (.int b), .dat (.int (cntP F a b)), .dat (.int (worstP F a b)), c8]) = some (condB F best a b) := by
      unfold condB
      simp only [x_AndT, x_OrT, x_T, x_d2, x_B, x_cons, x_nil, x_C, view, List.map_cons, List.map_nil, v_dat, var_s, var_0, b_some, p_lenL, List.length_map, p_lt, asB_b, isN_B]
      cases best with
      | none => simp only [Option.isNone_none, kOr_t, kAnd_b]
      | some p =>
        have hp : pIx (encB (some p)) (.int 0) = some (.int p.1) := rfl
        simp only [Option.isNone_some, kOr_f, hp, b_some, p_lt, asB_b, kAnd_b]
    unfold stepB
    by_cases c : condB F best a b = true
    · rw [if_pos c]
      refine if_yes (hc.trans (by rw [c])) ?_
      simp [encB, enc2]
    · rw [if_neg c]
      exact if_no (hc.trans (by rw [eq_false_of_ne_true c]))
theorem upI_mem {s : Int} {n : Nat} {x : Int} (h : x ∈ upI s n) : s ≤ x ∧ x < n := by
  unfold upI at h
  obtain ⟨i, hi, rfl⟩ := List.mem_map.mp h
  have := List.mem_range.mp hi
  omega
theorem pRngU {s : Int} {n : Nat} (h0 : 0 ≤ s) (h1 : s ≤ 1000) (h2 : n ≤ 1000) : pRng [.int s, .int ((n : Nat) : Int)] = some ((upI s n).map .int) := by
  have e : pRng [.int s, .int ((n : Nat) : Int)] = if (-65536 ≤ s ∧ s ≤ 65536) ∧ (-65536 ≤ ((n : Nat) : Int) ∧ ((n : Nat) : Int) ≤ 65536) ∧ ((n : Nat) : Int) - s ≤ 65536 then some (rngD s (((n : Nat) : Int) - s).toNat) else none := rfl
  rw [e, if_pos (by omega), rng_int]
  rfl
theorem best_row {l : List Op} {F : List (List Int)} (hF : ∀ o ∈ F, o ∈ expls l) {a : Int} (ha : 0 ≤ a ∧ a < l.length) (c0 c1 c5 c8 c6 c7 : Cell) (best : Best) : ∃ c5' c6' c7', forD (aName 5) KB ((upI (a + 1) l.length).map .int) [c0, c1, .dat (.list (F.map encI)), .dat (encB best), .dat (.int a), c5, c6, c7, c8] = some (.nx [c0, c1, .dat (.list (F.map encI)), .dat (encB (rowB F a best (upI (a + 1) l.length))), .dat (.int a), c5', c6', c7', c8]) := by
  obtain ⟨ρ', e, c5', c6', c7', rfl⟩ := for_mapJ (a := aName 5) (F := KB) PyData.int (fun done ρ => ∃ c5 c6 c7, ρ = [c0, c1, .dat (.list (F.map encI)), .dat (encB (rowB F a best done)), .dat (.int a), c5, c6, c7, c8]) (upI (a + 1) l.length) [] [c0, c1, .dat (.list (F.map encI)), .dat (encB best), .dat (.int a), c5, c6, c7, c8] ⟨_, _, _, rfl⟩ (by
    rintro done b rest ρ er ⟨c5, c6, c7, rfl⟩
    rw [List.nil_append] at er
    have hb := upI_mem (x := b) (by rw [er]; simp)
    obtain ⟨c6', c7', e⟩ := best_in hF ha (b := b) (by omega) c0 c1 c8 c6 c7 (rowB F a best done)
    refine ⟨_, _, a_name _ _, e, .dat (.int b), c6', c7', ?_⟩
    unfold rowB
    rw [List.foldl_append]; rfl)
  exact ⟨c5', c6', c7', e⟩
theorem best_pair_ok {l : List Op} (hs : storyOk l = true) (hne : expls l ≠ []) {as : List Ans} (ha : ∀ a ∈ as, ansOk l a) : m_best_pair [encO l, .tuple (as.map encA)] = some (if candF l as = [] then .error 3 else .ok (match bestF (candF l as) l.length with | none => .none | some p => enc2 p.2)) := by
  have hl := storyOk_len hs
  have hc := candidates_ok hs hne ha
  have hF : ∀ o ∈ candF l as, o ∈ expls l := fun o ho => (List.mem_filter.mp ho).1
  have pr : pRng [.int ((l.length : Nat) : Int)] = some (rngD 0 l.length) := pRng1 _ (by omega)
  simp only [m_best_pair, e_fnX, b_best_pair]
  refine seq_nx (ρ' := [.dat (encO l), .dat (.tuple (as.map encA)), .dat (.list ((candF l as).map encI)), .no, .no, .no, .no, .no, .no]) ?_ ?_
  · unfold sSetR
    simp only [x_BR, x_cons, x_nil, e_start2, rep_s, rep_0, var_s, var_0, b_some, hc, m_some, List.set_cons_succ, List.set_cons_zero]
  by_cases c : candF l as = []
  · rw [if_pos c]
    have : sIf (dNotT (dTru (dVar 2))) (sRaise 3) sNext [.dat (encO l), .dat (.tuple (as.map encA)), .dat (.list ((candF l as).map encI)), .no, .no, .no, .no, .no, .no] = some (.xc 3 [.dat (encO l), .dat (.tuple (as.map encA)), .dat (.list ((candF l as).map encI)), .no, .no, .no, .no, .no, .no]) :=
      if_yes (by simp [c]) rfl
    rw [e_seq, this]
    rfl
  · rw [if_neg c]
    obtain ⟨ρ', e, c4, c5, c6, c7, rfl⟩ := for_rng (a := aName 4) (F := (sFor (dRng (dCons (d2 pAdd (dVar 4) (dC (.int 1))) (dCons (dB pLen (dCons (dVar 0) dNil)) dNil))) (aName 5) KB)) l.length
      (fun i ρ => ∃ c4 c5 c6 c7, ρ = [.dat (encO l), .dat (.tuple (as.map encA)), .dat (.list ((candF l as).map encI)), .dat (encB ((nums i).foldl (fun best a => rowB (candF l as) a best (upI (a + 1) l.length)) none)), c4, c5, c6, c7, .no])
      [.dat (encO l), .dat (.tuple (as.map encA)), .dat (.list ((candF l as).map encI)), .dat .none, .no, .no, .no, .no, .no] ⟨_, _, _, _, rfl⟩ (by
        rintro i ρ hi ⟨c4, c5, c6, c7, rfl⟩
        obtain ⟨c5', c6', c7', e⟩ := best_row hF (a := ((i : Nat) : Int)) (by omega) (.dat (encO l)) (.dat (.tuple (as.map encA))) c5 .no c6 c7 ((nums i).foldl (fun best a => rowB (candF l as) a best (upI (a + 1) l.length)) none)
        refine ⟨_, [.dat (encO l), .dat (.tuple (as.map encA)), .dat (.list ((candF l as).map encI)), .dat (encB ((nums (i + 1)).foldl (fun best a => rowB (candF l as) a best (upI (a + 1) l.length)) none)), .dat (.int (i : Nat)), c5', c6', c7', .no], a_name _ _, ?_, _, _, _, _, rfl⟩
        simp only [sD_cons, sD_nil, List.set_cons_succ, List.set_cons_zero, e_for, x_Rng, x_cons, x_d2, x_C, x_B, x_nil, var_s, var_0, b_some, len_encO, p_add, pRngU (show (0 : Int) ≤ (i : Int) + 1 by omega) (show (i : Int) + 1 ≤ 1000 by omega) (show l.length ≤ 1000 by omega)]
        rw [nums_succ, List.foldl_append]
        exact e)
    refine seq_nx (if_no ?_) (seq_nx (set_of (d := .none) rfl) (seq_nx (ρ' := [.dat (encO l), .dat (.tuple (as.map encA)), .dat (.list ((candF l as).map encI)), .dat (encB (bestF (candF l as) l.length)), c4, c5, c6, c7, .no]) ?_ ?_))
    · simp [c]
    · simp only [List.set_cons_succ, List.set_cons_zero, e_for, x_Rng, x_cons, x_B, x_nil, var_s, var_0, b_some, len_encO, pr]
      exact e
    · simp only [e_ret, x_If, x_T, x_d2, x_C, view, List.map_cons, List.map_nil, v_dat, var_s, var_0, b_some, isN_B, asB_b]
      cases bestF (candF l as) l.length with
      | none => rfl
      | some p => rfl
end CS
/-! M24: no explanation; what the best pair is. -/
namespace CS
open PySem
theorem check_answers_no {l : List Op} (hs : storyOk l = true) (hne : expls l = []) (d : PyData) : m_check_answers [encO l, d] = some (.error 4) := by
  have hl := storyOk_len hs
  have hx : m_explanations_of [encO l, .int 1] = some (.list (((expls l).take 1).map encI)) := explanations_ok hl (most := 1) (by decide) (by decide)
  rw [hne] at hx
  simp only [m_check_answers, e_fnX, b_check_answers]
  refine seq_nx (ρ' := [.dat (encO l), .dat d, .no, .no]) (by simp [check_ok hs]) ?_
  have : sIf (dNotT (dTru (dB m_explanations_of (dCons (dVar 0) (dCons (dC (.int 1)) dNil))))) (sRaise 4) sNext [.dat (encO l), .dat d, .no, .no] = some (.xc 4 [.dat (encO l), .dat d, .no, .no]) :=
    if_yes (by simp [hx]) rfl
  rw [e_seq, this]
  rfl
theorem candidates_no {l : List Op} (hs : storyOk l = true) (hne : expls l = []) (d : PyData) : m_candidates [encO l, d] = some (.error 4) := by
  have ch := check_answers_no hs hne d
  simp only [m_candidates, e_fnX, b_candidates]
  have : sExprR (dBR m_check_answers (dCons (dVar 0) (dCons (dVar 1) dNil))) (start0 7 [encO l, d]) = some (.xc 4 (start0 7 [encO l, d])) := by
    simp [ch]
  rw [e_seq, this]
  rfl
theorem best_no {l : List Op} (hs : storyOk l = true) (hne : expls l = []) (d : PyData) : m_best_pair [encO l, d] = some (.error 4) := by
  have ch := candidates_no hs hne d
  simp only [m_best_pair, e_fnX, b_best_pair]
  have : sSetR 2 (dBR m_candidates (dCons (dVar 0) (dCons (dVar 1) dNil))) (start0 9 [encO l, d]) = some (.xc 4 (start0 9 [encO l, d])) := by
    unfold sSetR
    simp [ch]
  rw [e_seq, this]
  rfl
theorem hidden_no {l : List Op} (hs : storyOk l = true) (hne : expls l = []) (m : Int) (d : PyData) : m__law_hidden [.int m, encO l, d] = some (.str "no") := by
  simp only [m__law_hidden, e_fn, b__law_hidden]
  unfold sTry
  rw [if_pos (by simp [e_start3])]
  have e : rIf (dT (d2 pEq (dVar 0) (dC (.int 0)))) (dBR m_candidates (dCons (dVar 1) (dCons (dVar 2) dNil))) (dBR m_best_pair (dCons (dVar 1) (dCons (dVar 2) dNil))) (view (start0 4 [.int m, encO l, d])) = some (.error 4) := by
    unfold rIf
    by_cases c : m = 0
    · simp [c, candidates_no hs hne d]
    · simp [c, best_no hs hne d]
  rw [e, b_some]
  rfl
end CS
/-! M25: what the best pair is. -/
namespace CS
open PySem
/-- it is one that divides -/
theorem fold_best {F : List (List Int)} {P : Int → Int → Prop} : ∀ (a : Int) (bs : List Int) (best : Best), (∀ p, best = some p → P p.2.1 p.2.2 ∧ worstP F p.2.1 p.2.2 < (F.length : Nat)) → (∀ b ∈ bs, P a b) → ∀ p, rowB F a best bs = some p → P p.2.1 p.2.2 ∧ worstP F p.2.1 p.2.2 < (F.length : Nat)
  | a, [], best, h, _, p, e => h p e
  | a, b :: bs, best, h, hb, p, e => by
    refine fold_best a bs (stepB F best a b) (fun q eq => ?_) (fun x hx => hb x (List.mem_cons_of_mem _ hx)) p e
    unfold stepB at eq
    split at eq
    · rename_i c
      cases eq
      unfold condB at c
      rw [Bool.and_eq_true, decide_eq_true_eq] at c
      exact ⟨hb b (List.mem_cons_self ..), c.1⟩
    · exact h q eq
theorem best_some {F : List (List Int)} {n : Nat} {p : Int × Int × Int} (e : bestF F n = some p) : (0 ≤ p.2.1 ∧ p.2.1 < p.2.2 ∧ p.2.2 < n) ∧ worstP F p.2.1 p.2.2 < (F.length : Nat) := by
  have key : ∀ (as : List Int) (best : Best), (∀ a ∈ as, 0 ≤ a) → (∀ p, best = some p → (0 ≤ p.2.1 ∧ p.2.1 < p.2.2 ∧ p.2.2 < n) ∧ worstP F p.2.1 p.2.2 < (F.length : Nat)) → ∀ p, as.foldl (fun best a => rowB F a best (upI (a + 1) n)) best = some p → (0 ≤ p.2.1 ∧ p.2.1 < p.2.2 ∧ p.2.2 < n) ∧ worstP F p.2.1 p.2.2 < (F.length : Nat) := by
    intro as
    induction as with
    | nil => intro best _ h p e; exact h p e
    | cons a as ih =>
      intro best h0 h p e
      rw [List.foldl_cons] at e
      refine ih _ (fun x hx => h0 x (List.mem_cons_of_mem _ hx)) (fun q eq => ?_) p e
      have ha := h0 a (List.mem_cons_self ..)
      refine fold_best (P := fun a b => 0 ≤ a ∧ a < b ∧ b < n) a _ best h (fun b hb => ?_) q eq
      have := upI_mem hb
      exact ⟨ha, by omega, this.2⟩
  exact key _ none (fun a ha => (nums_mem.mp ha).1) (fun p e => by cases e) p e
/-- once there is one, there is one -/
theorem row_keep {F : List (List Int)} : ∀ (a : Int) (bs : List Int) (best : Best), best ≠ none → rowB F a best bs ≠ none
  | a, [], best, h => h
  | a, b :: bs, best, h => by
    refine row_keep a bs (stepB F best a b) ?_
    unfold stepB
    split
    · simp
    · exact h
theorem row_none {F : List (List Int)} : ∀ (a : Int) (bs : List Int), rowB F a none bs = none → ∀ b ∈ bs, ¬ worstP F a b < (F.length : Nat)
  | a, [], _, b, hb => by simp at hb
  | a, b :: bs, h, x, hx => by
    have h' : rowB F a (stepB F none a b) bs = none := h
    have hs : stepB F none a b = none := by
      cases e : stepB F none a b with
      | none => rfl
      | some q => exact absurd h' (row_keep a bs _ (by rw [e]; simp))
    rw [hs] at h'
    rcases List.mem_cons.mp hx with z | z
    · subst z
      intro w
      unfold stepB condB at hs
      simp [w] at hs
    · exact row_none a bs h' x z
theorem best_none {F : List (List Int)} {n : Nat} (e : bestF F n = none) : ∀ a b : Int, 0 ≤ a → a < b → b < n → ¬ worstP F a b < (F.length : Nat) := by
  have key : ∀ as : List Int, as.foldl (fun best a => rowB F a best (upI (a + 1) n)) none = none → ∀ a ∈ as, rowB F a none (upI (a + 1) n) = none := by
    intro as
    induction as with
    | nil => intro _ a ha; simp at ha
    | cons a as ih =>
      intro h x hx
      rw [List.foldl_cons] at h
      have keep : ∀ (as : List Int) (best : Best), best ≠ none → as.foldl (fun best a => rowB F a best (upI (a + 1) n)) best ≠ none := by
        intro as
        induction as with
        | nil => intro best h; exact h
        | cons a as ih => intro best h; rw [List.foldl_cons]; exact ih _ (row_keep a _ best h)
      have hr : rowB F a none (upI (a + 1) n) = none := by
        cases e : rowB F a none (upI (a + 1) n) with
        | none => rfl
        | some q => rw [e] at h; exact absurd h (keep as _ (by simp))
      rw [hr] at h
      rcases List.mem_cons.mp hx with z | z
      · subst z; exact hr
      · exact ih h x z
  intro a b h0 hab hb
  have ha : a ∈ nums n := nums_mem.mpr ⟨h0, by omega⟩
  refine row_none a _ (key _ e a ha) b ?_
  unfold upI
  refine List.mem_map.mpr ⟨(b - (a + 1)).toNat, List.mem_range.mpr (by omega), by omega⟩
end CS
/-! M26: candidates: none alike, one left if no pair divides them, fewer after an answer. -/
namespace CS
open PySem
theorem allF_nodup (l : List Op) : ∀ (n : Nat) (o : List Int), o.Nodup → InR l o → (allF l n o).Nodup
  | 0, _, _, _ => List.Pairwise.nil
  | n + 1, o, nd, ho => by
    rw [allF]
    by_cases c : o.length = l.length
    · rw [if_pos c]; simp
    · rw [if_neg c]
      have step : ∀ k, k ∈ (nums l.length).filter (nextF l o) → (o ++ [k]).Nodup ∧ InR l (o ++ [k]) := by
        intro k hk
        obtain ⟨h1, h2⟩ := List.mem_filter.mp hk
        unfold nextF at h2
        rw [Bool.and_eq_true] at h2
        have hno : k ∉ o := by simpa using h2.1
        refine ⟨?_, ho.snoc (nums_mem.mp h1)⟩
        rw [List.nodup_append]
        refine ⟨nd, by simp, fun x hx y hy e => ?_⟩
        simp at hy; subst hy; subst e; exact hno hx
      unfold List.Nodup
      rw [List.pairwise_flatMap]
      refine ⟨fun k hk => allF_nodup l n _ (step k hk).1 (step k hk).2, ?_⟩
      have nd2 : ((nums l.length).filter (nextF l o)).Nodup := (nums_nodup _).filter _
      refine List.Pairwise.imp_of_mem ?_ nd2
      intro a b ha hb hab x hx y hy e
      have p1 := (allF_perm n _ x (step a ha).1 (step a ha).2 hx).2
      have p2 := (allF_perm n _ y (step b hb).1 (step b hb).2 hy).2
      rw [← e] at p2
      obtain ⟨s, es⟩ := p1
      obtain ⟨t, et⟩ := p2
      rw [← et, List.append_assoc, List.append_assoc] at es
      have := List.append_cancel_left es
      simp at this
      exact hab this.1
theorem expls_list_nodup (l : List Op) : (expls l).Nodup := allF_nodup l 8 [] (by simp) (by intro i hi; simp at hi)
theorem pw_ix : ∀ {o : List Int}, o.Nodup → o.Pairwise fun a b => ix o a < ix o b := by
  intro o nd
  rw [List.pairwise_iff_getElem]
  intro i j hi hj hij
  have key : ∀ k (hk : k < o.length), ix o o[k] = k := by
    intro k hk
    have h1 := List.getElem?_eq_some_iff.mp (ix_get (List.getElem_mem hk))
    obtain ⟨h2, h3⟩ := h1
    exact (List.getElem_inj nd).mp h3
  rw [key i hi, key j hj]
  exact hij
theorem eq_of_order {o o' : List Int} (nd : o.Nodup) (nd' : o'.Nodup) (hp : o.Perm o') (h : ∀ a ∈ o, ∀ b ∈ o, ix o a < ix o b → ix o' a < ix o' b) : o = o' := by
  refine List.Perm.eq_of_pairwise (le := fun a b => ix o' a < ix o' b) ?_ ?_ (pw_ix nd') hp
  · intro a b _ _ h1 h2; omega
  · exact (pw_ix nd).imp_of_mem fun {a b} ha hb hab => h a ha b hb hab
theorem cnt_le (F : List (List Int)) (a b : Int) : cntP F a b ≤ F.length := List.length_filter_le _ _
theorem cnt_pos {F : List (List Int)} {a b : Int} {o : List Int} (ho : o ∈ F) (h : ix o a < ix o b) : 0 < cntP F a b := by
  unfold cntP
  exact List.length_pos_of_mem (List.mem_filter.mpr ⟨ho, by simpa using h⟩)
theorem cnt_lt {F : List (List Int)} {a b : Int} {o : List Int} (ho : o ∈ F) (h : ¬ ix o a < ix o b) : cntP F a b < F.length := by
  unfold cntP
  have h1 := split_len (fun o : List Int => decide (ix o a < ix o b)) F
  have h2 : 0 < (F.filter fun o => !decide (ix o a < ix o b)).length := List.length_pos_of_mem (List.mem_filter.mpr ⟨ho, by simpa using h⟩)
  omega
theorem worst_lt {F : List (List Int)} {a b : Int} (h1 : 0 < cntP F a b) (h2 : cntP F a b < F.length) : worstP F a b < (F.length : Nat) := by
  unfold worstP
  split <;> omega
theorem worst_ge1 (F : List (List Int)) (a b : Int) : (cntP F a b : Int) ≤ worstP F a b ∧ ((F.length : Nat) : Int) - cntP F a b ≤ worstP F a b := by
  unfold worstP
  split <;> omega
/-- none divides them: only one is left -/
theorem only_one {l : List Op} {F : List (List Int)} (hF : ∀ o ∈ F, o ∈ expls l) (nd : F.Nodup) {h : List Int} (hh : h ∈ F) (e : bestF F l.length = none) : F = [h] := by
  have all : ∀ o ∈ F, o = h := by
    intro o ho
    have p1 := expls_perm (hF o ho)
    have p2 := expls_perm (hF h hh)
    have same : ∀ a b : Int, 0 ≤ a → a < b → b < l.length → (ix o a < ix o b ↔ ix h a < ix h b) := by
      intro a b h0 hab hb
      have nb := best_none e a b h0 hab hb
      constructor
      · intro z
        by_cases c : ix h a < ix h b
        · exact c
        · exact absurd (worst_lt (cnt_pos ho z) (cnt_lt hh c)) nb
      · intro z
        by_cases c : ix o a < ix o b
        · exact c
        · exact absurd (worst_lt (cnt_pos hh z) (cnt_lt ho c)) nb
    refine eq_of_order (expls_nodup (hF o ho)) (expls_nodup (hF h hh)) (p1.trans p2.symm) fun a ha b hb z => ?_
    have ra := (expls_mem (hF o ho) a).mp ha
    have rb := (expls_mem (hF o ho) b).mp hb
    have ha' := (expls_mem (hF h hh) a).mpr ra
    have hb' := (expls_mem (hF h hh) b).mpr rb
    rcases Int.lt_trichotomy a b with c | c | c
    · exact (same a b ra.1 c rb.2).mp z
    · subst c; omega
    · have s := same b a rb.1 c ra.2
      have n1 : ¬ ix h b < ix h a := fun y => by have := s.mpr y; omega
      have n2 : ix h b ≠ ix h a := fun y => by have := ix_inj hb' ha' y; omega
      omega
  match F, nd, hh, all with
  | [x], _, hh, _ => simp at hh; rw [hh]
  | x :: y :: F, nd, hh, all =>
    have e1 := all x (by simp)
    have e2 := all y (by simp)
    rw [e1, e2] at nd
    simp at nd
theorem candF_nodup (l : List Op) (as : List Ans) : (candF l as).Nodup := (expls_list_nodup l).filter _
theorem candF_in {l : List Op} {as : List Ans} {o : List Int} (h : o ∈ candF l as) : o ∈ expls l ∧ agreeB as o = true := List.mem_filter.mp h
theorem agree_snoc (as : List Ans) (a : Ans) (o : List Int) : agreeB (as ++ [a]) o = (agreeB as o && (decide (ix o a.1 < ix o a.2.1) == a.2.2)) := by
  unfold agreeB
  rw [List.any_append, List.any_cons, List.any_nil]
  generalize (as.any fun a => decide (ix o a.1 < ix o a.2.1) != a.2.2) = x
  generalize decide (ix o a.1 < ix o a.2.1) = y
  cases x <;> cases y <;> cases a.2.2 <;> rfl
theorem candF_snoc (l : List Op) (as : List Ans) (a : Ans) : candF l (as ++ [a]) = (candF l as).filter fun o => decide (ix o a.1 < ix o a.2.1) == a.2.2 := by
  unfold candF
  rw [List.filter_filter]
  congr 1
  funext o
  rw [agree_snoc, Bool.and_comm]
theorem candF_shorter {l : List Op} {as : List Ans} {a b : Int} (t : Bool) (h : worstP (candF l as) a b < ((candF l as).length : Nat)) : (candF l (as ++ [(a, b, t)])).length < (candF l as).length := by
  have w := worst_ge1 (candF l as) a b
  have s := split_len (fun o : List Int => decide (ix o a < ix o b)) (candF l as)
  rw [candF_snoc]
  cases t with
  | true =>
    have e : ((candF l as).filter fun o => decide (ix o a < ix o b) == true) = (candF l as).filter fun o => decide (ix o a < ix o b) := by congr 1; funext o; simp
    show ((candF l as).filter fun o => decide (ix o a < ix o b) == true).length < _
    rw [e]
    have : cntP (candF l as) a b = ((candF l as).filter fun o => decide (ix o a < ix o b)).length := rfl
    omega
  | false =>
    have e : ((candF l as).filter fun o => decide (ix o a < ix o b) == false) = (candF l as).filter fun o => !decide (ix o a < ix o b) := by congr 1; funext o; cases decide (ix o a < ix o b) <;> rfl
    show ((candF l as).filter fun o => decide (ix o a < ix o b) == false).length < _
    rw [e]
    have : cntP (candF l as) a b = ((candF l as).filter fun o => decide (ix o a < ix o b)).length := rfl
    omega
theorem filter_all {α : Type} {p : α → Bool} {l : List α} (h : ∀ x ∈ l, p x = true) : l.filter p = l := List.filter_eq_self.mpr h
theorem filter_no {α : Type} {p : α → Bool} {l : List α} (h : ∀ x ∈ l, p x = false) : l.filter p = [] := by
  rw [List.filter_eq_nil_iff]; intro x hx; rw [h x hx]; simp
/-- the same for all: it does not divide -/
theorem worst_all {F : List (List Int)} {a b : Int} (h : (∀ o ∈ F, ix o a < ix o b) ∨ (∀ o ∈ F, ¬ ix o a < ix o b)) : ¬ worstP F a b < (F.length : Nat) := by
  have w := worst_ge1 F a b
  rcases h with h | h
  · have : cntP F a b = F.length := by unfold cntP; rw [filter_all fun o ho => by simpa using h o ho]
    omega
  · have : cntP F a b = 0 := by unfold cntP; rw [filter_no fun o ho => by simpa using h o ho]; rfl
    omega
theorem asked_no {l : List Op} {as : List Ans} {a b : Int} {t : Bool} (h : (a, b, t) ∈ as) : ¬ worstP (candF l as) a b < ((candF l as).length : Nat) := by
  have key : ∀ o ∈ candF l as, decide (ix o a < ix o b) = t := by
    intro o ho
    have := (candF_in ho).2
    unfold agreeB at this
    rw [Bool.not_eq_true', List.any_eq_false] at this
    have := this _ h
    simpa using this
  cases t with
  | true => exact worst_all (.inl fun o ho => by simpa using key o ho)
  | false => exact worst_all (.inr fun o ho => by simpa using key o ho)
theorem sureOf_mem {l : List Op} {p : Int × Int} (h : p ∈ sureOf l) : (0 ≤ p.1 ∧ p.1 < l.length) ∧ (0 ≤ p.2 ∧ p.2 < l.length) ∧ sureB l p.1 p.2 = true := by
  unfold sureOf at h
  obtain ⟨a, ha, h⟩ := List.mem_flatMap.mp h
  unfold sureRow at h
  obtain ⟨b, hb, rfl⟩ := List.mem_map.mp h
  obtain ⟨h1, h2⟩ := List.mem_filter.mp hb
  exact ⟨nums_mem.mp ha, nums_mem.mp h1, h2⟩
theorem sure_no1 {l : List Op} {F : List (List Int)} (hF : ∀ o ∈ F, o ∈ expls l) {a b : Int} (h : (a, b) ∈ sureOf l) : ¬ worstP F a b < (F.length : Nat) := by
  obtain ⟨h1, h2, h3⟩ := sureOf_mem h
  exact worst_all (.inl fun o ho => sure_lt h1 h2 h3 (hF o ho))
theorem sure_no2 {l : List Op} {F : List (List Int)} (hF : ∀ o ∈ F, o ∈ expls l) {a b : Int} (h : (b, a) ∈ sureOf l) : ¬ worstP F a b < (F.length : Nat) := by
  obtain ⟨h1, h2, h3⟩ := sureOf_mem h
  exact worst_all (.inr fun o ho => by have h4 : ix o b < ix o a := sure_lt h1 h2 h3 (hF o ho); omega)
end CS
/-! M27: comparing lists of orders and of pairs; bools. -/
namespace CS
open PySem
theorem eqv_o1 (a b : List Int) : PyData.eqv (encI a) (encI b) = decide (a = b) := by unfold encI PyData.eqv; exact eqv_ints a b
theorem eqv_p1 (a b : Int × Int) : PyData.eqv (enc2 a) (enc2 b) = decide (a = b) := by
  have := eqv_prs [a] [b]
  simp only [List.map_cons, List.map_nil, PyData.eqvAll, Bool.and_true] at this
  rw [this]
  simp
theorem eqv_lli : ∀ a b : List (List Int), PyData.eqvAll (a.map encI) (b.map encI) = decide (a = b)
  | [], [] => rfl
  | [], _ :: _ => rfl
  | _ :: _, [] => rfl
  | x :: a, y :: b => by
    rw [List.map_cons, List.map_cons, PyData.eqvAll, eqv_lli a b, eqv_o1]
    by_cases h1 : x = y <;> by_cases h2 : a = b <;> simp [h1, h2]
theorem eq_lli (a b : List (List Int)) : pEq (.list (a.map encI)) (.list (b.map encI)) = some (.bool (decide (a = b))) :=
  p_eqd (by rw [shaped_lli, shaped_lli]; rfl) (by unfold PyData.eqv; exact eqv_lli a b)
theorem ne_lli (a b : List (List Int)) : pNe (.list (a.map encI)) (.list (b.map encI)) = some (.bool (!decide (a = b))) :=
  p_ned (by rw [shaped_lli, shaped_lli]; rfl) (by unfold PyData.eqv; exact eqv_lli a b)
theorem ne_nil_x (l : List (List Int)) : pNe (.list (l.map encI)) (.list []) = some (.bool (!l.isEmpty)) := by
  have := ne_lli l []
  rw [List.map_nil] at this
  rw [this]
  cases l <;> rfl
theorem ne_bool (a b : Bool) : pNe (.bool a) (.bool b) = some (.bool (!(a == b))) := p_ned (by rfl) (by unfold PyData.eqv; rfl)
theorem eq_bool (a b : Bool) : pEq (.bool a) (.bool b) = some (.bool (a == b)) := p_eqd (by rfl) (by unfold PyData.eqv; rfl)
theorem all_ok {l : List Op} (hs : storyOk l = true) : m_all_explanations [encO l] = some (.ok (.list ((expls l).map encI))) := by
  simp [m_all_explanations, b_all_explanations, check_ok hs, explanations_all (storyOk_len hs)]
theorem can_ok {l : List Op} (hs : storyOk l = true) : m_can_explain [encO l] = some (.ok (.bool (!(expls l).isEmpty))) := by
  have hx : m_explanations_of [encO l, .int 1] = some (.list (((expls l).take 1).map encI)) := explanations_ok (storyOk_len hs) (most := 1) (by decide) (by decide)
  have hn := ne_nil_x ((expls l).take 1)
  have he : ((expls l).take 1).isEmpty = (expls l).isEmpty := by cases expls l <;> rfl
  rw [he] at hn
  simp only [m_can_explain, e_fnX, b_can_explain]
  refine seq_nx (ρ' := [.dat (encO l)]) (by simp [check_ok hs]) ?_
  simp only [e_ret, x_d2, x_B, x_cons, x_nil, x_C, x_lst, view, List.map_cons, List.map_nil, v_dat, var_0, b_some, hx, List.length_nil, Nat.zero_le, if_true, hn, m_some, ox_rt]
theorem shaped_o1 (o : List Int) : SeqAt.shaped (encI o) = true := shaped_intsT o
theorem shaped_p1 (p : Int × Int) : SeqAt.shaped (enc2 p) = true := by
  unfold SeqAt.shaped
  simp [enc2, PyData.canLay0, PyData.canLayAll0, PyData.depth, PyData.depthAll]
theorem any_lli (o : List Int) : ∀ F : List (List Int), ((F.map encI).any fun z => PyData.eqv z (encI o)) = decide (o ∈ F)
  | [] => rfl
  | x :: F => by
    rw [List.map_cons, List.any_cons, any_lli o F, eqv_o1]
    by_cases h : x = o
    · simp [h]
    · have h' : ¬ o = x := fun z => h z.symm
      simp [h, h']
theorem any_prs (o : Int × Int) : ∀ F : List (Int × Int), ((F.map enc2).any fun z => PyData.eqv z (enc2 o)) = decide (o ∈ F)
  | [] => rfl
  | x :: F => by
    rw [List.map_cons, List.any_cons, any_prs o F, eqv_p1]
    by_cases h : x = o
    · simp [h]
    · have h' : ¬ o = x := fun z => h z.symm
      simp [h, h']
theorem in_lli (neg : Bool) (o : List Int) (F : List (List Int)) : pInA neg (encI o) (.list (F.map encI)) = some (.bool (if neg = true then !decide (o ∈ F) else decide (o ∈ F))) :=
  p_inL (by rw [shaped_o1, shaped_lli]; rfl) (any_lli o F)
theorem in_prs (neg : Bool) (o : Int × Int) (F : List (Int × Int)) : pInA neg (enc2 o) (.list (F.map enc2)) = some (.bool (if neg = true then !decide (o ∈ F) else decide (o ∈ F))) :=
  p_inL (by rw [shaped_p1, shaped_prs]; rfl) (any_prs o F)
@[simp] theorem e2_0 (p : Int × Int) : pIx (enc2 p) (.int 0) = some (.int p.1) := rfl
@[simp] theorem e2_1 (p : Int × Int) : pIx (enc2 p) (.int 1) = some (.int p.2) := rfl
end CS
/-! M28: explanations without numbers: orders of the operations themselves. -/
namespace CS
open PySem
def opsOf (l : List Op) (r : List Int) : List Op := r.map fun i => opAt l i.toNat
/-- step by step, with the last written value -/
def goV : List Op → Int → Bool
  | [], _ => true
  | x :: xs, last => !(xs.any fun y => y.before x) && (if x.w = true then goV xs x.v else decide (x.v = last) && goV xs last)
theorem goL_goV (l : List Op) : ∀ (r : List Int) (last : Int), goL l r last = goV (opsOf l r) last
  | [], _ => rfl
  | x :: r, last => by
    have e : (opsOf l r).any (fun y => y.before (opAt l x.toNat)) = r.any fun y => (opAt l y.toNat).before (opAt l x.toNat) := by
      unfold opsOf; rw [List.any_map]; rfl
    rw [goL, opsOf, List.map_cons, goV]
    show _ = (!(opsOf l r).any (fun y => y.before (opAt l x.toNat)) && if (opAt l x.toNat).w = true then goV (opsOf l r) (opAt l x.toNat).v else decide ((opAt l x.toNat).v = last) && goV (opsOf l r) last)
    rw [e, goL_goV l r, goL_goV l r]
    by_cases c : (r.any fun y => (opAt l y.toNat).before (opAt l x.toNat)) = true
    · rw [if_pos c, c]; rfl
    · rw [if_neg c, eq_false_of_ne_true c]
      by_cases w : (opAt l x.toNat).w = true
      · rw [if_pos w, if_pos w]; rfl
      · rw [if_neg w, if_neg w]
        by_cases v : (opAt l x.toNat).v = last <;> simp [v]
theorem opsOf_nums (l : List Op) : opsOf l (nums l.length) = l := by
  unfold opsOf nums
  rw [List.map_map]
  exact map_opAt l
theorem perm_map_inv {α β : Type} {f : α → β} {w m : List β} (h : w.Perm m) : ∀ l : List α, m = l.map f → ∃ r : List α, r.Perm l ∧ r.map f = w := by
  induction h with
  | nil =>
    intro l e
    have : l = [] := by simpa using e.symm
    subst this
    exact ⟨[], .refl _, rfl⟩
  | cons x p ih =>
    intro l e
    cases l with
    | nil => simp at e
    | cons a l =>
      simp only [List.map_cons, List.cons.injEq] at e
      obtain ⟨rfl, e⟩ := e
      obtain ⟨r, h1, h2⟩ := ih l e
      exact ⟨a :: r, h1.cons a, by rw [List.map_cons, h2]⟩
  | swap x y t =>
    intro l e
    cases l with
    | nil => simp at e
    | cons a l =>
      cases l with
      | nil => simp at e
      | cons b l =>
        simp only [List.map_cons, List.cons.injEq] at e
        obtain ⟨rfl, rfl, rfl⟩ := e
        exact ⟨b :: a :: l, .swap .., rfl⟩
  | trans p1 p2 ih1 ih2 =>
    intro l e
    obtain ⟨r2, h1, h2⟩ := ih2 l e
    obtain ⟨r1, h3, h4⟩ := ih1 r2 h2.symm
    exact ⟨r1, h3.trans h1, h4⟩
theorem allF_mem {l : List Op} {r : List Int} (nd : r.Nodup) (hp : r.Perm (nums l.length)) (hs : ∀ p x s, r = p ++ x :: s → mayF l p x = true) :
    ∀ (n : Nat) (o s : List Int), r = o ++ s → s.length < n → r ∈ allF l n o
  | 0, _, _, _, h => by omega
  | n + 1, o, [], e, h => by
    have hl : r.length = l.length := by rw [hp.length_eq, nums_len]
    rw [List.append_nil] at e
    subst e
    rw [allF, if_pos hl]; simp
  | n + 1, o, x :: s, e, h => by
    have hl : r.length = l.length := by rw [hp.length_eq, nums_len]
    have ho : o.length ≠ l.length := by
      have := congrArg List.length e
      simp at this; omega
    rw [allF, if_neg ho]
    have hx : x ∈ r := by rw [e]; simp
    refine List.mem_flatMap.mpr ⟨x, List.mem_filter.mpr ⟨hp.mem_iff.mp hx, ?_⟩, allF_mem nd hp hs n (o ++ [x]) s (by rw [e]; simp) (by simp at h; omega)⟩
    unfold nextF
    rw [hs o x s e, Bool.and_true]
    simp only [Bool.not_eq_true', decide_eq_false_iff_not]
    intro z
    rw [e] at nd
    exact (List.nodup_append.mp nd).2.2 x z x (List.mem_cons_self ..) rfl
theorem mem_expls {l : List Op} (hs : storyOk l = true) {r : List Int} : r ∈ expls l ↔ r.Perm (nums l.length) ∧ goV (opsOf l r) 0 = true := by
  constructor
  · intro h
    have hp := expls_perm h
    refine ⟨hp, ?_⟩
    rw [← goL_goV]
    have := agree hs hp r [] rfl
    have e0 : lastW l [] = 0 := rfl
    rw [e0] at this
    rw [this, List.all_eq_true]
    intro p hpm
    have hlt : p < r.length := by simpa using hpm
    have hd : r = r.take p ++ r[p] :: r.drop (p + 1) := by rw [List.getElem_cons_drop, List.take_append_drop]
    have st := expls_step h hd
    unfold nextF at st
    rw [Bool.and_eq_true] at st
    rw [List.getD_eq_getElem?_getD, List.getElem?_eq_getElem hlt]
    exact st.2
  · rintro ⟨hp, hg⟩
    have nd : r.Nodup := hp.nodup_iff.mpr (nums_nodup _)
    have hl := storyOk_len hs
    rw [← goL_goV] at hg
    have ag := agree hs hp r [] rfl
    have e0 : lastW l [] = 0 := rfl
    rw [e0, hg] at ag
    have ag := List.all_eq_true.mp ag.symm
    refine allF_mem nd hp (fun p x s e => ?_) 8 [] r rfl (by rw [hp.length_eq, nums_len]; omega)
    have := ag p.length (by rw [e]; simp)
    have e1 : r.take p.length = p := by rw [e]; simp
    have e2 : r.getD p.length 0 = x := by rw [e]; simp
    rw [e1, e2] at this
    exact this
theorem some_expl {l : List Op} (hs : storyOk l = true) : expls l ≠ [] ↔ ∃ w : List Op, w.Perm l ∧ goV w 0 = true := by
  constructor
  · intro h
    obtain ⟨r, hr⟩ := List.exists_mem_of_ne_nil _ h
    obtain ⟨h1, h2⟩ := (mem_expls hs).mp hr
    refine ⟨opsOf l r, ?_, h2⟩
    have := h1.map fun i => opAt l i.toNat
    have e := opsOf_nums l
    unfold opsOf at e ⊢
    rw [e] at this
    exact this
  · rintro ⟨w, hp, hg⟩
    obtain ⟨r, h1, h2⟩ := perm_map_inv hp (nums l.length) (opsOf_nums l).symm
    have : r ∈ expls l := (mem_expls hs).mpr ⟨h1, by unfold opsOf; rw [h2]; exact hg⟩
    exact List.ne_nil_of_mem this
end CS
/-! M29: zones: an order exists exactly if no read is early and no two zones forbid each other. -/
namespace CS
open PySem
def lastV : List Op → Int → Int
  | [], d => d
  | x :: xs, d => lastV xs (if x.w = true then x.v else d)
def goR : List Op → Int → Bool
  | [], _ => true
  | x :: xs, d => if x.w = true then goR xs x.v else decide (x.v = d) && goR xs d
def NoBack (a b : Op) : Prop := b.before a = false
theorem goV_iff : ∀ (w : List Op) (d : Int), goV w d = true ↔ w.Pairwise NoBack ∧ goR w d = true
  | [], d => by simp [goV, goR]
  | x :: w, d => by
    rw [goV, goR, Bool.and_eq_true, List.pairwise_cons]
    have h1 : ((!w.any fun y => y.before x) = true) ↔ ∀ a' ∈ w, NoBack x a' := by
      rw [Bool.not_eq_true', List.any_eq_false]
      exact ⟨fun h y hy => by have := h y hy; unfold NoBack; simpa using this, fun h y hy => by have := h y hy; unfold NoBack at this; simpa using this⟩
    rw [h1]
    by_cases c : x.w = true
    · rw [if_pos c, if_pos c, goV_iff w x.v]
      exact ⟨fun ⟨a, b, c⟩ => ⟨⟨a, b⟩, c⟩, fun ⟨⟨a, b⟩, c⟩ => ⟨a, b, c⟩⟩
    · rw [if_neg c, if_neg c, Bool.and_eq_true, Bool.and_eq_true, goV_iff w d]
      exact ⟨fun ⟨a, v, b, c⟩ => ⟨⟨a, b⟩, v, c⟩, fun ⟨⟨a, b⟩, v, c⟩ => ⟨a, v, b, c⟩⟩
theorem goR_app : ∀ (p s : List Op) (d : Int), goR (p ++ s) d = (goR p d && goR s (lastV p d))
  | [], s, d => rfl
  | x :: p, s, d => by
    rw [List.cons_append, goR, goR, lastV]
    by_cases c : x.w = true
    · rw [if_pos c, if_pos c, if_pos c, goR_app p s]
    · rw [if_neg c, if_neg c, if_neg c, goR_app p s, Bool.and_assoc]
theorem lastV_app : ∀ (p s : List Op) (d : Int), lastV (p ++ s) d = lastV s (lastV p d)
  | [], _, _ => rfl
  | x :: p, s, d => by rw [List.cons_append, lastV, lastV, lastV_app p s]
theorem lastV_wr : ∀ (p : List Op) (d : Int), lastV p d = (d :: writtenOf p).getLast (by simp)
  | [], d => rfl
  | x :: p, d => by
    rw [lastV, lastV_wr p]
    unfold writtenOf
    by_cases c : x.w = true
    · simp [c]
    · simp [c]
theorem wr_app (p s : List Op) : writtenOf (p ++ s) = writtenOf p ++ writtenOf s := by
  unfold writtenOf; rw [List.filter_append, List.map_append]
/-- the value of a step is the one written last -/
theorem step_val {p s : List Op} {x : Op} (h : goR (p ++ x :: s) 0 = true) : x.v = lastV (p ++ [x]) 0 := by
  rw [goR_app, Bool.and_eq_true] at h
  have h2 := h.2
  rw [goR] at h2
  rw [lastV_app, lastV, lastV]
  by_cases c : x.w = true
  · rw [if_pos c]
  · rw [if_neg c] at h2 ⊢
    rw [Bool.and_eq_true, decide_eq_true_eq] at h2
    exact h2.1
/-- .. and stands at the place of its write -/
theorem ix_step {p s : List Op} {x : Op} (nd : (0 :: writtenOf (p ++ x :: s)).Nodup) (h : goR (p ++ x :: s) 0 = true) : ix (0 :: writtenOf (p ++ x :: s)) x.v = (writtenOf (p ++ [x])).length ∧ x.v ∈ 0 :: writtenOf (p ++ x :: s) := by
  have hv := step_val h
  rw [lastV_wr] at hv
  have e : 0 :: writtenOf (p ++ x :: s) = (0 :: writtenOf (p ++ [x])) ++ writtenOf s := by
    rw [show p ++ x :: s = (p ++ [x]) ++ s by simp, wr_app]; rfl
  rw [e] at nd ⊢
  have hd : 0 :: writtenOf (p ++ [x]) = (0 :: writtenOf (p ++ [x])).dropLast ++ [x.v] := by
    rw [hv]
    exact (List.dropLast_concat_getLast _).symm
  have hlen : (writtenOf (p ++ [x])).length = (0 :: writtenOf (p ++ [x])).dropLast.length := by rw [List.length_dropLast]; simp
  rw [hlen]
  generalize (0 :: writtenOf (p ++ [x])).dropLast = T at *
  rw [hd, List.append_assoc] at nd ⊢
  refine ⟨ix_at fun z => ?_, by simp⟩
  rw [List.nodup_append] at nd
  exact nd.2.2 x.v z x.v (by simp) rfl
theorem wr_len_mono {p q : List Op} (h : p <+: q) : (writtenOf p).length ≤ (writtenOf q).length := by
  obtain ⟨s, rfl⟩ := h
  rw [wr_app, List.length_append]; omega
/-- positions -/
theorem at_split {w : List Op} {i : Nat} (h : i < w.length) : w = w.take i ++ w[i] :: w.drop (i + 1) := by
  rw [List.getElem_cons_drop, List.take_append_drop]
theorem snoc_take {w : List Op} {i : Nat} (h : i < w.length) : w.take i ++ [w[i]] = w.take (i + 1) := by
  rw [List.take_append_getElem]
theorem ix_pos {w : List Op} (nd : (0 :: writtenOf w).Nodup) (hg : goR w 0 = true) {i : Nat} (h : i < w.length) : ix (0 :: writtenOf w) w[i].v = (writtenOf (w.take (i + 1))).length ∧ w[i].v ∈ 0 :: writtenOf w := by
  have e := at_split h
  have := ix_step (p := w.take i) (x := w[i]) (s := w.drop (i + 1)) (by rw [← e]; exact nd) (by rw [← e]; exact hg)
  rw [← e, snoc_take h] at this
  exact this
/-- who is before has no later value -/
theorem rank_le {w : List Op} (nd : (0 :: writtenOf w).Nodup) (hp : w.Pairwise NoBack) (hg : goR w 0 = true) {a b : Op} (ha : a ∈ w) (hb : b ∈ w) (h : a.before b = true) :
    ix (0 :: writtenOf w) a.v ≤ ix (0 :: writtenOf w) b.v := by
  obtain ⟨i, hi, rfl⟩ := List.getElem_of_mem ha
  obtain ⟨j, hj, rfl⟩ := List.getElem_of_mem hb
  rw [(ix_pos nd hg hi).1, (ix_pos nd hg hj).1]
  by_cases c : j < i
  · have := List.pairwise_iff_getElem.mp hp j i hj hi c
    unfold NoBack at this
    rw [h] at this; cases this
  · exact wr_len_mono (List.take_prefix_take_left (by omega))
theorem val_in {w : List Op} (nd : (0 :: writtenOf w).Nodup) (hg : goR w 0 = true) {a : Op} (ha : a ∈ w) : a.v ∈ 0 :: writtenOf w := by
  obtain ⟨i, hi, rfl⟩ := List.getElem_of_mem ha
  exact (ix_pos nd hg hi).2
/-- a read does not end before its write starts -/
theorem not_early {w : List Op} (nd : (0 :: writtenOf w).Nodup) (hp : w.Pairwise NoBack) (hg : goR w 0 = true) {a b : Op} (ha : a ∈ w) (hb : b ∈ w) (aw : a.w = false) (bw : b.w = true) (e : a.v = b.v) : a.before b = false := by
  obtain ⟨i, hi, rfl⟩ := List.getElem_of_mem ha
  obtain ⟨j, hj, rfl⟩ := List.getElem_of_mem hb
  by_cases c : j < i
  · exact List.pairwise_iff_getElem.mp hp j i hj hi c
  · have hne : i ≠ j := by
      intro z; subst z; rw [aw] at bw; cases bw
    have h1 := (ix_pos nd hg hi).1
    have h2 := (ix_pos nd hg hj).1
    rw [e, h2] at h1
    rw [← snoc_take hj, wr_app, List.length_append] at h1
    have h3 : writtenOf [w[j]] = [w[j].v] := by unfold writtenOf; simp [bw]
    have h4 := wr_len_mono (w.take_prefix_take_left (i := i + 1) (j := j) (by omega))
    rw [h3] at h1
    simp at h1
    omega
/-! ### zones -/
def endsOf (l : List Op) (v : Int) : List Int := (l.filter fun o => o.v == v).map Op.e ++ (if v = 0 then [-1] else [])
def startsOf (l : List Op) (v : Int) : List Int := (l.filter fun o => o.v == v).map Op.s ++ (if v = 0 then [-2] else [])
def zE (l : List Op) (v : Int) : Int := minI (endsOf l v)
def zS (l : List Op) (v : Int) : Int := maxI (startsOf l v)
/-- 0 or written -/
def ValIn (l : List Op) (v : Int) : Prop := v ∈ 0 :: writtenOf l
def early (l : List Op) (o : Op) : Prop := o.w = false ∧ 0 < o.v ∧ ∀ x ∈ l, x.w = true → x.v = o.v → o.e < x.s
theorem ends_ne {l : List Op} {v : Int} (h : ValIn l v) : endsOf l v ≠ [] ∧ startsOf l v ≠ [] := by
  unfold endsOf startsOf
  by_cases c : v = 0
  · simp [c]
  · rcases List.mem_cons.mp h with z | z
    · exact absurd z c
    · unfold writtenOf at z
      obtain ⟨o, ho, e⟩ := List.mem_map.mp z
      have ho := (List.mem_filter.mp ho).1
      have : o ∈ l.filter fun o => o.v == v := List.mem_filter.mpr ⟨ho, by simp [e]⟩
      constructor
      · intro y
        have y1 := (List.append_eq_nil_iff.mp y).1
        rw [List.map_eq_nil_iff] at y1
        rw [y1] at this; simp at this
      · intro y
        have y1 := (List.append_eq_nil_iff.mp y).1
        rw [List.map_eq_nil_iff] at y1
        rw [y1] at this; simp at this
theorem zE_le {l : List Op} {o : Op} (ho : o ∈ l) : zE l o.v ≤ o.e := by
  have hm : o.e ∈ endsOf l o.v := List.mem_append_left _ (List.mem_map.mpr ⟨o, List.mem_filter.mpr ⟨ho, by simp⟩, rfl⟩)
  exact (minI_mem (List.ne_nil_of_mem hm)).2 _ hm
theorem le_zS {l : List Op} {o : Op} (ho : o ∈ l) : o.s ≤ zS l o.v := by
  have hm : o.s ∈ startsOf l o.v := List.mem_append_left _ (List.mem_map.mpr ⟨o, List.mem_filter.mpr ⟨ho, by simp⟩, rfl⟩)
  exact (maxI_mem (List.ne_nil_of_mem hm)).2 _ hm
theorem zE_at {l : List Op} {v : Int} (h : ValIn l v) : (∃ o ∈ l, o.v = v ∧ zE l v = o.e) ∨ (v = 0 ∧ zE l v = -1) := by
  have := (minI_mem (ends_ne h).1).1
  rcases List.mem_append.mp this with z | z
  · obtain ⟨o, ho, e⟩ := List.mem_map.mp z
    obtain ⟨h1, h2⟩ := List.mem_filter.mp ho
    exact .inl ⟨o, h1, by simpa using h2, e.symm⟩
  · by_cases c : v = 0
    · rw [if_pos c] at z; simp at z; exact .inr ⟨c, z⟩
    · rw [if_neg c] at z; simp at z
theorem zS_at {l : List Op} {v : Int} (h : ValIn l v) : (∃ o ∈ l, o.v = v ∧ zS l v = o.s) ∨ (v = 0 ∧ zS l v = -2) := by
  have := (maxI_mem (ends_ne h).2).1
  rcases List.mem_append.mp this with z | z
  · obtain ⟨o, ho, e⟩ := List.mem_map.mp z
    obtain ⟨h1, h2⟩ := List.mem_filter.mp ho
    exact .inl ⟨o, h1, by simpa using h2, e.symm⟩
  · by_cases c : v = 0
    · rw [if_pos c] at z; simp at z; exact .inr ⟨c, z⟩
    · rw [if_neg c] at z; simp at z
structure Plain (l : List Op) : Prop where
  t : ∀ o ∈ l, 0 ≤ o.s ∧ o.s < o.e
  r : ∀ o ∈ l, 0 ≤ o.v
  w : ∀ o ∈ l, o.w = true → 0 < o.v
  nd : (writtenOf l).Nodup
  up : l.Pairwise fun a b => a.s < b.s
theorem Plain.nd0 {l : List Op} (P : Plain l) : (0 :: writtenOf l).Nodup := by
  rw [List.nodup_cons]
  refine ⟨fun z => ?_, P.nd⟩
  unfold writtenOf at z
  obtain ⟨o, ho, e⟩ := List.mem_map.mp z
  obtain ⟨h1, h2⟩ := List.mem_filter.mp ho
  have := P.w o h1 h2
  omega
theorem wr_perm {l w : List Op} (h : w.Perm l) : (writtenOf w).Perm (writtenOf l) := (h.filter _).map _
/-- an order: the zones do not forbid each other -/
theorem zones_go {l w : List Op} (P : Plain l) (hp : w.Perm l) (hg : goV w 0 = true) {u v : Int} (hu : ValIn l u) (hv : ValIn l v) (ne : u ≠ v) (h1 : zE l u < zS l v) (h2 : zE l v < zS l u) : False := by
  obtain ⟨pw, gr⟩ := (goV_iff w 0).mp hg
  have nd : (0 :: writtenOf w).Nodup := ((wr_perm hp).cons 0).nodup_iff.mpr P.nd0
  have key : ∀ {u v : Int}, ValIn l u → ValIn l v → zE l u < zS l v → ix (0 :: writtenOf w) u ≤ ix (0 :: writtenOf w) v := by
    intro u v hu hv h
    rcases zE_at hu with ⟨a, ha, ea, e1⟩ | ⟨e0, e1⟩
    · rcases zS_at hv with ⟨b, hb, eb, e2⟩ | ⟨e0, e2⟩
      · rw [e1, e2] at h
        have := rank_le nd pw gr (hp.mem_iff.mpr ha) (hp.mem_iff.mpr hb) (by unfold Op.before; simpa using h)
        rw [ea, eb] at this
        exact this
      · have := P.t a ha
        omega
    · subst e0
      rw [ix, if_pos rfl]
      omega
  have k1 := key hu hv h1
  have k2 := key hv hu h2
  have mu : u ∈ 0 :: writtenOf w := ((wr_perm hp).cons 0).mem_iff.mpr hu
  have mv : v ∈ 0 :: writtenOf w := ((wr_perm hp).cons 0).mem_iff.mpr hv
  exact ne (ix_inj mu mv (by omega))
theorem early_go {l w : List Op} (P : Plain l) (hp : w.Perm l) (hg : goV w 0 = true) {o : Op} (ho : o ∈ l) : ¬ early l o := by
  rintro ⟨h1, h2, h3⟩
  obtain ⟨pw, gr⟩ := (goV_iff w 0).mp hg
  have nd : (0 :: writtenOf w).Nodup := ((wr_perm hp).cons 0).nodup_iff.mpr P.nd0
  have hm := val_in nd gr (hp.mem_iff.mpr ho)
  rcases List.mem_cons.mp hm with z | z
  · omega
  · unfold writtenOf at z
    obtain ⟨x, hx, ex⟩ := List.mem_map.mp z
    obtain ⟨x1, x2⟩ := List.mem_filter.mp hx
    have := not_early nd pw gr (hp.mem_iff.mpr ho) x1 h1 x2 ex.symm
    have h4 := h3 x (hp.mem_iff.mp x1) x2 ex
    unfold Op.before at this
    simp at this
    omega
end CS
/-! M30: answers that are none; the law's own best pair. -/
namespace CS
open PySem
abbrev FA : Ev → Option Out := (sSeq (sIf (dOrT (dNotT (dTru (dIsi "tuple" (dVar 2)))) (dOrT (dT (d2 pNe (dB pLen (dCons (dVar 2) dNil)) (dC (.int 3)))) (dNotT (dTru (dIsi "bool" (d2 pIx (dVar 2) (dC (.int 2)))))))) (sRaise 3) sNext)
    (sIf (dOrT (dTru (dLc [3] (dSeqI (dSl (dVar 2) dNoPart (dPart (dC (.int 2))))) (aName 3) (dNotT (dTru (dB m_in_range (dCons (dVar 3) (dCons (dC (.int 0)) (dCons (d2 pSub (dB pLen (dCons (dVar 0) dNil)) (dC (.int 1))) dNil)))))) (dVar 3))) (dT (d2 pEq (d2 pIx (dVar 2) (dC (.int 0))) (d2 pIx (dVar 2) (dC (.int 1)))))) (sRaise 3) sNext))
/-- what is no answer -/
inductive Bad (l : List Op) : PyData → Prop
  | nt (d : PyData) (h : noDict d = true) (h2 : isD "tuple" d = false) : Bad l d
  | two (a b : PyData) : Bad l (.tuple [a, b])
  | nb (a b : PyData) (c : Int) : Bad l (.tuple [a, b, .int c])
  | rng (a b : Option Int) (t : Bool) (h : inR 0 ((l.length : Int) - 1) a = false ∨ inR 0 ((l.length : Int) - 1) b = false) : Bad l (.tuple [encOI a, encOI b, .bool t])
  | same (a : Int) (t : Bool) (h : 0 ≤ a ∧ a < l.length) : Bad l (.tuple [.int a, .int a, .bool t])
theorem bad_lc (l : List Op) (a b : Option Int) (t : Bool) (c1 : Cell) : (dLc [3] (dSeqI (dSl (dVar 2) dNoPart (dPart (dC (.int 2))))) (aName 3) (dNotT (dTru (dB m_in_range (dCons (dVar 3) (dCons (dC (.int 0)) (dCons (d2 pSub (dB pLen (dCons (dVar 0) dNil)) (dC (.int 1))) dNil)))))) (dVar 3)) (view [.dat (encO l), c1, .dat (.tuple [encOI a, encOI b, .bool t]), .no]) = some (.list (([a, b].filter fun x => !inR 0 ((l.length : Int) - 1) x).map encOI)) := by
  have hs2 : pSl (.tuple [encOI a, encOI b, .bool t]) none (some 2) = some (.tuple ([a, b].map encOI)) := rfl
  simp only [x_lc, x_SeqI, x_Sl, x_Part, x_noPart, x_C, view, List.map_cons, List.map_nil, v_dat, v_no, var_s, var_0, b_some, asI_i, m_some]
  rw [hs2]
  simp only [b_some, asSeq_t]
  rw [comp1 encOI (fun x => !inR 0 ((l.length : Int) - 1) x) encOI]
  · rfl
  · rfl
  · intro x hx
    refine ⟨?_, fun z => by simp⟩
    simp
theorem bad_body {l : List Op} {d : PyData} (h : Bad l d) (c1 : Cell) : FA [.dat (encO l), c1, .dat d, .no] = some (.xc 3 [.dat (encO l), c1, .dat d, .no]) := by
  have fst : ∀ G : Ev → Option Out, (dOrT (dNotT (dTru (dIsi "tuple" (dVar 2)))) (dOrT (dT (d2 pNe (dB pLen (dCons (dVar 2) dNil)) (dC (.int 3)))) (dNotT (dTru (dIsi "bool" (d2 pIx (dVar 2) (dC (.int 2)))))))) (view [.dat (encO l), c1, .dat d, .no]) = some true →
      sSeq (sIf (dOrT (dNotT (dTru (dIsi "tuple" (dVar 2)))) (dOrT (dT (d2 pNe (dB pLen (dCons (dVar 2) dNil)) (dC (.int 3)))) (dNotT (dTru (dIsi "bool" (d2 pIx (dVar 2) (dC (.int 2)))))))) (sRaise 3) sNext) G [.dat (encO l), c1, .dat d, .no] = some (.xc 3 [.dat (encO l), c1, .dat d, .no]) := by
    intro G e
    rw [e_seq, if_yes e rfl]
    rfl
  have snd : (dOrT (dNotT (dTru (dIsi "tuple" (dVar 2)))) (dOrT (dT (d2 pNe (dB pLen (dCons (dVar 2) dNil)) (dC (.int 3)))) (dNotT (dTru (dIsi "bool" (d2 pIx (dVar 2) (dC (.int 2)))))))) (view [.dat (encO l), c1, .dat d, .no]) = some false →
      (dOrT (dTru (dLc [3] (dSeqI (dSl (dVar 2) dNoPart (dPart (dC (.int 2))))) (aName 3) (dNotT (dTru (dB m_in_range (dCons (dVar 3) (dCons (dC (.int 0)) (dCons (d2 pSub (dB pLen (dCons (dVar 0) dNil)) (dC (.int 1))) dNil)))))) (dVar 3))) (dT (d2 pEq (d2 pIx (dVar 2) (dC (.int 0))) (d2 pIx (dVar 2) (dC (.int 1)))))) (view [.dat (encO l), c1, .dat d, .no]) = some true →
      FA [.dat (encO l), c1, .dat d, .no] = some (.xc 3 [.dat (encO l), c1, .dat d, .no]) := by
    intro e1 e2
    exact seq_nxs (if_no e1) (if_yes e2 rfl)
  cases h with
  | nt d h1 h2 => exact fst _ (by simp [h1, h2])
  | two a b => exact fst _ (by simp [noDict, isD])
  | nb a b c => exact fst _ (by simp [noDict, isD])
  | rng a b t h =>
    refine snd (by simp [noDict, isD]) ?_
    rw [x_OrT, x_Tru, bad_lc, b_some, t_list, map_empty, filter_empty, b_some]
    rcases h with h | h
    · simp [h]
    · simp [h]
  | same a t h =>
    refine snd (by simp [noDict, isD]) ?_
    have e := bad_lc l (some a) (some a) t c1
    have e' : PyData.tuple [encOI (some a), encOI (some a), .bool t] = .tuple [.int a, .int a, .bool t] := rfl
    rw [e'] at e
    have r : inR 0 ((l.length : Int) - 1) (some a) = true := by simp [inR]; omega
    rw [x_OrT, x_Tru, e, b_some, t_list, map_empty, filter_empty, b_some]
    simp [r]
/-- answers, then one that is none -/
theorem check_bad {l : List Op} (hs : storyOk l = true) (hne : expls l ≠ []) {as : List Ans} (ha : ∀ a ∈ as, ansOk l a) {d : PyData} (h : Bad l d) : m_check_answers [encO l, .tuple (as.map encA ++ [d])] = some (.error 3) := by
  have hl := storyOk_len hs
  have hx : m_explanations_of [encO l, .int 1] = some (.list (((expls l).take 1).map encI)) := explanations_ok hl (most := 1) (by decide) (by decide)
  have he : (((expls l).take 1).map encI).isEmpty = false := by
    rw [map_empty]
    cases e : expls l with
    | nil => exact absurd e hne
    | cons _ _ => rfl
  have lp : ∀ (bs : List Ans) (c1 c2 : Cell), (∀ a ∈ bs, ansOk l a) → ∃ c2', forD (aName 2) FA (bs.map encA ++ [d]) [.dat (encO l), c1, c2, .no] = some (.xc 3 [.dat (encO l), c1, c2', .no]) := by
    intro bs
    induction bs with
    | nil =>
      intro c1 c2 _
      refine ⟨.dat d, ?_⟩
      rw [List.map_nil, List.nil_append, forD, a_name, b_some, sD_cons, sD_nil]
      show (FA [.dat (encO l), c1, .dat d, .no]).bind _ = _
      rw [bad_body h c1, b_some]
    | cons a bs ih =>
      intro c1 c2 hb
      obtain ⟨c2', e⟩ := ih c1 (.dat (encA a)) fun x hx => hb x (List.mem_cons_of_mem _ hx)
      refine ⟨c2', ?_⟩
      obtain ⟨h1, h2, h3⟩ := hb a (List.mem_cons_self ..)
      have body : FA [.dat (encO l), c1, .dat (encA a), .no] = some (.nx [.dat (encO l), c1, .dat (encA a), .no]) := by
        refine seq_nxs (if_no ?_) (if_no ?_)
        · simp [encA, noDict, isD]
        · have e := bad_lc l (some a.1) (some a.2.1) a.2.2 c1
          have e' : PyData.tuple [encOI (some a.1), encOI (some a.2.1), .bool a.2.2] = encA a := rfl
          rw [e'] at e
          have r1 : inR 0 ((l.length : Int) - 1) (some a.1) = true := by simp [inR]; omega
          have r2 : inR 0 ((l.length : Int) - 1) (some a.2.1) = true := by simp [inR]; omega
          have i0 : pIx (encA a) (.int 0) = some (.int a.1) := rfl
          have i1 : pIx (encA a) (.int 1) = some (.int a.2.1) := rfl
          rw [x_OrT, x_Tru, e, b_some, t_list, map_empty, filter_empty, b_some]
          simp [r1, r2, i0, i1, h3]
      rw [List.map_cons, List.cons_append, forD, a_name, b_some, sD_cons, sD_nil]
      show (FA [.dat (encO l), c1, .dat (encA a), .no]).bind _ = _
      rw [body, b_some]
      exact e
  obtain ⟨c2', e⟩ := lp as (.dat (.tuple (as.map encA ++ [d]))) .no ha
  simp only [m_check_answers, e_fnX, b_check_answers]
  refine seq_nx (ρ' := [.dat (encO l), .dat (.tuple (as.map encA ++ [d])), .no, .no]) (by simp [check_ok hs]) (seq_nx (if_no ?_) (seq_nx (if_no ?_) ?_))
  · simp only [x_NotT, x_Tru, x_B, x_cons, x_nil, x_C, view, List.map_cons, List.map_nil, v_dat, v_no, var_s, var_0, b_some, hx, t_list, he]
    rfl
  · simp [noDict, isD]
  · simp only [e_for, x_SeqI, var_s, var_0, b_some, asSeq_t]
    rw [e]
    rfl
/-- no tuple at all -/
theorem check_bad2 {l : List Op} (hs : storyOk l = true) (hne : expls l ≠ []) {d : PyData} (h : noDict d = true) (h2 : isD "tuple" d = false) : m_check_answers [encO l, d] = some (.error 3) := by
  have hl := storyOk_len hs
  have hx : m_explanations_of [encO l, .int 1] = some (.list (((expls l).take 1).map encI)) := explanations_ok hl (most := 1) (by decide) (by decide)
  have he : (((expls l).take 1).map encI).isEmpty = false := by
    rw [map_empty]
    cases e : expls l with
    | nil => exact absurd e hne
    | cons _ _ => rfl
  simp only [m_check_answers, e_fnX, b_check_answers]
  refine seq_nx (ρ' := [.dat (encO l), .dat d, .no, .no]) (by simp [check_ok hs]) (seq_nx (if_no ?_) ?_)
  · simp only [x_NotT, x_Tru, x_B, x_cons, x_nil, x_C, view, List.map_cons, List.map_nil, v_dat, v_no, var_s, var_0, b_some, hx, t_list, he]
    rfl
  · have : sIf (dNotT (dTru (dIsi "tuple" (dVar 1)))) (sRaise 3) sNext [.dat (encO l), .dat d, .no, .no] = some (.xc 3 [.dat (encO l), .dat d, .no, .no]) := if_yes (by simp [h, h2]) rfl
    rw [e_seq, this]
    rfl
theorem candidates_er {l : List Op} {d : PyData} {k : Nat} (ch : m_check_answers [encO l, d] = some (.error k)) : m_candidates [encO l, d] = some (.error k) := by
  simp only [m_candidates, e_fnX, b_candidates]
  have : sExprR (dBR m_check_answers (dCons (dVar 0) (dCons (dVar 1) dNil))) (start0 7 [encO l, d]) = some (.xc k (start0 7 [encO l, d])) := by
    simp [ch]
  rw [e_seq, this]
  rfl
theorem best_er {l : List Op} {d : PyData} {k : Nat} (ch : m_candidates [encO l, d] = some (.error k)) : m_best_pair [encO l, d] = some (.error k) := by
  simp only [m_best_pair, e_fnX, b_best_pair]
  have : sSetR 2 (dBR m_candidates (dCons (dVar 0) (dCons (dVar 1) dNil))) (start0 9 [encO l, d]) = some (.xc k (start0 9 [encO l, d])) := by
    unfold sSetR
    simp [ch]
  rw [e_seq, this]
  rfl
theorem hidden_bad {l : List Op} {d : PyData} (ch : m_check_answers [encO l, d] = some (.error 3)) (m : Int) : m__law_hidden [.int m, encO l, d] = some (.str "answers") := by
  have h1 := candidates_er ch
  have h2 := best_er h1
  simp only [m__law_hidden, e_fn, b__law_hidden]
  unfold sTry
  rw [if_pos (by simp [e_start3])]
  have e : rIf (dT (d2 pEq (dVar 0) (dC (.int 0)))) (dBR m_candidates (dCons (dVar 1) (dCons (dVar 2) dNil))) (dBR m_best_pair (dCons (dVar 1) (dCons (dVar 2) dNil))) (view (start0 4 [.int m, encO l, d])) = some (.error 3) := by
    unfold rIf
    by_cases c : m = 0
    · simp [c, h1]
    · simp [c, h2]
  rw [e, b_some]
  rfl
theorem hidden_best {l : List Op} {d r : PyData} {x : Except Nat PyData} (h : m_best_pair [encO l, d] = some x) (hx : x = .ok r ∨ (x = .error 3 ∧ r = .str "answers")) : m__law_hidden [.int 1, encO l, d] = some r := by
  simp only [m__law_hidden, e_fn, b__law_hidden]
  unfold sTry
  rw [if_pos (by simp [e_start3])]
  have e : rIf (dT (d2 pEq (dVar 0) (dC (.int 0)))) (dBR m_candidates (dCons (dVar 1) (dCons (dVar 2) dNil))) (dBR m_best_pair (dCons (dVar 1) (dCons (dVar 2) dNil))) (view (start0 4 [.int 1, encO l, d])) = some x := by
    unfold rIf
    simp [h]
  rw [e, b_some]
  rcases hx with rfl | ⟨rfl, rfl⟩
  · rfl
  · rfl
/-! the law's own best pair -/
abbrev KL : Ev → Option Out := (sSeq (sSet 5 (dB pLen (dCons (dLc [7] (dSeqI (dVar 1)) (aName 7) (dT (d2 pLt (d2 pTIndex (dVar 7) (dVar 3)) (d2 pTIndex (dVar 7) (dVar 4)))) (dVar 7)) dNil)))
    (sSeq (sSet 6 (dB pMax (dCons (dVar 5) (dCons (d2 pSub (dB pLen (dCons (dVar 1) dNil)) (dVar 5)) dNil))))
    (sIf (dAndT (dT (d2 pLt (dVar 6) (dB pLen (dCons (dVar 1) dNil)))) (dOrT (dT (d2 (pIsN false) (dVar 2) (dC .none))) (dT (d2 pLt (dVar 6) (d2 pIx (dVar 2) (dC (.int 0))))))) (sSet 2 (dTup (dCons (dVar 6) (dCons (dTup (dCons (dVar 3) (dCons (dVar 4) dNil))) dNil)))) sNext)))
theorem lbest_in {l : List Op} {F : List (List Int)} (hF : ∀ o ∈ F, o ∈ expls l) {a b : Int} (ha : 0 ≤ a ∧ a < l.length) (hb : 0 ≤ b ∧ b < l.length) (c0 c5 c6 c7 : Cell) (best : Best) : ∃ c5' c6', KL [c0, .dat (.list (F.map encI)), .dat (encB best), .dat (.int a), .dat (.int b), c5, c6, c7] = some (.nx [c0, .dat (.list (F.map encI)), .dat (encB (stepB F best a b)), .dat (.int a), .dat (.int b), c5', c6', c7]) := by
  refine ⟨.dat (.int (cntP F a b)), .dat (.int (worstP F a b)), ?_⟩
  refine seq_nxs (set_of (d := .int (cntP F a b)) ?_) (seq_nxs (set_of (d := .int (worstP F a b)) ?_) ?_)
  · simp only [x_B, x_cons, x_nil, x_lc, x_SeqI, var_s, var_0, b_some, asSeq_l]
    rw [comp1 encI (fun o => decide (ix o a < ix o b)) encI]
    · rw [m_some, b_some, b_some, p_lenL, List.length_map]; rfl
    · rfl
    · intro o ho
      have t1 := t_index (k := a) ((expls_mem (hF o ho) _).mpr ha)
      have t2 := t_index (k := b) ((expls_mem (hF o ho) _).mpr hb)
      simp [t1, t2]
  · have pm : ∀ i j : Int, pMax [.int i, .int j] = some (.int (if j > i then j else i)) := fun _ _ => rfl
    simp only [List.set_cons_succ, List.set_cons_zero, x_B, x_cons, x_nil, x_d2, var_s, var_0, b_some, p_lenL, List.length_map, p_sub, pm]
    rfl
  · simp only [List.set_cons_succ, List.set_cons_zero]
    have hc : (dAndT (dT (d2 pLt (dVar 6) (dB pLen (dCons (dVar 1) dNil)))) (dOrT (dT (d2 (pIsN false) (dVar 2) (dC .none))) (dT (d2 pLt (dVar 6) (d2 pIx (dVar 2) (dC (.int 0))))))) (view [c0, .dat (.list (F.map encI)), .dat (encB best), .dat (.int a), .dat (.int b), .dat (.int (cntP F a b)), .dat (.int (worstP F a b)), c7]) = some (condB F best a b) := by
      unfold condB
      simp only [x_AndT, x_OrT, x_T, x_d2, x_B, x_cons, x_nil, x_C, view, List.map_cons, List.map_nil, v_dat, var_s, var_0, b_some, p_lenL, List.length_map, p_lt, asB_b, isN_B]
      cases best with
      | none => simp only [Option.isNone_none, kOr_t, kAnd_b]
      | some p =>
        have hp : pIx (encB (some p)) (.int 0) = some (.int p.1) := rfl
        simp only [Option.isNone_some, kOr_f, hp, b_some, p_lt, asB_b, kAnd_b]
    unfold stepB
    by_cases c : condB F best a b = true
    · rw [if_pos c]
      refine if_yes (hc.trans (by rw [c])) ?_
      simp [encB, enc2]
    · rw [if_neg c]
      exact if_no (hc.trans (by rw [eq_false_of_ne_true c]))
theorem lbest_row {l : List Op} {F : List (List Int)} (hF : ∀ o ∈ F, o ∈ expls l) {a : Int} (ha : 0 ≤ a ∧ a < l.length) (c0 c4 c5 c6 c7 : Cell) (best : Best) : ∃ c4' c5' c6', forD (aName 4) KL ((upI (a + 1) l.length).map .int) [c0, .dat (.list (F.map encI)), .dat (encB best), .dat (.int a), c4, c5, c6, c7] = some (.nx [c0, .dat (.list (F.map encI)), .dat (encB (rowB F a best (upI (a + 1) l.length))), .dat (.int a), c4', c5', c6', c7]) := by
  obtain ⟨ρ', e, c4', c5', c6', rfl⟩ := for_mapJ (a := aName 4) (F := KL) PyData.int (fun done ρ => ∃ c4 c5 c6, ρ = [c0, .dat (.list (F.map encI)), .dat (encB (rowB F a best done)), .dat (.int a), c4, c5, c6, c7]) (upI (a + 1) l.length) [] [c0, .dat (.list (F.map encI)), .dat (encB best), .dat (.int a), c4, c5, c6, c7] ⟨_, _, _, rfl⟩ (by
    rintro done b rest ρ er ⟨c4, c5, c6, rfl⟩
    rw [List.nil_append] at er
    have hb := upI_mem (x := b) (by rw [er]; simp)
    obtain ⟨c5', c6', e⟩ := lbest_in hF ha (b := b) (by omega) c0 c5 c6 c7 (rowB F a best done)
    refine ⟨_, _, a_name _ _, e, .dat (.int b), c5', c6', ?_⟩
    unfold rowB
    rw [List.foldl_append]; rfl)
  exact ⟨c4', c5', c6', e⟩
def bestD (F : List (List Int)) (n : Nat) : PyData := if F = [] then .str "answers" else match bestF F n with
  | none => .none
  | some p => enc2 p.2
theorem law_best_ok {l : List Op} (hl : l.length ≤ 6) {F : List (List Int)} (hF : ∀ o ∈ F, o ∈ expls l) : m__law_best [.int ((l.length : Nat) : Int), .list (F.map encI)] = some (bestD F l.length) := by
  have pr : pRng [.int ((l.length : Nat) : Int)] = some (rngD 0 l.length) := pRng1 _ (by omega)
  have hq := eq_nil_x F
  simp only [m__law_best, e_fn, b__law_best]
  unfold bestD
  by_cases c : F = []
  · rw [if_pos c]
    refine seq_rt (if_yes ?_ (ret_of (x_C _ _))) rfl
    subst c
    have hq : pEq (.list []) (.list []) = some (.bool true) := by simpa using hq
    simp [hq]
  · rw [if_neg c]
    obtain ⟨ρ', e, c3, c4, c5, c6, rfl⟩ := for_rng (a := aName 3) (F := (sFor (dRng (dCons (d2 pAdd (dVar 3) (dC (.int 1))) (dCons (dVar 0) dNil))) (aName 4) KL)) l.length
      (fun i ρ => ∃ c3 c4 c5 c6, ρ = [.dat (.int ((l.length : Nat) : Int)), .dat (.list (F.map encI)), .dat (encB ((nums i).foldl (fun best a => rowB F a best (upI (a + 1) l.length)) none)), c3, c4, c5, c6, .no])
      [.dat (.int ((l.length : Nat) : Int)), .dat (.list (F.map encI)), .dat .none, .no, .no, .no, .no, .no] ⟨_, _, _, _, rfl⟩ (by
        rintro i ρ hi ⟨c3, c4, c5, c6, rfl⟩
        obtain ⟨c4', c5', c6', e⟩ := lbest_row hF (a := ((i : Nat) : Int)) (by omega) (.dat (.int ((l.length : Nat) : Int))) c4 c5 c6 .no ((nums i).foldl (fun best a => rowB F a best (upI (a + 1) l.length)) none)
        refine ⟨_, [.dat (.int ((l.length : Nat) : Int)), .dat (.list (F.map encI)), .dat (encB ((nums (i + 1)).foldl (fun best a => rowB F a best (upI (a + 1) l.length)) none)), .dat (.int (i : Nat)), c4', c5', c6', .no], a_name _ _, ?_, _, _, _, _, rfl⟩
        simp only [sD_cons, sD_nil, List.set_cons_succ, List.set_cons_zero, e_for, x_Rng, x_cons, x_d2, x_C, x_B, x_nil, var_s, var_0, b_some, p_add, pRngU (show (0 : Int) ≤ (i : Int) + 1 by omega) (show (i : Int) + 1 ≤ 1000 by omega) (show l.length ≤ 1000 by omega)]
        rw [nums_succ, List.foldl_append]
        exact e)
    refine seq_nx (if_no ?_) (seq_nx (set_of (d := .none) rfl) (seq_nx (ρ' := [.dat (.int ((l.length : Nat) : Int)), .dat (.list (F.map encI)), .dat (encB (bestF F l.length)), c3, c4, c5, c6, .no]) ?_ ?_))
    · have he : F.isEmpty = false := by simpa using c
      rw [he] at hq
      simp [hq]
    · simp only [e_start2, rep_s, rep_0, List.set_cons_succ, List.set_cons_zero, e_for, x_Rng, x_cons, x_B, x_nil, var_s, var_0, b_some, pr]
      exact e
    · simp only [e_ret, x_If, x_T, x_d2, x_C, view, List.map_cons, List.map_nil, v_dat, var_s, var_0, b_some, isN_B, asB_b]
      cases bestF F l.length with
      | none => rfl
      | some p => rfl
end CS
/-! D14a: set(xs) of a list of ints. -/
namespace CS
open PySem PySem.Spec L2 PyProof.Rows
/-- a new set -/
abbrev set0 (w : World) : Obj := { cls := .type "set", dict := none, data := .set #[] 0 (.fresh 0 0 (!w.params.followText "set-order")) }
section
variable {P : Program} {w : World} {A : Around} {E : Value → Shared → Prop} {s : Shared}
set_option maxRecDepth 100000 in
set_option maxHeartbeats 3200000 in
theorem set_of_ints {l : Addr} {vs : Array Value} (ns : List Int) {Q : Value → Shared → Prop} (calm : A.handled = none) (hl : s.heap.IsList l vs) (hv : IntsAre vs.toList ns) (few : ns.length + 1 < scanBound)
    (q : ∀ (g : Heap) (tk c : Nat), SetR w g s.heap.objs.size (fun j => decide (j ∈ ns)) c → c ≤ ns.length → (∀ b o, s.heap.get? b = some o → g.get? b = some o) → Q (.ref s.heap.objs.size) { s with heap := g, toks := tk }) :
    wpAny (model P w) A (call (.type "set") [.ref l]) Q E s := by
  have len : vs.size = ns.length := by have := IntsAre.length hv; rw [Array.length_toList] at this; exact this
  obtain ⟨_, _, mro⟩ := F.called_set.mro
  have f1 := F.called_set.made; have f2 := F.called_set.sub
  have f3 := F.called_set.notType; have f4 := F.called_set.canCreate; have f5 := F.typeCall_set_1 (.ref l)
  refine wpAny_call (codeAny_of_tree (show wpAny _ _ (callAny (.type "set") _) _ _ _ from ?_))
  refine wpAny_pure ⟨Code.quiet_builtin _ (by decide +kernel), codeAny_builtin F.entry_type_call (?_ : _)⟩
  rw [Around.under_plain (weight_type_call_type "set" [Value.ref l] []) rfl]
  repeat (any_goals (first | assumption | wp_step))
  refine codeAny_mono (code_set_led1 (.ref l) (E := E) (Q₁ := fun x s1 => x = .ref s.heap.objs.size ∧ s1 = { s with heap := s.heap.push (set0 w) }) ⟨rfl, rfl⟩) fun r1 s1 w1 => ?_
  cases r1 with
  | error _ => exact w1
  | ok fl =>
    cases fl with
    | ret x =>
      obtain ⟨rfl, rfl⟩ := w1
      have at0 : (s.heap.push (set0 w)).get? s.heap.objs.size = some (set0 w) := Heap.get?_push_size _ rfl
      have ty0 : Shared.TypeIs { s with heap := s.heap.push (set0 w) } (.ref s.heap.objs.size) "set" := ⟨_, at0, rfl⟩
      have f6 := F.called_set.init.lookup; have f7 := F.called_set.init.bind (.ref s.heap.objs.size)
      repeat (any_goals (first | assumption | wp_step))
      refine codeAny_mono (codeAny_call_builtin (R := wants (fun y s2 => y = .none ∧ ∃ g tk c, s2 = { s with heap := g, toks := tk } ∧ SetR w g s.heap.objs.size (fun j => decide (j ∈ ns)) c ∧ c ≤ ns.length ∧ ∀ b o, s.heap.get? b = some o → g.get? b = some o) E) F.called_set.init.plain F.entry_set_init (check_set_init_1 ty0 (?_ : _))) fun r2 s2 w2 => ?_
      · obtain ⟨⟨lc, ld, ldt, lsl⟩, lat, lcls, ln, ldat⟩ := hl
        simp only at lcls ldat
        subst lcls; subst ldat
        have lat1 : (s.heap.push (set0 w)).get? l = some { cls := .type "list", dict := ld, data := .seq vs ln, slots := lsl } := Heap.get?_push_of_some _ lat
        have g1 := F.sub_list_set; have g2 := F.sub_list_frozenset
        have g3 : (Value.type "list" == Value.type "dict") = false := by decide
        have isl : (s.heap.push (set0 w)).IsList l vs := ⟨_, lat1, rfl, ln, rfl⟩
        unfold Builtin.«set.__init__» noKeywords Builtin.Frozenset.updateFrom
        generalize hPI : pyIter = PI
        wp_walk
        subst hPI
        refine wpAny_pyIter_list isl (wpAny_bind (wpAny_runValue (?_ : _)))
        have inl : l < s.heap.objs.size := Heap.lt_size lat
        have sz1 : (s.heap.push (set0 w)).objs.size = s.heap.objs.size + 1 := Heap.size_push ..
        have calm3 : A.in1.in1.in1.handled = none := by simp [calm]
        have far : l ≠ (s.heap.push (set0 w)).objs.size := by rw [sz1]; exact Nat.ne_of_lt (Nat.lt_succ_of_lt inl)
        have far2 : s.heap.objs.size ∉ [(s.heap.push (set0 w)).objs.size, l] := by
          rw [sz1]
          intro z
          rcases List.mem_cons.mp z with z | z
          · exact absurd z (Nat.ne_of_lt (Nat.lt_succ_self _))
          · exact absurd (List.mem_singleton.mp z) (Nat.ne_of_gt inl)
        have each : ∀ (i : Nat) (v : Value), vs[i]? = some v → ∃ k t, ns[i]? = some k ∧ v = .int k t := fun i v hv2 => by
          have hi : i < ns.length := by rw [← len]; exact (Array.getElem?_eq_some_iff.mp hv2).1
          obtain ⟨t, e⟩ := PyProof.Rows.IntsAre.int_at hv i v (by rw [Array.getElem?_toList]; exact hv2)
          exact ⟨ns[i], t, List.getElem?_eq_getElem hi, by rw [e, List.getD_eq_getElem?_getD, List.getElem?_eq_getElem hi] <;> rfl⟩
        refine set_update_ints ((Walks.list calm3 _ l far vs).toS) s.heap.objs.size far2 ns len few each (vs.size - 0) 0 _ (by omega) (Nat.zero_le _) ⟨⟨_, Heap.get?_push_size _ rfl, rfl, rfl⟩, (isl.push _)⟩ ⟨0, Nat.le_refl 0, setR_new_at (Heap.get?_push_of_some _ at0)⟩ (?_ : _)
        intro s5 c5 mv lec R5
        obtain ⟨h5, gs5, dr5, tk5, os5⟩ := s5
        have e1 : gs5 = s.gens := mv.gens; have e2 : dr5 = s.drawn := mv.drawn; have e3 : os5 = s.os := mv.os
        subst e1; subst e2; subst e3
        show wpAny _ _ (pure _) _ _ _
        refine wpAny_pure (show wpAny _ _ (ret Value.none) _ _ _ from ?_)
        rw [len] at lec
        refine wpAny_pure ⟨rfl, h5, tk5, c5, rfl, R5, lec, fun b o e => ?_⟩
        have lt := Heap.lt_size e
        refine mv.heap b o (fun z => ?_) (Heap.get?_push_of_some _ (Heap.get?_push_of_some _ e))
        rcases List.mem_cons.mp z with z | z
        · exact absurd z (Nat.ne_of_lt lt)
        · have z2 := List.mem_singleton.mp z
          rw [sz1] at z2
          exact absurd z2 (Nat.ne_of_lt (Nat.lt_succ_of_lt lt))
      · cases r2 with
        | error _ => exact w2
        | ok fl2 =>
          cases fl2 with
          | ret y =>
            obtain ⟨rfl, g, tk, c, rfl, R2, le2, kp⟩ := w2
            repeat (any_goals (first | assumption | wp_step))
            exact q _ _ _ R2 le2 kp
          | _ => exact w2.elim
    | _ => exact w1.elim
end
end CS
/-! D14: sorted(set(xs)) of a list of ints; statements that are not reached. -/
namespace CS
open PySem PySem.Spec L2 PyProof.Rows
section
variable {X : Cx} {K : PySem.W.Frag} {W : WX} {cl : Nat → Value}
/-- the members in ascending order -/
def UpOf (ns us : List Int) : Prop := us.Pairwise (· < ·) ∧ ∀ k, k ∈ us ↔ k ∈ ns
def tSortSetI (K : PySem.W.Frag) (ta : TE) : TE := fun σ H Q => ta σ H fun x H1 => ∃ (l : Addr) (ns : List Int), x = .ref l ∧ SqL K H1 l (ns.map V.int) ∧ ns.length < 64 ∧ ∀ us p, UpOf ns us → us.length ≤ ns.length → H1 p = none → Q (.ref p) (upd H1 p (.lst (us.map V.int)))
theorem pe_sortSetI {a : Expr} {ta : TE} {p p2 q pos : Pos} (hg : Gl X "sorted") (hm : X.mg "sorted" = none) (hg2 : Gl X "set") (hm2 : X.mg "set" = none) (ha : PE X a ta) (hc : X.calm = true := by rfl)
    (na : starEach [a] X.env = (false, eval a X.env) :: starEach [] X.env := by rfl) : PE X (.Call (.Name "sorted" p) [.Call (.Name "set" p2) [a] [] q] [] pos) (tSortSetI X.K ta) := by
  refine ⟨fun pins s σ H Q I h => ?_⟩
  refine Call_ (ld_blt I hg hm boot_sorted ?_)
  refine PyProof.Rows.callWith_builtin1 (PyProof.Rows.args_cons ?_ rfl) rfl rfl
  refine Call_ (ld_blt I hg2 hm2 boot_set ?_)
  refine PyProof.Rows.callWith_type1 (PyProof.Rows.args_cons (thn (ha.run pins s σ H _ I h) fun v s1 ⟨x, H1, I1, r1, q1⟩ => PyProof.Rows.args_nil ?_) na) na rfl
  obtain ⟨l, ns, rfl, hq, hl, q1⟩ := q1
  cases r1
  obtain ⟨its, r, pl, hz⟩ := I1.list hq
  refine set_of_ints ns (I1.ok.hd hc) pl.isList (by simpa using RZ.intsAre_vals r) (by unfold scanBound; omega) fun g tk c R lec kp => ?_
  refine PyProof.Rows.args_nil ?_
  have I2 : Inv X pins σ H1 { s1 with heap := g, toks := tk } := I1.kept kp
  have R2 : SetR X.w ({ s1 with heap := g, toks := tk } : Shared).heap s1.heap.objs.size (fun j => decide (j ∈ ns)) c := R
  clear R
  generalize ({ s1 with heap := g, toks := tk } : Shared) = s2 at I2 R2 ⊢
  refine sorted_set R2 (I2.ok.hd hc) (by omega) fun s' p out c2 us k2 g2 o2 hp hg3 hi hs hm3 hl3 => ?_
  have hn : H1 p = none := I2.hok.fresh hp
  have hlen : (us.map V.int).length ≤ sizeLine := by rw [List.length_map, hl3, sizeLine_eq]; omega
  have J : Inv X pins σ (upd H1 p (.lst (us.map V.int))) { s2 with heap := s'.heap, gens := s'.gens, drawn := s'.drawn, toks := s'.toks } :=
    I2.call (ch := []) (Un.laid k2 hp hn) (I2.hok.laid k2 hp ⟨hlen, out.toList, c2, vals_of_ints hi, hg3⟩) (by rw [g2]; exact I2.bare) (fun _ z => nomatch z)
  have e : s' = { s2 with heap := s'.heap, gens := s'.gens, drawn := s'.drawn, toks := s'.toks } := by
    cases s'; cases s2; cases o2; rfl
  rw [e]
  exact ⟨.ref p, _, J, rfl, q1 us p ⟨hs, fun k => by rw [hm3]; simp⟩ (by rw [hl3]; exact lec) hn⟩
/-! the list itself -/
def insU (x : Int) : List Int → List Int
  | [] => [x]
  | y :: ys => if x < y then x :: y :: ys else if x = y then y :: ys else y :: insU x ys
def upL : List Int → List Int
  | [] => []
  | x :: xs => insU x (upL xs)
theorem insU_mem (x : Int) : ∀ (ys : List Int) (k : Int), k ∈ insU x ys ↔ k = x ∨ k ∈ ys
  | [], k => by simp [insU]
  | y :: ys, k => by
    rw [insU]
    split
    · simp
    · split
      · rename_i h; subst h; simp
      · have := insU_mem x ys k
        simp only [List.mem_cons, this]
        constructor
        · rintro (h | h | h)
          · exact .inr (.inl h)
          · exact .inl h
          · exact .inr (.inr h)
        · rintro (h | h | h)
          · exact .inr (.inl h)
          · exact .inl h
          · exact .inr (.inr h)
theorem insU_up (x : Int) : ∀ ys : List Int, ys.Pairwise (· < ·) → (insU x ys).Pairwise (· < ·)
  | [], _ => by simp [insU]
  | y :: ys, h => by
    rw [insU]
    obtain ⟨h1, h2⟩ := List.pairwise_cons.mp h
    split
    · rename_i c
      refine List.pairwise_cons.mpr ⟨fun z hz => ?_, h⟩
      rcases List.mem_cons.mp hz with z1 | z1
      · omega
      · have := h1 z z1; omega
    · split
      · exact h
      · refine List.pairwise_cons.mpr ⟨fun z hz => ?_, insU_up x ys h2⟩
        rcases (insU_mem x ys z).mp hz with z1 | z1
        · omega
        · exact h1 z z1
theorem upL_up : ∀ ns : List Int, UpOf ns (upL ns)
  | [] => ⟨.nil, fun k => by simp [upL]⟩
  | x :: ns => by
    obtain ⟨h1, h2⟩ := upL_up ns
    refine ⟨insU_up x _ h1, fun k => ?_⟩
    rw [upL, insU_mem, h2]
    simp
theorem up_unique : ∀ {us vs : List Int}, us.Pairwise (· < ·) → vs.Pairwise (· < ·) → (∀ k, k ∈ us ↔ k ∈ vs) → us = vs
  | [], [], _, _, _ => rfl
  | [], v :: vs, _, _, h => by have := (h v).mpr (by simp); simp at this
  | u :: us, [], _, _, h => by have := (h u).mp (by simp); simp at this
  | u :: us, v :: vs, hu, hv, h => by
    obtain ⟨u1, u2⟩ := List.pairwise_cons.mp hu
    obtain ⟨v1, v2⟩ := List.pairwise_cons.mp hv
    have e : u = v := by
      have a1 := (h u).mp (by simp)
      have a2 := (h v).mpr (by simp)
      rcases List.mem_cons.mp a1 with a1 | a1
      · exact a1
      · rcases List.mem_cons.mp a2 with a2 | a2
        · exact a2.symm
        · have := u1 v a2; have := v1 u a1; omega
    subst e
    rw [up_unique u2 v2 fun k => ?_]
    constructor
    · intro hk
      have := (h k).mp (List.mem_cons_of_mem _ hk)
      rcases List.mem_cons.mp this with z | z
      · have := u1 k hk; omega
      · exact z
    · intro hk
      have := (h k).mpr (List.mem_cons_of_mem _ hk)
      rcases List.mem_cons.mp this with z | z
      · have := v1 k hk; omega
      · exact z
theorem UpOf.eq {ns us : List Int} (h : UpOf ns us) : us = upL ns := up_unique h.1 (upL_up ns).1 fun k => by rw [h.2, (upL_up ns).2]
def kUp (a : PyData) : Option PyData := (asL a).bind fun ds => (intsOf ds).bind fun ns => if ns.length < 64 then some (.list ((upL ns).map .int)) else none
def dSortSet (f : Ev → Option PyData) : Ev → Option PyData := fun ρ => (f ρ).bind kUp
theorem ev_sortSet {te : TE} {f : Ev → Option PyData} (h : EvE K te f) : EvE K (tSortSetI K te) (dSortSet f) := by
  intro O σ H ρ d rp e Q q
  obtain ⟨a, e1, e⟩ := bind_some e
  obtain ⟨ds, e2, e⟩ := bind_some e
  obtain ⟨ns, e3, e⟩ := bind_some e
  split at e
  · rename_i hn
    cases e
    refine h O σ H ρ a rp e1 _ fun x H1 s1 h1 => ?_
    cases h1 with
    | lst g1 g2 g3 =>
      cases e2
      rw [intsOf_some e3] at g3
      have := g3.asInts
      subst this
      refine ⟨_, ns, rfl, SqL.of (hid_some g1).2, hn, fun us p hu hl hp => ?_⟩
      cases hu.eq
      refine q _ _ (s1.trans (same_new hp)) (.lst ?_ (by rw [List.length_map]; omega) (DtAll.ints _))
      have hno : p ∉ O := (rp.1.same s1).new hp
      rw [hid_out hno, upd_same]
    | _ => cases e2
  · cases e
/-! ### what is not reached -/
theorem ps_dead {st : Stmt} : PS X st (fun _ _ _ => False) := ⟨fun pins s σ H D I h => h.elim⟩
def sDead : Ev → Option Out := fun _ => none
theorem s_dead : EvS K W cl (fun _ _ _ => False) sDead := fun _ _ _ _ _ _ _ _ e _ => nomatch e
theorem pe_dead {ex : Expr} : PE X ex (fun _ _ _ => False) := ⟨fun pins s σ H Q I h => h.elim⟩
def dDead : Ev → Option PyData := fun _ => none
theorem ev_dead : EvE K (fun _ _ _ => False) dDead := fun _ _ _ _ _ _ e _ _ => nomatch e
end
end CS
/-! D15: t[:0:-1] of a tuple; xs.index(x) of a list. -/
namespace HT
open PySem PyProof PyProof.Rows PySem.Spec
section
variable {prog : Program} {w : World} {A : Around} {E : Value → Shared → Prop} {s : Shared}
theorem rev_pick1 (xs : Array Value) : ((List.range (xs.size - 1)).filterMap (fun (m : Nat) => xs[(((xs.size : Nat) : Int) - 1 + (m : Int) * (-1)).toNat]?)).toArray = (xs.toList.drop 1).reverse.toArray := by
  have e : ∀ m ∈ List.range (xs.size - 1), xs[(((xs.size : Nat) : Int) - 1 + (m : Int) * (-1)).toNat]? = (xs.toList.drop 1).reverse.toArray[m]? := by
    intro m hm
    have hm' : m < xs.size - 1 := List.mem_range.mp hm
    have e : (((xs.size : Nat) : Int) - 1 + (m : Int) * (-1)).toNat = xs.size - 1 - m := by omega
    rw [e, show (xs.toList.drop 1).reverse.toArray[m]? = (xs.toList.drop 1).reverse[m]? from by simp, List.getElem?_reverse (by rw [List.length_drop, Array.length_toList]; exact hm'), List.length_drop, Array.length_toList, List.getElem?_drop, Array.getElem?_toList]
    congr 1
    omega
  have fm : ∀ (l : List Nat) (f g : Nat → Option Value), (∀ m ∈ l, f m = g m) → l.filterMap f = l.filterMap g := by
    intro l f g h
    induction l with
    | nil => rfl
    | cons a t ih => rw [List.filterMap_cons, List.filterMap_cons, h a (List.mem_cons_self ..), ih fun m hm => h m (List.mem_cons_of_mem _ hm)]
  rw [fm _ _ _ e]
  have := pick_run (xs.toList.drop 1).reverse.toArray 0 (xs.size - 1)
  simp only [Nat.zero_add, List.map_id', List.drop_zero] at this
  rw [this, List.take_of_length_le]
  simp
theorem getItem_tuple_rev1 {t sl : Addr} {items : Array Value} {vl vu vs : Value} {Q : Value → Shared → Prop} (ht : IsTup s.heap t items) (hs : s.heap.IsSliceOf sl vl vu vs) (pl : IsPart vl none) (pu : IsPart vu (some 0)) (ps : IsPart vs (some (-1)))
    (h : Q (.ref s.heap.objs.size) { s with heap := s.heap.push { cls := .type "tuple", data := .seq ((items.toList.drop 1).reverse).toArray } })
    (hsz : items.size ≤ sizeLine) (h1 : 1 ≤ items.size) : wpAny (model prog w) A (getItem (.ref t) (.ref sl)) Q E s := by
  have htake : sizeOk (.seq ((items.toList.drop 1).reverse).toArray) := by
    show ((items.toList.drop 1).reverse).toArray.size ≤ sizeLine
    rw [List.size_toArray, List.length_reverse, List.length_drop, Array.length_toList]
    omega
  obtain ⟨os, hos, hcs, hds⟩ := id hs
  have hTs : s.TypeIs (.ref sl) "slice" := ⟨os, hos, hcs⟩
  unfold getItem
  try with_reducible refine wpAny_holding ?_
  first | refine wpAny_bind (wpAny_pure ?_) | skip
  refine wpAny_bind (wpAny_sequenceKey ht.typeIs (by decide) ?_)
  refine wpAny_bind (wpAny_callSpecial?_slot (name := Str.ofString "__getitem__") ht.typeIs PyProof.Rows.slot_tuple_getitem
    (wpAny_call_entry PyProof.Rows.slot_tuple_getitem ht.typeIs entry_tuple_getitem ?_ (args_tuple_getitem _ _)))
  show wpAny _ _ (Builtin.Tuple.tupleItemsOf (.ref t) >>= _) _ _ s
  refine wpAny_bind (tupleItemsOf_ ht ?_)
  refine wpAny_bind (wpAny_typeOf hTs ?_)
  rw [if_pos (by decide)]
  have sa : ∀ {Q : Int × Int × Nat → Shared → Prop}, Q (((items.size : Nat) : Int) - 1, -1, items.size - 1) s → wpAny (model prog w) A.in1 (Builtin.Slice.sliceApplied (.ref sl) (pure ((items.size : Nat) : Int))) Q E s := by
    intro Q hq
    unfold Builtin.Slice.sliceApplied Builtin.Slice.sliceFields
    refine wpAny_bind (wpAny_bind (wpAny_field hos hds (x := vl) rfl (wpAny_bind (wpAny_field hos hds (x := vu) rfl (wpAny_bind (wpAny_field hos hds (x := vs) rfl (wpAny_pure ?_)))))))
    refine wpAny_bind (slicePart_ ps ?_)
    show wpAny _ _ (if ((-1 : Int) == 0) = true then _ else _) _ _ s
    rw [if_neg (by decide)]
    refine wpAny_bind (slicePart_ pl (wpAny_bind (slicePart_ pu (wpAny_bind (wpAny_pure ?_)))))
    have e : (match Builtin.Slice.sliceAdjust none (some 0) (-1) ((items.size : Nat) : Int) with | (lo, hi) => (pure (lo, (-1 : Int), Builtin.Slice.slicePlaces lo hi (-1)) : Sem (Int × Int × Nat))) = pure (((items.size : Nat) : Int) - 1, -1, items.size - 1) := by
      simp only [Builtin.Slice.sliceAdjust, Builtin.Slice.slicePlaces]
      have h1 : (-1 : Int) < 0 := by decide
      simp only [h1, if_true]
      have h2 : ¬ ((-1 : Int) > 0) := by decide
      simp only [h2, if_false]
      have h3 : -(-1 : Int) = 1 := by decide
      rw [h3]
      simp only [Int.ediv_one]
      have h5 : ¬ ((0 : Int) < 0) := by decide
      simp only [h5, if_false]
      have h6 : min (0 : Int) (((items.size : Nat) : Int) - 1) = 0 := by omega
      rw [h6]
      congr 3
      split <;> omega
    show wpAny _ _ (match Builtin.Slice.sliceAdjust none (some 0) (-1) ((items.size : Nat) : Int) with | (lo, hi) => (pure (lo, (-1 : Int), Builtin.Slice.slicePlaces lo hi (-1)) : Sem (Int × Int × Nat))) _ _ s
    rw [e]
    exact wpAny_pure hq
  refine wpAny_bind (sa ?_)
  have hno : ¬ ((((items.size : Nat) : Int) - 1 == 0 && (-1 : Int) == 1 && items.size - 1 == items.size) = true) := by
    simp
  show wpAny _ _ (if (((items.size : Nat) : Int) - 1 == 0 && (-1 : Int) == 1 && items.size - 1 == items.size) = true then _ else _) _ _ s
  rw [if_neg hno, rev_pick1]
  first
    | exact wpAny_bind (m := Builtin.Tuple.tupleExact _) (wpAny_newObj_type (wpAny_pure ⟨_, rfl, wpAny_pure h⟩) htake)
    | exact wpAny_bind (m := Builtin.Tuple.tupleExact _) (wpAny_newObj_type (wpAny_bind (wpAny_pure (wpAny_pure ⟨_, rfl, wpAny_pure h⟩))) htake)
    | exact wpAny_bind (wpAny_bind (m := Builtin.Tuple.tupleExact _) (wpAny_newObj_type (wpAny_pure (wpAny_pure ⟨_, rfl, wpAny_pure h⟩)) htake))
    | exact wpAny_bind (wpAny_bind (m := Builtin.Tuple.tupleExact _) (wpAny_newObj_type (wpAny_pure ⟨_, rfl, wpAny_pure h⟩) htake))
end
end HT
namespace CS
open PySem L2 PyProof.Rows PySem.Spec
section
variable {X : Cx}
def tRevT1 (K : PySem.W.Frag) (te : TE) : TE := fun σ H Q => te σ H fun x H1 => ∃ a xs, x = .ref a ∧ SqT K H1 a xs ∧ 1 ≤ xs.length ∧ NewT H1 (xs.drop 1).reverse Q
theorem pe_revT1 {e : Expr} {te : TE} {k k2 : Nat} {p1 p2 p3 p4 pos : Pos} (he : PE X e te) : PE X (.Subscript e (.Slice none (some (.Constant (.int 0) k2 p4)) (some (.UnaryOp .USub (.Constant (.int 1) k p1) p2)) p3) pos) (tRevT1 X.K te) := by
  refine ⟨fun pins s σ H Q I h => ?_⟩
  refine Subscript_ (thn (he.run pins s σ H _ I h) fun v s1 ⟨x, H1, I1, r1, q1⟩ => ?_)
  obtain ⟨a, xs, ex, hx, h1, q⟩ := q1
  subst ex
  cases r1
  have hst : PO X (some (.UnaryOp .USub (.Constant (.int 1) k p1) p2)) (tPart (tUn (rU fun i => .int (-i)) (tC (.int 1)))) := po_some (pe_un un_neg pe_int)
  refine wpAny_Slice (thn (po_none.run pins s1 σ H1 (fun o H2 => o = none ∧ H2 = H1) I1 ⟨rfl, rfl⟩) fun vl s2 ⟨l, H2, I2, pl, el, e2⟩ => ?_)
  subst el e2
  refine thn ((po_some pe_int).run pins s2 σ H2 (fun o H3 => o = some 0 ∧ H3 = H2) I2 ⟨0, rfl, rfl, rfl⟩) fun vu s3 ⟨u, H3, I3, pu, eu, e3⟩ => ?_
  subst eu e3
  refine thn (hst.run pins s3 σ H3 (fun o H4 => o = some (-1) ∧ H4 = H3) I3 ⟨1, rfl, -1, rfl, rfl, rfl⟩) fun vs s4 ⟨o, H4, I4, ps, eo, e4⟩ => ?_
  subst eo e4
  have I5 : Inv X pins σ H4 { s4 with heap := s4.heap.push { cls := .type "slice", data := .fields #[vl, vu, vs] } } := I4.kept (t' := s4.toks) fun b ob q => Heap.get?_push_of_some _ q
  obtain ⟨its, r, ht, hz⟩ := I5.tuple hx
  have hlen := r.length
  show wpAny (model X.prog X.w) X.A (subscriptTail e (.Slice none (some (.Constant (.int 0) k2 p4)) (some (.UnaryOp .USub (.Constant (.int 1) k p1) p2)) p3) (.ref a) (.ref s4.heap.objs.size)) (EP X pins σ Q) X.xe { s4 with heap := s4.heap.push { cls := .type "slice", data := .fields #[vl, vu, vs] } }
  refine tail_any (ops := [.ref a, .ref s4.heap.objs.size]) ht.typeIs (PyProof.Rows.slot_tuple_getitem.lookup) ?_ (by with_unfolding_all rfl)
  refine HT.getItem_tuple_rev1 ht (Heap.IsSliceOf.new _ vl vu vs) pl pu ps ?_ (by rw [List.size_toArray]; omega) (by rw [List.size_toArray]; omega)
  exact ⟨.ref _, _, tnew I5 s4.toks (r.drop 1).reverse (by rw [List.length_reverse, List.length_drop]; omega), rfl, q _ _ (I5.hok.fresh (Nat.le_refl _)) rfl⟩
end
section
variable {K : PySem.W.Frag} {W : WX} {cl : Nat → Value}
def dRevT1 (f : Ev → Option PyData) : Ev → Option PyData := fun ρ => (f ρ).bind fun a => match a with
  | .tuple ds => if 1 ≤ ds.length then some (.tuple (ds.drop 1).reverse) else none
  | _ => none
theorem ev_revT1 {te : TE} {f : Ev → Option PyData} (h : EvE K te f) : EvE K (tRevT1 K te) (dRevT1 f) := by
  intro O σ H ρ d rp e Q q
  obtain ⟨a, e1, e⟩ := bind_some e
  refine h O σ H ρ a rp e1 _ fun x H1 s1 h1 => ?_
  cases h1 with
  | tup g1 g2 g3 =>
    simp only at e
    split at e
    case isFalse => cases e
    case isTrue hn =>
    cases e
    exact ⟨_, _, rfl, (TupOk.same (hid_sub O H1) g1).sq, by rw [g3.length]; exact hn, fun p o hp hd => q _ _ (s1.trans (same_new hp)) (Dt.newTup (rp.1.same s1) hp hd (g3.drop 1).reverse (by rw [List.length_reverse, List.length_drop]; omega))⟩
  | _ => cases e
/-- xs.index(x) of a list -/
def pLIndex : PyData → PyData → Option PyData
  | .list ds, d => if SeqAt.shaped (.list ds) = true ∧ SeqAt.shaped d = true then (idxD d ds).map fun j => .int (j : Nat) else none
  | _, _ => none
theorem ev_lindex {to te : TE} {f g : Ev → Option PyData} (h : EvE K to f) (h' : EvE K te g) : EvE K (tBM K "list" (rIndexD K) to (tCons te tNil)) (d2 pLIndex f g) := by
  intro O σ H ρ d rp e Q q
  obtain ⟨a, e1, e⟩ := bind_some e
  obtain ⟨b, e2, e⟩ := bind_some e
  refine h O σ H ρ a rp e1 _ fun x H1 s1 h1 => ?_
  cases h1 with
  | lst g1 g2 g3 =>
    simp only [pLIndex] at e
    split at e
    · rename_i hs
      obtain ⟨j, e3, e⟩ := map_some e
      subst e
      obtain ⟨⟨z, hz, hzx⟩, hno⟩ := idxD_some e3
      refine ⟨tyL (hid_some g1).2, h' O σ H1 ρ b (rp.same s1) e2 _ fun y H2 s2 h2 => ?_⟩
      exact ⟨_, y, b, _, j, z, rfl, rfl, .lst (SqL.of (s2 _ _ (hid_some g1).2)) ((g3.same ((hid_sub O H1).trans s2)).dp (lays_of hs.1)), (h2.same (hid_sub O H2)).dp (lay_of hs.2), hs.1, hs.2, hz, hzx, hno, q _ H2 (s1.trans s2) (.int _)⟩
    · cases e
  | _ => cases e
/-- a list of the def's own that is not changed from here on -/
def sFrz (i : Nat) (F : Ev → Option Out) : Ev → Option Out := fun ρ => (ownAt i ρ).bind fun ds => F (ρ.set i (.dat (.list ds)))
theorem s_frz {i : Nat} {t : TS} {F : Ev → Option Out} (h : EvS K W cl t F) : EvS K W cl t (sFrz i F) := by
  intro O_0 H_0 σ H ρ out D ⟨L, r⟩ e p
  obtain ⟨ds, e1, e⟩ := bind_some e
  have e1 := ownAt_some e1
  obtain ⟨l, vs, h1, _⟩ := r.ow i ds e1
  obtain ⟨L', r', hd⟩ := r.freeze e1 h1
  have r2 := r'.setDat (i := i) hd
  have hi : i < σ.length := (List.getElem?_eq_some_iff.mp h1).1
  have eσ : σ.set i (some (.ref l)) = σ := by
    apply List.ext_getElem?
    intro j
    by_cases c : i = j
    · subst c; rw [List.getElem?_set_self hi, h1]
    · rw [List.getElem?_set_ne c]
  rw [eσ, List.set_set] at r2
  exact h O_0 H_0 σ H _ out D ⟨L', r2⟩ e p
end
end CS
/-! D16: try: .. except C as e: .. of any statements; the caught exception as data. -/
namespace CS
open PySem L2 PySem.Spec PyProof.Rows
section
variable {X : Cx} {K : PySem.W.Frag} {W : WX} {cl : Nat → Value}
def excD (a k : Nat) : PyData := .dict [(.int a, .int k)]
/-- isinstance(e, C) of the caught e at a, of the class k -/
def kIsE (a k : Nat) (b : Bool) : PyData → Option PyData
  | .dict [(.int x, .int y)] => if x = a ∧ y = k then some (.bool b) else none
  | _ => none
def dIsE (a k : Nat) (b : Bool) (i : Nat) : Ev → Option PyData := fun ρ => (dVar i ρ).bind (kIsE a k b)
theorem kIsE_some {a k : Nat} {b : Bool} {d x : PyData} (h : kIsE a k b d = some x) : d = excD a k ∧ x = .bool b := by
  unfold kIsE at h
  split at h
  · split at h
    · rename_i c
      cases h
      obtain ⟨rfl, rfl⟩ := c
      exact ⟨rfl, rfl⟩
    · cases h
  · cases h
theorem ev_isE {D C : Addr} {a k i : Nat} {b : Bool} (h : PySem.W.kitOne K (.ref D) (.ref C) = some b) : EvE K (tCB (rIsE K D a) (tCons (tVar i) (tCons (tC (.ref C)) tNil))) (dIsE a k b i) := by
  intro O σ H ρ d rp e Q q
  obtain ⟨z, e1, e⟩ := bind_some e
  obtain ⟨rfl, rfl⟩ := kIsE_some e
  obtain ⟨v, h1, h2⟩ := rp.2.1.2 i _ (dVar_some e1)
  cases h2
  refine ⟨_, h1, ?_⟩
  refine ⟨_, _, b, rfl, fun u r => ?_, h, q _ H (Same.refl H) (.bl b)⟩
  cases r; rfl
theorem ev_isT {D : Addr} {T : String} {a k i : Nat} {b : Bool} (h : PySem.W.kitOne K (.ref D) (.type T) = some b) : EvE K (tCB (rIsE K D a) (tCons (tVar i) (tCons (tC (.ty T)) tNil))) (dIsE a k b i) := by
  intro O σ H ρ d rp e Q q
  obtain ⟨z, e1, e⟩ := bind_some e
  obtain ⟨rfl, rfl⟩ := kIsE_some e
  obtain ⟨v, h1, h2⟩ := rp.2.1.2 i _ (dVar_some e1)
  cases h2
  refine ⟨_, h1, ?_⟩
  refine ⟨_, _, b, rfl, fun u r => ?_, h, q _ H (Same.refl H) (.bl b)⟩
  cases r; rfl
/-- either suite -/
def tsOr (t u : TS) : TS := fun E σ H => t E σ H ∨ u E σ H
theorem pss_or {ss : List Stmt} {t u : TS} (h : PSs X ss t) (h' : PSs X ss u) : PSs X ss (tsOr t u) :=
  ⟨fun pins s σ H D I w => by
    rcases w with w | w
    · exact h.run pins s σ H D I w
    · exact h'.run pins s σ H D I w⟩
def tsBot : TS := fun _ _ _ => False
theorem pss_bot {ss : List Stmt} : PSs X ss tsBot := ⟨fun pins s σ H D I h => h.elim⟩
theorem pss_dead {ss : List Stmt} : PSs X ss (fun _ _ _ => False) := ⟨fun pins s σ H D I h => h.elim⟩
def wipeO (i : Nat) : Out → Option Out
  | .nx ρ => some (.nx (ρ.set i .no))
  | .bk ρ => some (.bk (ρ.set i .no))
  | .ct ρ => some (.ct (ρ.set i .no))
  | .rt d => some (.rt d)
  | .xc _ _ => none
abbrev Hs := List (Nat × (Nat → Ev → Option Out))
/-- hs: the clauses by the class; each knows the address of the exception -/
def sTryG (i : Nat) (F : Ev → Option Out) (hs : Hs) : Ev → Option Out := fun ρ => (F ρ).bind fun o => match o with
  | .xc k ρ' => (hs.lookup k).bind fun g => if i < ρ'.length then (g 0 (ρ'.set i (.dat (excD 0 k)))).bind (wipeO i) else none
  | o => some o
/-- the address does not count -/
def Uni (i k : Nat) (g : Nat → Ev → Option Out) : Prop := ∀ (a : Nat) (ρ : Ev) (o : Out), g 0 (ρ.set i (.dat (excD 0 k))) = some o → ∃ o', g a (ρ.set i (.dat (excD a k))) = some o' ∧ wipeO i o' = wipeO i o
structure Hand (K : PySem.W.Frag) (cl : Nat → Value) (i : Nat) (c : Value) (ts : Addr → Value → Option Addr → TS) (k : Nat) (g : Nat → Ev → Option Out) : Prop where
  x : PySem.W.exmOne K (cl k) c = some true
  t : ∃ tt : Addr → TS, (∀ (a : Addr) (E : Ends) (σ : L2.St) (H : Hp), tt a E σ H → ts a (cl k) none E σ H) ∧ ∀ a : Addr, EvS K (fun _ _ _ _ => False) cl (tt a) (g a)
  u : Uni i k g
inductive Hands (K : PySem.W.Frag) (cl : Nat → Value) (i : Nat) (c : Value) (ts : Addr → Value → Option Addr → TS) : Hs → Prop
  | nil : Hands K cl i c ts []
  | cons {k : Nat} {g : Nat → Ev → Option Out} {l : Hs} : Hand K cl i c ts k g → Hands K cl i c ts l → Hands K cl i c ts ((k, g) :: l)
theorem Hands.at {cl : Nat → Value} {i : Nat} {c : Value} {ts : Addr → Value → Option Addr → TS} : ∀ {hs : Hs}, Hands K cl i c ts hs → ∀ {k : Nat} {g : Nat → Ev → Option Out}, hs.lookup k = some g → Hand K cl i c ts k g
  | _, .nil, k, g, e => by cases e
  | _, .cons (k := j) (g := f) h t, k, g, e => by
    rw [List.lookup_cons] at e
    by_cases c : k = j
    · subst c
      simp at e
      subst e
      exact h
    · have : (k == j) = false := by simpa using c
      rw [this] at e
      exact t.at e
theorem RepL.unset {O_0 : List Addr} {H_0 : Hp} {L : List Addr} {σ : L2.St} {H : Hp} {ρ : Ev} (i : Nat) (r : RepL K O_0 H_0 L σ H ρ) : RepL K O_0 H_0 L (σ.set i none) H (ρ.set i .no) where
  t0 := r.t0
  sm := r.sm
  fr := r.fr
  tr := r.tr
  sl := ⟨by rw [List.length_set, List.length_set]; exact r.sl.1, fun j d e => by
    rcases set_get e with ⟨_, z, _⟩ | ⟨ne, e⟩
    · cases z
    · rw [List.getElem?_set_ne ne]; exact r.sl.2 j d e⟩
  ow := fun j ds e => by
    rcases set_get e with ⟨_, z, _⟩ | ⟨ne, e⟩
    · cases z
    · rw [List.getElem?_set_ne ne]; exact r.ow j ds e
  dw := fun j ds e => by
    rcases set_get e with ⟨_, z, _⟩ | ⟨ne, e⟩
    · cases z
    · rw [List.getElem?_set_ne ne]; exact r.dw j ds e
  ij := fun j m l c e h1 h2 o1 o2 g1 g2 => by
    rcases set_get h1 with ⟨_, z, _⟩ | ⟨n1, h1⟩
    · subst z; cases o1
    · rcases set_get h2 with ⟨_, z, _⟩ | ⟨n2, h2⟩
      · subst z; cases o2
      · rw [List.getElem?_set_ne n1] at g1
        rw [List.getElem?_set_ne n2] at g2
        exact r.ij j m l c e h1 h2 o1 o2 g1 g2
theorem s_tryG {i : Nat} {c : Value} {tb : WX → TS} {F : Ev → Option Out} {hs : Hs} {ts : Addr → Value → Option Addr → TS} {Wout : WX}
    (hb : ∀ W, EvS K W cl (tb W) F) (hh : Hands K cl i c ts hs) : EvS K W cl (fun D σ H => tb (wFirst K i Wout D [(c, ts)]) D σ H) (sTryG i F hs) := by
  intro O_0 H_0 σ H ρ out D r e p
  obtain ⟨o, e1, e⟩ := bind_some e
  have plain : ∀ o : Out, (∀ k ρ', o ≠ .xc k ρ') → some o = some out → Post K O_0 H_0 (wFirst K i Wout D [(c, ts)]) cl D o := by
    intro o hno eo
    cases eo
    cases out with
    | nx ρ => exact p
    | rt d => exact p
    | bk ρ => exact p
    | ct ρ => exact p
    | xc k ρ => exact absurd rfl (hno k ρ)
  refine hb _ O_0 H_0 σ H ρ o D r e1 ?_
  cases o with
  | nx ρ' => exact plain _ (fun _ _ z => by cases z) e
  | rt d => exact plain _ (fun _ _ z => by cases z) e
  | bk ρ' => exact plain _ (fun _ _ z => by cases z) e
  | ct ρ' => exact plain _ (fun _ _ z => by cases z) e
  | xc k ρ' =>
    intro σ' H' ⟨L, r'⟩
    obtain ⟨g, eg, e⟩ := bind_some e
    have hd := hh.at eg
    obtain ⟨tt, t1, t2⟩ := hd.t
    split at e
    · rename_i hi
      obtain ⟨o0, e2, e3⟩ := bind_some e
      refine ⟨true, hd.x, fun _ a ha => t1 a _ _ _ ?_, fun z => (nomatch z)⟩
      obtain ⟨o', e4, e5⟩ := hd.u a ρ' o0 e2
      have r2 := r'.setDat (i := i) (v := .ref a) (d := excD a k) (.exc a k)
      refine t2 a O_0 H_0 _ H' _ o' _ ⟨L, r2⟩ e4 ?_
      rw [← e5] at e3
      cases o' with
      | nx ρ2 => cases e3; exact fun σ2 H2 ⟨L2, r3⟩ => p _ H2 ⟨L2, RepL.unset i r3⟩
      | rt d => cases e3; exact p
      | bk ρ2 => cases e3; exact fun σ2 H2 ⟨L2, r3⟩ => p _ H2 ⟨L2, RepL.unset i r3⟩
      | ct ρ2 => cases e3; exact fun σ2 H2 ⟨L2, r3⟩ => p _ H2 ⟨L2, RepL.unset i r3⟩
      | xc j ρ2 => cases e3
    · cases e
/-- the def's slots are so many -/
def gLen (n : Nat) (g : Nat → Ev → Option Out) : Nat → Ev → Option Out := fun a ρ => if ρ.length = n then g a ρ else none
theorem s_len {n : Nat} {t : Addr → TS} {g : Nat → Ev → Option Out} (h : ∀ a : Addr, EvS K W cl (t a) (g a)) (a : Addr) : EvS K W cl (t a) (gLen n g a) := by
  intro O_0 H_0 σ H ρ out D r e p
  unfold gLen at e
  split at e
  · exact h a O_0 H_0 σ H ρ out D r e p
  · cases e
theorem kitT_of {D : Addr} {T : String} {b : Bool} (hm : PySem.W.kitMeta T = true) (h : PySem.W.subIn K (.ref D) (.type T) = some b) : PySem.W.kitOne K (.ref D) (.type T) = some b := by
  unfold PySem.W.kitOne
  have e : ((Value.ref D) == (Value.type T)) = false := by rfl
  rw [if_neg (by rw [e]; decide)]
  show (if PySem.W.kitMeta T = true then PySem.W.subIn K (.ref D) (.type T) else none) = some b
  rw [if_pos hm]
  exact h
end
end CS
/-! D17: a tuple some times. -/
namespace CS
open PySem PySem.Spec L2 PyProof.Rows
theorem tuple_mulS (l : Addr) (items : Array Value) (n : Nat) (dd : Option Addr) (sl : Array (Option Value)) (x : Int) (u : Tok) (c0 : (decide (x < -(2 ^ 63)) || decide (x ≥ 2 ^ 63)) = false) (c1 : (items.isEmpty || x == 1) = true) :
    Meets (Builtin.«tuple.__mul__» ⟨[.ref l, .int x u], []⟩) (fun _ R s => s.heap.get? l = some { cls := .type "tuple", dict := dd, data := .seq items n, slots := sl } ∧ R (.ok (.ret (Value.ref l))) s) :=
  .of_wp fun prog w A R s h => by
    obtain ⟨hp, g, d, tk, os⟩ := s
    obtain ⟨hl, h⟩ := h
    have f1 := AutoSeq1.idx_int
    wp_walk using wpAny_loadPart' hl
    repeat (first
      | (refine wpAny_ite_false (decide_eq_false (by rw [c0]; exact Bool.false_ne_true)) ?_; wp_walk using wpAny_loadPart' hl)
      | (refine wpAny_ite_true (decide_eq_true c1) ?_; wp_walk using wpAny_loadPart' hl))
    first
      | exact ⟨_, rfl, h⟩
      | exact h
theorem tuple_mul0 (l : Addr) (items : Array Value) (n : Nat) (dd : Option Addr) (sl : Array (Option Value)) (x : Int) (u : Tok) (c0 : (decide (x < -(2 ^ 63)) || decide (x ≥ 2 ^ 63)) = false) (c1 : (items.isEmpty || x == 1) = false) (c2 : (decide (x ≤ 0) || items.isEmpty) = true) :
    Meets (Builtin.«tuple.__mul__» ⟨[.ref l, .int x u], []⟩) (fun _ R s => s.heap.get? l = some { cls := .type "tuple", dict := dd, data := .seq items n, slots := sl } ∧
      R (.ok (.ret (Value.ref s.heap.objs.size))) { s with heap := s.heap.push { cls := Value.type "tuple", data := Data.seq #[] }, toks := s.toks }) :=
  .of_wp fun prog w A R s h => by
    obtain ⟨hp, g, d, tk, os⟩ := s
    obtain ⟨hl, h⟩ := h
    have f1 := AutoSeq1.idx_int
    wp_walk using wpAny_loadPart' hl
    repeat (first
      | (refine wpAny_ite_false (decide_eq_false (by rw [c0]; exact Bool.false_ne_true)) ?_; wp_walk using wpAny_loadPart' hl)
      | (refine wpAny_ite_false (decide_eq_false (by rw [c1]; exact Bool.false_ne_true)) ?_; wp_walk using wpAny_loadPart' hl)
      | (refine wpAny_ite_true (decide_eq_true c2) ?_; wp_walk using wpAny_loadPart' hl))
    first
      | exact ⟨_, rfl, h⟩
      | exact h
section
variable {X : Cx} {K : PySem.W.Frag}
def rRepF (K : PySem.W.Frag) : R2 := fun x y H Q => ∃ l k xs, x = .ref l ∧ y = .int k ∧ SqT K H l xs ∧ 0 ≤ k ∧ k ≤ 1000 ∧ xs.length ≤ 1000 ∧ ((xs = [] ∨ k = 1) → Q (.ref l) H) ∧ (¬ (xs = [] ∨ k = 1) → NewT H (List.replicate k.toNat xs).flatten Q)
theorem op_repF : OpR X (binaryOp .Mult) (rRepF X.K) := by
  intro pins s σ H x y v u Q I rx ry h
  obtain ⟨l, k, xs, rfl, rfl, hT, h1, h2, hz, q1, q2⟩ := h
  cases rx
  obtain ⟨t, rfl⟩ := ry
  obtain ⟨its, r, ⟨⟨cls, dd, data, sl⟩, ho, hc, n, hd⟩, hs⟩ := I.tuple hT
  simp only at hc hd
  subst hc hd
  have hle : its.length = xs.length := r.length.symm
  have c0 : (decide (k < -(2 ^ 63)) || decide (k ≥ 2 ^ 63)) = false := by rw [decide_eq_false (by omega), decide_eq_false (by omega)]; rfl
  have goal : ∀ {R : Result → Shared → Prop}, True := trivial
  by_cases c : xs = [] ∨ k = 1
  · have c1 : (its.toArray.isEmpty || k == 1) = true := by
      rcases c with c | c
      · subst c
        have : its = [] := List.eq_nil_of_length_eq_zero hle
        subst this; rfl
      · subst c; simp
    refine wpAny_binaryOp_repeat_ref (T := "tuple") (U := "int") (by decide) ⟨_, ho, rfl⟩ (fun s' => typeIs_int s' k t) noFill_tuple_mul F.fills_int_mul F.slot_int_rmul repeat_tuple F.slot_int_index.lookup
      (call_meets F.slot_int_rmul (typeIs_int s k t) F.entry_int_rmul (F.args_int_rmul_2 _ _) (int_rmul_tuple k t l its.toArray n dd sl)
        ⟨ho, rfl, ⟨_, ho, rfl⟩, call_meets F.slot_tuple_mul ⟨_, ho, rfl⟩ F.entry_tuple_mul (F.args_tuple_mul_2 _ _) (tuple_mulS l its.toArray n dd sl k t c0 c1) ⟨ho, ⟨.ref l, H, I, rfl, q1 c⟩⟩⟩)
  · have hne : xs ≠ [] := fun z => c (.inl z)
    have hn : its ≠ [] := fun e => hne (by
      rw [e] at hle
      exact List.eq_nil_of_length_eq_zero hle.symm)
    have hi : its.toArray.isEmpty = false := by
      cases its with
      | nil => exact absurd rfl hn
      | cons a b => rfl
    have c1 : (its.toArray.isEmpty || k == 1) = false := by
      rw [hi, Bool.false_or]
      exact beq_eq_false_iff_ne.mpr fun z => c (.inr z)
    have hsz0 : its.toArray.size = xs.length := by rw [List.size_toArray, hle]
    have flen : (List.replicate k.toNat its).flatten.length ≤ sizeLine := by
      rw [PyProof.Rows.lm_len_rep_flat, hle, sizeLine_eq]
      have a1 : k.toNat * xs.length ≤ 1000 * 1000 := Nat.mul_le_mul (by omega) hz
      omega
    by_cases k0 : k = 0
    · subst k0
      have c2 : (decide ((0 : Int) ≤ 0) || its.toArray.isEmpty) = true := by simp
      have e0 : (List.replicate (0 : Int).toNat xs).flatten = [] := rfl
      have q2 := q2 c
      rw [e0] at q2
      refine wpAny_binaryOp_repeat_ref (T := "tuple") (U := "int") (by decide) ⟨_, ho, rfl⟩ (fun s' => typeIs_int s' 0 t) noFill_tuple_mul F.fills_int_mul F.slot_int_rmul repeat_tuple F.slot_int_index.lookup
        (call_meets F.slot_int_rmul (typeIs_int s 0 t) F.entry_int_rmul (F.args_int_rmul_2 _ _) (int_rmul_tuple 0 t l its.toArray n dd sl)
          ⟨ho, rfl, ⟨_, ho, rfl⟩, call_meets F.slot_tuple_mul ⟨_, ho, rfl⟩ F.entry_tuple_mul (F.args_tuple_mul_2 _ _) (tuple_mul0 l its.toArray n dd sl 0 t c0 c1 c2) ⟨ho, ?_⟩⟩)
      exact ⟨.ref s.heap.objs.size, _, tnew I s.toks (.nil : Vals [] []) (Nat.zero_le _), rfl, q2 _ _ (I.hok.fresh (Nat.le_refl _)) rfl⟩
    · have hm : ((its.toArray.size : Nat) : Int) * k ≤ 1000000 := by
        rw [hsz0]
        have a1 : ((xs.length : Nat) : Int) * k ≤ 1000 * k := Int.mul_le_mul_of_nonneg_right (by omega) (by omega)
        omega
      have c2 : (decide (k ≤ 0) || its.toArray.isEmpty) = false := by
        rw [hi, Bool.or_false]
        exact decide_eq_false (by omega)
      have c4 : Builtin.Tuple.tupleTooMany (((its.toArray.size : Nat) : Int) * k) = false := by
        unfold Builtin.Tuple.tupleTooMany
        rw [sizeLine_eq]
        exact decide_eq_false (by omega)
      refine wpAny_binaryOp_repeat_ref (T := "tuple") (U := "int") (by decide) ⟨_, ho, rfl⟩ (fun s' => typeIs_int s' k t) noFill_tuple_mul F.fills_int_mul F.slot_int_rmul repeat_tuple F.slot_int_index.lookup
        (call_meets F.slot_int_rmul (typeIs_int s k t) F.entry_int_rmul (F.args_int_rmul_2 _ _) (int_rmul_tuple k t l its.toArray n dd sl)
          ⟨ho, rfl, ⟨_, ho, rfl⟩, call_meets F.slot_tuple_mul ⟨_, ho, rfl⟩ F.entry_tuple_mul (F.args_tuple_mul_2 _ _) (tuple_mulW l its.toArray n dd sl k t c0 c1 c2 (by omega) c4 (by rw [size_rep, List.size_toArray]; exact flen)) ⟨ho, ?_⟩⟩)
      rw [size_rep]
      have fl2 : (List.replicate k.toNat xs).flatten.length ≤ sizeLine := by rw [PyProof.Rows.lm_len_rep_flat, ← hle, ← PyProof.Rows.lm_len_rep_flat]; exact flen
      exact ⟨.ref s.heap.objs.size, _, tnew I s.toks (r.rep k.toNat) fl2, rfl, q2 c _ _ (I.hok.fresh (Nat.le_refl _)) rfl⟩
def pRepT : PyData → PyData → Option PyData
  | .tuple a, .int k => if 0 ≤ k ∧ k ≤ 1000 ∧ a.length ≤ 1000 ∧ a.length * k.toNat ≤ 65536 then some (.tuple (List.replicate k.toNat a).flatten) else none
  | _, _ => none
theorem e2_repF : Ev2 K (rRepF K) pRepT := by
  intro O H x y a b d t ha hb e Q q
  cases ha with
  | tup h1 h2 h3 =>
    cases hb with
    | int k =>
      simp only [pRepT] at e
      split at e
      · rename_i hc
        cases e
        have hl := h3.length
        refine ⟨_, k, _, rfl, rfl, (TupOk.same (hid_sub O H) h1).sq, hc.1, hc.2.1, by omega, fun c => ?_, fun c p o hp hd => ?_⟩
        · rcases c with c | c
          · subst c
            cases h3
            have e0 : (List.replicate k.toNat ([] : List PyData)).flatten = [] := by simp
            rw [e0] at q
            exact q _ H (Same.refl H) (.tup h1 h2 .nil)
          · subst c
            simp only [show (1 : Int).toNat = 1 from rfl, List.replicate_succ, List.replicate_zero, List.flatten_cons, List.flatten_nil, List.append_nil] at q
            exact q _ H (Same.refl H) (.tup h1 h2 h3)
        · refine q _ _ (same_new hp) (Dt.newTup t hp hd (h3.flat k.toNat) ?_)
          rw [PyProof.Rows.lm_len_rep_flat, hl, Nat.mul_comm]
          omega
      · cases e
    | _ => cases e
  | _ => cases e
end
end CS
namespace CS
open PySem L2
def b__law_is_story : Ev → Option Out :=
  (sSeq (sIf (dOrT (dNotT (dTru (dIsi "tuple" (dVar 0)))) (dOrT (dT (d2 pGt (dB pLen (dCons (dVar 0) dNil)) (dC (.int 6)))) (dT (d2 pNe (dLc [4] (dSeqI (dVar 0)) (aName 4) (dNotT (dTru (dB m__law_is_operation (dCons (dVar 4) dNil)))) (dVar 4)) (dLst dNil))))) (sRet (dC (.bool false))) sNext)
    (sSeq (sSet 1 (dLc [4] (dSeqI (dVar 0)) (aName 4) dYes (d2 pIx (dVar 4) (dC (.int 2)))))
    (sSeq (sSet 2 (d2 pAdd (dVar 1) (dLc [4] (dSeqI (dVar 0)) (aName 4) dYes (d2 pIx (dVar 4) (dC (.int 3))))))
    (sSeq (sSet 3 (dLc [4] (dSeqI (dVar 0)) (aName 4) (dT (d2 pEq (d2 pIx (dVar 4) (dC (.int 0))) (dC (.str "write")))) (d2 pIx (dVar 4) (dC (.int 1)))))
    (sSeq (sIf (dOrT (dT (d2 pNe (dVar 1) (dB pSort (dCons (dVar 1) dNil)))) (dT (d2 pNe (dB pLen (dCons (dSortSet (dVar 2)) dNil)) (dB pLen (dCons (dVar 2) dNil))))) (sRet (dC (.bool false))) sNext)
    (sRet (d2 pEq (dB pLen (dCons (dSortSet (dVar 3)) dNil)) (dB pLen (dCons (dVar 3) dNil)))))))))
def m__law_is_story : List PyData → Option PyData := fnD 5 b__law_is_story
end CS
/-! M31: what a story keeps; equal values stand together in an explanation; sure pairs, none. -/
namespace CS
open PySem
theorem ok_parts {o : Op} (h : o.ok = true) : ((if o.w = true then (1 : Int) else 0) ≤ o.v ∧ o.v ≤ 9) ∧ (0 ≤ o.s ∧ o.s ≤ 99) ∧ (o.s + 1 ≤ o.e ∧ o.e ≤ 99) := by
  unfold Op.ok at h
  simp only [Bool.and_eq_true, decide_eq_true_eq] at h
  exact ⟨⟨h.1.1.1, h.1.1.2⟩, h.1.2, h.2⟩
theorem story_parts {l : List Op} (h : storyOk l = true) : l.length ≤ 6 ∧ (∀ o ∈ l, o.ok = true) ∧ ((l.zip (l.drop 1)).any fun p => decide (p.2.s ≤ p.1.s)) = false ∧ (timesOf l).Nodup ∧ (writtenOf l).Nodup := by
  unfold storyOk at h
  simp only [Bool.and_eq_true, decide_eq_true_eq, Bool.not_eq_true'] at h
  exact ⟨h.1.1.1, fun o ho => List.all_eq_true.mp h.1.1.2 o ho, h.1.2, h.2.1, h.2.2⟩
theorem story_of {l : List Op} (h1 : l.length ≤ 6) (h2 : ∀ o ∈ l, o.ok = true) (h3 : ((l.zip (l.drop 1)).any fun p => decide (p.2.s ≤ p.1.s)) = false) (h4 : (timesOf l).Nodup) (h5 : (writtenOf l).Nodup) : storyOk l = true := by
  unfold storyOk
  simp only [Bool.and_eq_true, decide_eq_true_eq, Bool.not_eq_true']
  exact ⟨⟨⟨h1, List.all_eq_true.mpr h2⟩, h3⟩, h4, h5⟩
theorem up_of : ∀ l : List Op, ((l.zip (l.drop 1)).any fun p => decide (p.2.s ≤ p.1.s)) = false → l.Pairwise fun a b => a.s < b.s
  | [], _ => .nil
  | [x], _ => by simp
  | x :: y :: r, h => by
    have h' : (decide (y.s ≤ x.s) || ((y :: r).zip ((y :: r).drop 1)).any fun p => decide (p.2.s ≤ p.1.s)) = false := h
    rw [Bool.or_eq_false_iff, decide_eq_false_iff_not] at h'
    have ih := up_of (y :: r) h'.2
    refine List.pairwise_cons.mpr ⟨fun z hz => ?_, ih⟩
    rcases List.mem_cons.mp hz with e | e
    · subst e; omega
    · have := (List.pairwise_cons.mp ih).1 z e
      omega
theorem plain_of {l : List Op} (h : storyOk l = true) : Plain l := by
  obtain ⟨h1, h2, h3, h4, h5⟩ := story_parts h
  refine ⟨fun o ho => ?_, fun o ho => ?_, fun o ho w => ?_, h5, up_of l h3⟩
  · have := ok_parts (h2 o ho)
    omega
  · have := (ok_parts (h2 o ho)).1
    split at this <;> omega
  · have := (ok_parts (h2 o ho)).1
    rw [if_pos w] at this
    omega
/-! values of an explanation -/
def valsR (l : List Op) (r : List Int) : List Int := (opsOf l r).map Op.v
theorem rank_pw {w : List Op} (nd : (0 :: writtenOf w).Nodup) (hg : goR w 0 = true) : w.Pairwise fun a b => ix (0 :: writtenOf w) a.v ≤ ix (0 :: writtenOf w) b.v := by
  rw [List.pairwise_iff_getElem]
  intro i j hi hj hij
  rw [(ix_pos nd hg hi).1, (ix_pos nd hg hj).1]
  exact wr_len_mono (List.take_prefix_take_left (by omega))
/-- equal ones stand together -/
def Near : List Int → Prop
  | [] => True
  | [_] => True
  | x :: y :: r => (x = y ∨ x ∉ y :: r) ∧ Near (y :: r)
theorem near_of_rank {L : List Int} : ∀ {row : List Int}, (∀ x ∈ row, x ∈ L) → (row.Pairwise fun a b => ix L a ≤ ix L b) → Near row
  | [], _, _ => trivial
  | [_], _, _ => trivial
  | x :: y :: r, hm, hp => by
    obtain ⟨p1, p2⟩ := List.pairwise_cons.mp hp
    refine ⟨?_, near_of_rank (fun z hz => hm z (List.mem_cons_of_mem _ hz)) p2⟩
    by_cases c : x = y
    · exact .inl c
    · refine .inr fun z => ?_
      rcases List.mem_cons.mp z with z | z
      · exact c z
      · have a1 := p1 y (List.mem_cons_self ..)
        have a2 := (List.pairwise_cons.mp p2).1 x z
        exact c (ix_inj (hm x (List.mem_cons_self ..)) (hm y (by simp)) (by omega))
theorem near_expl {l : List Op} (hs : storyOk l = true) {r : List Int} (hr : r ∈ expls l) : Near (valsR l r) := by
  obtain ⟨hp, hg⟩ := (mem_expls hs).mp hr
  have P := plain_of hs
  obtain ⟨pw, gr⟩ := (goV_iff _ 0).mp hg
  have pm : (opsOf l r).Perm l := by
    have := hp.map fun i => opAt l i.toNat
    have e := opsOf_nums l
    unfold opsOf at e ⊢
    rw [e] at this
    exact this
  have nd : (0 :: writtenOf (opsOf l r)).Nodup := ((wr_perm pm).cons 0).nodup_iff.mpr P.nd0
  refine near_of_rank (L := 0 :: writtenOf (opsOf l r)) (fun x hx => ?_) ?_
  · obtain ⟨o, ho, rfl⟩ := List.mem_map.mp hx
    exact val_in nd gr ho
  · unfold valsR
    rw [List.pairwise_map]
    exact rank_pw nd gr
/-! how often the value changes -/
def chgN : List Int → Nat
  | x :: y :: r => (if x = y then 0 else 1) + chgN (y :: r)
  | _ => 0
theorem insU_len (x : Int) : ∀ {ys : List Int}, ys.Pairwise (· < ·) → (insU x ys).length = if x ∈ ys then ys.length else ys.length + 1
  | [], _ => rfl
  | y :: ys, h => by
    obtain ⟨h1, h2⟩ := List.pairwise_cons.mp h
    rw [insU]
    by_cases c : x < y
    · have : x ∉ y :: ys := by
        intro z
        rcases List.mem_cons.mp z with z | z
        · omega
        · have := h1 x z; omega
      rw [if_pos c, if_neg this]; rfl
    · rw [if_neg c]
      by_cases d : x = y
      · subst d; simp
      · rw [if_neg d, List.length_cons, insU_len x h2]
        by_cases m : x ∈ ys
        · rw [if_pos m, if_pos (List.mem_cons_of_mem _ m)]; rfl
        · rw [if_neg m, if_neg (by simp [d, m])]; rfl
theorem chg_up : ∀ {row : List Int}, Near row → row ≠ [] → chgN row + 1 = (upL row).length
  | [], _, h => absurd rfl h
  | [x], _, _ => rfl
  | x :: y :: r, ⟨h1, h2⟩, _ => by
    have ih := chg_up h2 (by simp)
    have up := upL_up (y :: r)
    rw [chgN, upL, insU_len x up.1]
    by_cases c : x = y
    · have : x ∈ upL (y :: r) := (up.2 x).mpr (by simp [c])
      rw [if_pos c, if_pos this]; omega
    · have h3 : x ∉ y :: r := by
        rcases h1 with h1 | h1
        · exact absurd h1 c
        · exact h1
      have : x ∉ upL (y :: r) := fun z => h3 ((up.2 x).mp z)
      rw [if_neg c, if_neg this]; omega
theorem chg_rng : ∀ row : List Int, ((List.range (row.length - 1)).filter fun i => !decide (row.getD (i + 1) 0 = row.getD i 0)).length = chgN row
  | [] => rfl
  | [x] => rfl
  | x :: y :: r => by
    have ih := chg_rng (y :: r)
    have e : (x :: y :: r).length - 1 = ((y :: r).length - 1) + 1 := by simp
    rw [e, List.range_succ_eq_map, List.filter_cons, List.filter_map, chgN, ← ih]
    have e2 : ((fun i => !decide ((x :: y :: r).getD (i + 1) 0 = (x :: y :: r).getD i 0)) ∘ Nat.succ) = fun i => !decide ((y :: r).getD (i + 1) 0 = (y :: r).getD i 0) := by
      funext i; simp [Function.comp]
    rw [e2]
    by_cases c : x = y
    · simp [c]
    · have c' : ¬ y = x := fun z => c z.symm
      simp [c, c']
      omega
/-! none -/
theorem sure_none {l : List Op} (hs : storyOk l = true) (hne : expls l = []) : m_sure_pairs [encO l] = some (.error 4) := by
  have ex := explanations_all (storyOk_len hs)
  rw [hne] at ex
  simp only [m_sure_pairs, e_fnX, b_sure_pairs]
  refine seq_nx (ρ' := [.dat (encO l), .no, .no, .no, .no, .no]) (by simp [check_ok hs]) (seq_nx (set_of (d := .list []) (by simp [ex])) ?_)
  have : sIf (dNotT (dTru (dVar 1))) (sRaise 4) sNext [.dat (encO l), .dat (.list []), .no, .no, .no, .no] = some (.xc 4 [.dat (encO l), .dat (.list []), .no, .no, .no, .no]) := if_yes (by simp) rfl
  show (sSeq _ _ _).bind _ = _
  rw [e_seq]
  show ((sIf (dNotT (dTru (dVar 1))) (sRaise 4) sNext [.dat (encO l), .dat (.list []), .no, .no, .no, .no]).bind _).bind _ = _
  rw [this]
  rfl
theorem law_sure_ok {l : List Op} (hs : storyOk l = true) : m__law_sure [encO l] = some (if expls l = [] then .str "no" else .list ((sureOf l).map enc2)) := by
  simp only [m__law_sure, e_fn, b__law_sure]
  unfold sTry
  rw [if_pos (by simp [e_start1])]
  by_cases c : expls l = []
  · have e : dBR m_sure_pairs (dCons (dVar 0) dNil) (view (start0 2 [encO l])) = some (.error 4) := by
      simp only [x_BR, x_cons, x_nil, e_start1, view, List.map_cons, v_dat, var_0, b_some, sure_none hs c]
    rw [e, b_some, if_pos c]; rfl
  · have e : dBR m_sure_pairs (dCons (dVar 0) dNil) (view (start0 2 [encO l])) = some (.ok (.list ((sureOf l).map enc2))) := by
      simp only [x_BR, x_cons, x_nil, e_start1, view, List.map_cons, v_dat, var_0, b_some, sure_ok hs c]
    rw [e, b_some, if_neg c]; rfl
theorem due_mem {l : List Op} {p : Int × Int} (h : p ∈ due l l.length) : (0 ≤ p.1 ∧ p.1 < l.length) ∧ (0 ≤ p.2 ∧ p.2 < l.length) ∧ (opAt l p.1.toNat).before (opAt l p.2.toNat) = true := by
  unfold due at h
  obtain ⟨i, hi, h⟩ := List.mem_flatMap.mp h
  unfold row at h
  obtain ⟨j, hj, rfl⟩ := List.mem_map.mp h
  obtain ⟨h1, h2⟩ := List.mem_filter.mp hj
  have := List.mem_range.mp hi
  have := List.mem_range.mp h1
  exact ⟨⟨by show (0 : Int) ≤ ((i : Nat) : Int); omega, by show ((i : Nat) : Int) < _; omega⟩, ⟨by show (0 : Int) ≤ ((j : Nat) : Int); omega, by show ((j : Nat) : Int) < _; omega⟩, by simpa using h2⟩
/-- who precedes is sure -/
theorem due_sure {l : List Op} (hs : storyOk l = true) {p : Int × Int} (h : p ∈ due l l.length) : p ∈ sureOf l := by
  obtain ⟨h1, h2, h3⟩ := due_mem h
  unfold sureOf
  refine List.mem_flatMap.mpr ⟨p.1, nums_mem.mpr h1, List.mem_map.mpr ⟨p.2, List.mem_filter.mpr ⟨nums_mem.mpr h2, ?_⟩, rfl⟩⟩
  unfold sureB
  simp only [Bool.and_eq_true, Bool.not_eq_true', decide_eq_false_iff_not, List.any_eq_false, decide_eq_true_eq]
  refine ⟨fun e => ?_, fun o ho => ?_⟩
  · obtain ⟨a, b⟩ := p
    simp only at e h3
    subst e
    have := storyOk_irr hs (i := a.toNat) (by have : a < _ := h1.2; have : 0 ≤ a := h1.1; omega)
    rw [this] at h3
    cases h3
  · have := ix_before ho h1 h2 h3
    omega
end CS
/-! M32: explains of explanations; longer operations; fewer operations. -/
namespace CS
open PySem
theorem dle_int (a b : Int) : W.dataLe false PyData.int a b = decide (a ≤ b) := by
  rw [W.dataLe_eq]
  show (!W.dataLt (.int b) (.int a)) = _
  rw [dlt_int, Bool.eq_iff_iff]
  simp
theorem nums_pw (n : Nat) : (nums n).Pairwise fun a b => a < b := by
  unfold nums
  rw [List.pairwise_map]
  exact List.pairwise_lt_range.imp fun h => by omega
theorem isPerm_of {l : List Op} {r : List Int} (h : r.Perm (nums l.length)) : isPerm l r = true := by
  unfold isPerm
  rw [decide_eq_true_eq]
  refine List.Perm.eq_of_pairwise (le := fun a b => a ≤ b) (fun a b _ _ h1 h2 => by omega) ?_ ((nums_pw l.length).imp fun h => by omega) ((List.mergeSort_perm _ _).trans h)
  exact (sort_pw PyData.int r).imp fun h => by rw [dle_int] at h; simpa using h
theorem explT_mem {l : List Op} (hs : storyOk l = true) {r : List Int} (hr : r ∈ expls l) : explT l r = true := by
  have hp := expls_perm hr
  unfold explT
  rw [isPerm_of hp, Bool.true_and, List.all_eq_true]
  intro p hp2
  have hlt : p < r.length := by simpa using hp2
  have hd : r = r.take p ++ r[p] :: r.drop (p + 1) := by rw [List.getElem_cons_drop, List.take_append_drop]
  have st := expls_step hr hd
  unfold nextF at st
  rw [Bool.and_eq_true] at st
  rw [List.getD_eq_getElem?_getD, List.getElem?_eq_getElem hlt]
  exact st.2
theorem explains_mem {l : List Op} (hs : storyOk l = true) {r : List Int} (hr : r ∈ expls l) : m_explains [encO l, encI r] = some (.ok (.bool true)) := by
  have hl := storyOk_len hs
  have hlen : r.length ≤ 1000 := by rw [expls_len1 hr]; omega
  have e := explains_story_ok hl (expls_in hr) hlen
  rw [explT_mem hs hr] at e
  simp [m_explains, b_explains, check_ok hs, e]
theorem law_explains_mem {l : List Op} (hs : storyOk l = true) {r : List Int} (hr : r ∈ expls l) : m__law_explains [encO l, encI r] = some (.bool true) := by
  have hl := storyOk_len hs
  have hlen : r.length ≤ 1000 := by rw [expls_len1 hr]; omega
  have e := law_explains_ok hl (expls_in hr) hlen
  obtain ⟨h1, h2⟩ := (mem_expls hs).mp hr
  rw [isPerm_of h1, goL_goV, h2] at e
  exact e
/-! explanation -/
theorem explanation_ok {l : List Op} (hs : storyOk l = true) : m_explanation [encO l] = some (match (expls l).head? with
  | none => .error 4
  | some r => .ok (encI r)) := by
  have hx : m_explanations_of [encO l, .int 1] = some (.list (((expls l).take 1).map encI)) := explanations_ok (storyOk_len hs) (most := 1) (by decide) (by decide)
  simp only [m_explanation, e_fnX, b_explanation]
  cases e : expls l with
  | nil =>
    rw [e] at hx
    refine seq_nx (ρ' := [.dat (encO l), .no]) (by simp [check_ok hs]) (seq_nx (set_of (d := .list []) (by simp [hx])) ?_)
    have : sIf (dNotT (dTru (dVar 1))) (sRaise 4) sNext [.dat (encO l), .dat (.list [])] = some (.xc 4 [.dat (encO l), .dat (.list [])]) := if_yes (by simp) rfl
    show (sSeq _ _ _).bind _ = _
    rw [e_seq]
    show ((sIf (dNotT (dTru (dVar 1))) (sRaise 4) sNext [.dat (encO l), .dat (.list [])]).bind _).bind _ = _
    rw [this]
    rfl
  | cons r rs =>
    rw [e] at hx
    refine seq_nx (ρ' := [.dat (encO l), .no]) (by simp [check_ok hs]) (seq_nx (set_of (d := .list [encI r]) (by simpa using hx)) (seq_nx (if_no (by simp)) ?_))
    have i0 : pIx (.list [encI r]) (.int 0) = some (encI r) := rfl
    simp [i0]
theorem decided0 {l : List Op} (hs : storyOk l = true) : m__law_decided [.int 0, encO l] = some (match (expls l).head? with
  | none => .str "no"
  | some r => encI r) := by
  simp only [m__law_decided, e_fn, b__law_decided]
  unfold sTry
  rw [if_pos (by simp [e_start2])]
  have e : rIf (dT (d2 pEq (dVar 0) (dC (.int 0)))) (dBR m_explanation (dCons (dVar 1) dNil)) (dBR m_paper (dCons (dVar 1) dNil)) (view (start0 3 [.int 0, encO l])) = m_explanation [encO l] := by
    unfold rIf
    simp
  rw [e, explanation_ok hs, b_some]
  cases (expls l).head? with
  | none => rfl
  | some r => rfl
theorem eq_tup_no (r : List Int) (x : Str) (h : SeqAt.shaped (.str x) = true) : pEq (encI r) (.str x) = some (.bool false) :=
  p_eqd (by rw [shaped_o1, h]; rfl) (by unfold encI PyData.eqv; rfl)
/-! orders of the operations -/
theorem opsOf_perm {l : List Op} {r : List Int} (h : r.Perm (nums l.length)) : (opsOf l r).Perm l := by
  have := h.map fun i => opAt l i.toNat
  have e := opsOf_nums l
  unfold opsOf at e ⊢
  rw [e] at this
  exact this
theorem nob_up {l : List Op} (P : Plain l) : l.Pairwise NoBack := P.up.imp_of_mem fun {a b} ha hb h => by
  unfold NoBack Op.before
  have := P.t b hb
  simp; omega
theorem goR_drop {p : Op → Bool} : ∀ (w : List Op) (d : Int), (∀ o ∈ w, p o = false → o.w = false) → goR w d = true → goR (w.filter p) d = true
  | [], _, _, _ => rfl
  | x :: w, d, h, g => by
    rw [goR] at g
    have ih := fun d => goR_drop w d fun o ho => h o (List.mem_cons_of_mem _ ho)
    rw [List.filter_cons]
    by_cases c : p x = true
    · rw [if_pos c, goR]
      by_cases xw : x.w = true
      · rw [if_pos xw] at g ⊢
        exact ih _ g
      · rw [if_neg xw] at g ⊢
        rw [Bool.and_eq_true] at g ⊢
        exact ⟨g.1, ih _ g.2⟩
    · rw [if_neg c]
      have xw := h x (List.mem_cons_self ..) (eq_false_of_ne_true c)
      rw [if_neg (by rw [xw]; simp), Bool.and_eq_true] at g
      exact ih _ g.2
theorem goR_reads : ∀ (w : List Op), (∀ o ∈ w, o.w = false) → (goR w 0 = true ↔ ∀ o ∈ w, o.v = 0)
  | [], _ => by simp [goR]
  | x :: w, h => by
    have ih := goR_reads w fun o ho => h o (List.mem_cons_of_mem _ ho)
    have xw := h x (List.mem_cons_self ..)
    rw [goR, if_neg (by rw [xw]; simp), Bool.and_eq_true, ih, decide_eq_true_eq]
    simp
/-- fewer of them are a story, too -/
theorem story_sub {l l' : List Op} (hs : storyOk l = true) (h : l'.Sublist l) : storyOk l' = true := by
  obtain ⟨h1, h2, h3, h4, h5⟩ := story_parts hs
  refine story_of (by have := h.length_le; omega) (fun o ho => h2 o (h.subset ho)) ?_ ?_ ?_
  · exact zip_tail_lt ((up_of l h3).sublist h)
  · exact h4.sublist (List.Sublist.append (h.map _) (h.map _))
  · exact h5.sublist ((h.filter _).map _)
end CS
/-! D18: f-strings, join, str(..). -/
namespace CS
open PySem PySem.Spec L2 PyProof.Rows
section
variable {X : Cx} {K : PySem.W.Frag} {W : WX} {cl : Nat → Value}
def strOf (i : Int) : Str := toString i
def kFmt : PyData → Option PyData
  | .str y => some (.str y)
  | .int i => if i.natAbs.log2 < 1920 ∧ (strOf i).length ≤ 65536 then some (.str (strOf i)) else none
  | _ => none
def dFmt (f : Ev → Option PyData) : Ev → Option PyData := fun ρ => (f ρ).bind kFmt
theorem ev_fmt {te : TE} {f : Ev → Option PyData} (h : EvE K te f) : EvE K (tFmt te) (dFmt f) := by
  intro O σ H ρ d rp e Q q
  obtain ⟨a, e1, e⟩ := bind_some e
  refine h O σ H ρ a rp e1 _ fun x H1 s1 h1 => ?_
  cases h1 with
  | str y hy => cases e; exact .inl ⟨y, rfl, line_of hy, q _ H1 s1 (.str y hy)⟩
  | int i =>
    simp only [kFmt] at e
    split at e
    · rename_i c
      cases e
      exact .inr ⟨i, rfl, c.1, q _ H1 s1 (.str _ c.2)⟩
    · cases e
  | _ => cases e
/-- the parts one behind the other -/
def jsD : List (Ev → Option PyData) → Str → Ev → Option PyData
  | [], acc, _ => some (.str acc)
  | f :: fs, acc, ρ => (f ρ).bind fun d => match d with
    | .str y => if (acc ++ y).length ≤ 65536 then jsD fs (acc ++ y) ρ else none
    | _ => none
inductive EvJ (K : PySem.W.Frag) : List TE → List (Ev → Option PyData) → Prop
  | nil : EvJ K [] []
  | cons {t : TE} {f : Ev → Option PyData} {ts : List TE} {fs : List (Ev → Option PyData)} (h : EvE K t f) (r : EvJ K ts fs) : EvJ K (t :: ts) (f :: fs)
theorem js_run {ts : List TE} {fs : List (Ev → Option PyData)} (h : EvJ K ts fs) : ∀ (acc : Str) (O : List Addr) (σ : L2.St) (H : Hp) (ρ : Ev) (d : PyData), acc.length ≤ 65536 → RepD K O σ H ρ → jsD fs acc ρ = some d → ∀ Q : Str → Hp → Prop, (∀ y H', Same H H' → d = .str y → y.length ≤ 65536 → Q y H') → tJs ts acc σ H Q := by
  induction h with
  | nil =>
    intro acc O σ H ρ d hz rp e Q q
    cases e
    exact q acc H (Same.refl H) rfl hz
  | @cons t f ts fs h r ih =>
    intro acc O σ H ρ d hz rp e Q q
    obtain ⟨a, e1, e⟩ := bind_some e
    refine h O σ H ρ a rp e1 _ fun x H1 s1 h1 => ?_
    cases h1 with
    | str y hy =>
      simp only at e
      split at e
      · rename_i c
        exact ⟨y, rfl, line_of c, ih (acc ++ y) O σ H1 ρ d c (rp.same s1) e Q fun z H2 s2 ez hz2 => q z H2 (s1.trans s2) ez hz2⟩
      · cases e
    | _ => cases e
def dJs (fs : List (Ev → Option PyData)) : Ev → Option PyData := jsD fs Str.empty
theorem ev_joined {ts : List TE} {fs : List (Ev → Option PyData)} (h : EvJ K ts fs) : EvE K (fun σ H Q => tJs ts Str.empty σ H fun out H1 => Q (.str out) H1) (dJs fs) := by
  intro O σ H ρ d rp e Q q
  refine js_run h Str.empty O σ H ρ d (Nat.zero_le _) rp e _ fun y H' s ed hy => ?_
  subst ed
  exact q _ H' s (.str y hy)
/-! ### sep.join(xs) -/
def strsD : List PyData → Option (List Str)
  | [] => some []
  | .str y :: r => (strsD r).map (y :: ·)
  | _ :: _ => none
theorem strsD_some : ∀ {ds : List PyData} {ys : List Str}, strsD ds = some ys → ds = ys.map .str
  | [], ys, h => by cases h; rfl
  | .str y :: r, ys, h => by
    simp only [strsD] at h
    obtain ⟨zs, e, h⟩ := map_some h
    subst h
    rw [strsD_some e]; rfl
  | .none :: _, _, h => by simp [strsD] at h
  | .bool _ :: _, _, h => by simp [strsD] at h
  | .int _ :: _, _, h => by simp [strsD] at h
  | .list _ :: _, _, h => by simp [strsD] at h
  | .tuple _ :: _, _, h => by simp [strsD] at h
  | .dict _ :: _, _, h => by simp [strsD] at h
theorem strsD_map (ys : List Str) : strsD (ys.map .str) = some ys := by
  induction ys with
  | nil => rfl
  | cons y ys ih => rw [List.map_cons, strsD, ih]; rfl
theorem DtAll.asStrs {H : Hp} : ∀ {vs : List V} {ns : List Str}, DtAll K H vs (ns.map PyData.str) → vs = ns.map V.str
  | [], [], _ => rfl
  | [], _ :: _, h => by cases h
  | _ :: _, [], h => by cases h
  | v :: vs, n :: ns, h => by
    cases h with
    | cons h t =>
      cases h
      rw [DtAll.asStrs (ns := ns) t]; rfl
def pJoin : PyData → PyData → Option PyData
  | .str a, .list ds => (strsD ds).bind fun ys => if (ys.map (·.length)).sum + ys.length * a.length ≤ 16777216 ∧ (Txt.join a ys).length ≤ 65536 then some (.str (Txt.join a ys)) else none
  | _, _ => none
abbrev rJoinD (K : PySem.W.Frag) : V → List V → Hp → VK → Prop := fun x xs H Q => ∃ a p, ∃ ys : List Str, x = .str a ∧ xs = [.ref p] ∧ (SqL K H p (ys.map V.str) ∨ SqT K H p (ys.map V.str)) ∧ (ys.map (·.length)).sum + ys.length * a.length ≤ 16777216 ∧ Q (.str (Txt.join a ys)) H
theorem ev_join {to te : TE} {f g : Ev → Option PyData} (h : EvE K to f) (h' : EvE K te g) : EvE K (tM1 (rJoinD K) to te) (d2 pJoin f g) := by
  intro O σ H ρ d rp e Q q
  obtain ⟨a, e1, e⟩ := bind_some e
  obtain ⟨b, e2, e⟩ := bind_some e
  refine h O σ H ρ a rp e1 _ fun x H1 s1 h1 => ?_
  cases h1 with
  | str y hy =>
    refine ⟨⟨y, rfl⟩, h' O σ H1 ρ b (rp.same s1) e2 _ fun z H2 s2 h2 => ?_⟩
    cases h2 with
    | lst g1 g2 g3 =>
      obtain ⟨ys, e3, e⟩ := bind_some e
      split at e
      · rename_i c
        cases e
        rw [strsD_some e3] at g3
        have := g3.asStrs
        subst this
        exact ⟨y, _, ys, rfl, rfl, .inl (SqL.of (hid_some g1).2), c.1, q _ H2 (s1.trans s2) (.str _ c.2)⟩
      · cases e
    | _ => cases e
  | _ => cases e
/-! ### str(x) -/
abbrev rStrD : List V → Hp → VK → Prop := fun xs H Q => (∃ i, xs = [V.int i] ∧ i.natAbs.log2 < 1920 ∧ Q (.str (toString i)) H) ∨ ∃ a, xs = [V.str a] ∧ Q (.str a) H
theorem cr_strD : CallR X (.type "str") rStrD := CallR.or call_str_int SkE.call_str_str
def pStr : List PyData → Option PyData
  | [a] => kFmt a
  | _ => none
theorem evl_str : EvL K rStrD pStr := by
  intro O H xs as d t ha e Q q
  cases ha with
  | nil => cases e
  | cons h1 r =>
    cases r with
    | cons _ _ => cases e
    | nil =>
      cases h1 with
      | str y hy => cases e; exact .inr ⟨y, rfl, q _ H (Same.refl H) (.str y hy)⟩
      | int i =>
        simp only [pStr, kFmt] at e
        split at e
        · rename_i c
          cases e
          exact .inl ⟨i, rfl, c.1, q _ H (Same.refl H) (.str _ c.2)⟩
        · cases e
      | _ => cases e
end
end CS
/-! D19: dicts with tuples as keys: {k: v}, sorted(d), k not in d; sorted(set(xs)) of tuples of ints. -/
namespace CS
open PySem PySem.Spec L2 PyProof.Rows
section
variable {X : Cx} {K : PySem.W.Frag} {W : WX} {cl : Nat → Value}
/-! ### the order by codes -/
abbrev cd (k : List Int) : Int := TS.code 64 k
def insC (x : List Int) : List (List Int) → List (List Int)
  | [] => [x]
  | y :: ys => if cd x < cd y then x :: y :: ys else if cd x = cd y then y :: ys else y :: insC x ys
def upC : List (List Int) → List (List Int)
  | [] => []
  | x :: xs => insC x (upC xs)
/-- all of one length, their numbers in [0, 64) -/
def Good (d : Nat) (ks : List (List Int)) : Prop := ∀ k ∈ ks, k.length = d ∧ TS.Bd 64 k
theorem cd_inj : ∀ {x y : List Int}, x.length = y.length → TS.Bd 64 x → TS.Bd 64 y → cd x = cd y → x = y
  | [], [], _, _, _, _ => rfl
  | [], _ :: _, h, _, _, _ => by simp at h
  | _ :: _, [], h, _, _, _ => by simp at h
  | a :: x, b :: y, h, hx, hy, e => by
    have hl : x.length = y.length := by simpa using h
    rcases Int.lt_trichotomy a b with c | c | c
    · have := TS.code_lt hl hx.tail hy.tail c
      unfold cd at e; omega
    · subst c
      have : cd x = cd y := by
        have h1 := TS.code_same (B := 64) (d := a) hl
        have h2 := TS.code_same (B := 64) (d := a) hl.symm
        unfold cd at *
        have a1 : ¬ TS.code 64 x < TS.code 64 y := fun z => by have := h1.mpr z; omega
        have a2 : ¬ TS.code 64 y < TS.code 64 x := fun z => by have := h2.mpr z; omega
        omega
      rw [cd_inj hl hx.tail hy.tail this]
    · have := TS.code_lt hl.symm hy.tail hx.tail c
      unfold cd at e; omega
theorem insC_mem {d : Nat} {x : List Int} : ∀ {ys : List (List Int)}, Good d (x :: ys) → ∀ k, k ∈ insC x ys ↔ k = x ∨ k ∈ ys
  | [], _, k => by simp [insC]
  | y :: ys, g, k => by
    rw [insC]
    split
    · simp
    · split
      · rename_i h
        have gx := g x (by simp)
        have gy := g y (by simp)
        have := cd_inj (gx.1.trans gy.1.symm) gx.2 gy.2 h
        subst this; simp
      · have := insC_mem (d := d) (x := x) (ys := ys) (fun z hz => g z (by rcases List.mem_cons.mp hz with q | q <;> simp [q])) k
        simp only [List.mem_cons, this]
        constructor
        · rintro (h | h | h)
          · exact .inr (.inl h)
          · exact .inl h
          · exact .inr (.inr h)
        · rintro (h | h | h)
          · exact .inr (.inl h)
          · exact .inl h
          · exact .inr (.inr h)
theorem insC_up {d : Nat} {x : List Int} : ∀ {ys : List (List Int)}, Good d (x :: ys) → ys.Pairwise (fun a b => cd a < cd b) → (insC x ys).Pairwise fun a b => cd a < cd b
  | [], _, _ => by simp [insC]
  | y :: ys, g, h => by
    rw [insC]
    obtain ⟨h1, h2⟩ := List.pairwise_cons.mp h
    split
    · rename_i c
      refine List.pairwise_cons.mpr ⟨fun z hz => ?_, h⟩
      rcases List.mem_cons.mp hz with z1 | z1
      · rw [z1]; exact c
      · have := h1 z z1; omega
    · split
      · exact h
      · have g' : Good d (x :: ys) := fun z hz => g z (by rcases List.mem_cons.mp hz with q | q <;> simp [q])
        refine List.pairwise_cons.mpr ⟨fun z hz => ?_, insC_up g' h2⟩
        rcases (insC_mem g' z).mp hz with z1 | z1
        · rw [z1]; omega
        · exact h1 z z1
theorem upC_up {d : Nat} : ∀ {ks : List (List Int)}, Good d ks → (upC ks).Pairwise (fun a b => cd a < cd b) ∧ ∀ k, k ∈ upC ks ↔ k ∈ ks
  | [], _ => ⟨.nil, fun k => by simp [upC]⟩
  | x :: ks, g => by
    obtain ⟨h1, h2⟩ := upC_up (d := d) (ks := ks) fun k hk => g k (List.mem_cons_of_mem _ hk)
    have g' : Good d (x :: upC ks) := fun z hz => by
      rcases List.mem_cons.mp hz with q | q
      · exact g z (by simp [q])
      · exact g z (List.mem_cons_of_mem _ ((h2 z).mp q))
    refine ⟨insC_up g' h1, fun k => ?_⟩
    rw [upC, insC_mem g', h2]
    simp
theorem cup_unique : ∀ {us vs : List (List Int)}, us.Pairwise (fun a b => cd a < cd b) → vs.Pairwise (fun a b => cd a < cd b) → (∀ k, k ∈ us ↔ k ∈ vs) → us = vs
  | [], [], _, _, _ => rfl
  | [], v :: vs, _, _, h => by have := (h v).mpr (by simp); simp at this
  | u :: us, [], _, _, h => by have := (h u).mp (by simp); simp at this
  | u :: us, v :: vs, hu, hv, h => by
    obtain ⟨u1, u2⟩ := List.pairwise_cons.mp hu
    obtain ⟨v1, v2⟩ := List.pairwise_cons.mp hv
    have e : u = v := by
      have a1 := (h u).mp (by simp)
      have a2 := (h v).mpr (by simp)
      rcases List.mem_cons.mp a1 with a1 | a1
      · exact a1
      · rcases List.mem_cons.mp a2 with a2 | a2
        · exact a2.symm
        · have := u1 v a2; have := v1 u a1; omega
    subst e
    rw [cup_unique u2 v2 fun k => ?_]
    constructor
    · intro hk
      have := (h k).mp (List.mem_cons_of_mem _ hk)
      rcases List.mem_cons.mp this with z | z
      · have := u1 k hk; rw [z] at this; omega
      · exact z
    · intro hk
      have := (h k).mpr (List.mem_cons_of_mem _ hk)
      rcases List.mem_cons.mp this with z | z
      · have := v1 k hk; rw [z] at this; omega
      · exact z
theorem cup_of {d : Nat} {ks us : List (List Int)} (g : Good d ks) (nd : us.Nodup) (hm : ∀ k, k ∈ us ↔ k ∈ ks) (hp : us.Pairwise fun a b => cd a ≤ cd b) : us = upC ks := by
  obtain ⟨h1, h2⟩ := upC_up g
  refine cup_unique ?_ h1 fun k => by rw [hm, h2]
  have : us.Pairwise fun a b => cd a ≤ cd b ∧ a ≠ b := List.pairwise_and_iff.mpr ⟨hp, nd⟩
  refine List.Pairwise.imp_of_mem (fun {a b} ha hb ⟨c1, c2⟩ => ?_) this
  have ga := g a ((hm a).mp ha)
  have gb := g b ((hm b).mp hb)
  have : cd a ≠ cd b := fun z => c2 (cd_inj (ga.1.trans gb.1.symm) ga.2 gb.2 z)
  omega
def goodB (ks : List (List Int)) : Bool := decide (ks.length < 64) && decide (1 ≤ (ks.headD [0]).length) && decide ((ks.headD [0]).length < 64) && ks.all fun k => decide (k.length = (ks.headD [0]).length) && k.all fun n => decide (0 ≤ n) && decide (n < 64)
theorem goodB_of {ks : List (List Int)} (h : goodB ks = true) : ks.length < 64 ∧ 1 ≤ (ks.headD [0]).length ∧ (ks.headD [0]).length < 64 ∧ Good (ks.headD [0]).length ks := by
  unfold goodB at h
  simp only [Bool.and_eq_true, decide_eq_true_eq, List.all_eq_true] at h
  exact ⟨h.1.1.1, h.1.1.2, h.1.2, fun k hk => ⟨(h.2 k hk).1, fun n hn => (h.2 k hk).2 n hn⟩⟩
def tupD (k : List Int) : PyData := .tuple (k.map .int)
/-! ### sorted(d) -/
def keyI : List Key → Option (List Int)
  | [] => some []
  | .inl i :: r => (keyI r).map (i :: ·)
  | .inr _ :: _ => none
theorem keyI_inl : ∀ k : List Int, keyI (k.map Sum.inl) = some k
  | [] => rfl
  | i :: k => by rw [List.map_cons, keyI, keyI_inl k]; rfl
def keysI : List (List Key × PyData) → Option (List (List Int))
  | [] => some []
  | kv :: r => (keyI kv.1).bind fun k => (keysI r).map (k :: ·)
theorem keysI_of {H : Hp} : ∀ {ads : Ads} {kvs : List (List Key × PyData)} {ks : List (List Int)}, KvD K H (vsOf ads) kvs → keysI kvs = some ks → ks = ads.map (·.1)
  | [], _, ks, h, e => by cases h; cases e; rfl
  | a :: ads, _, ks, h, e => by
    unfold vsOf at h
    rw [List.map_cons] at h
    cases h with
    | cons r t =>
      simp only [keysI] at e
      rw [← r.1, keyI_inl] at e
      obtain ⟨l, e1, e2⟩ := map_some e
      subst e2
      rw [keysI_of (ads := ads) t e1]
      rfl
def dSortDc (i : Nat) : Ev → Option PyData := fun ρ => (dctAt i ρ).bind fun kvs => (keysI kvs).bind fun ks => if goodB ks = true then some (.list ((upC ks).map tupD)) else none
theorem dt_refs {O : List Addr} {H : Hp} (t : Trk O H) : ∀ {L : List (Addr × List Int)}, (∀ e ∈ L, TupOk K H e.1 (e.2.map V.int) ∧ e.2.length < 64) → DtAll K (hid O H) (L.map fun e => V.ref e.1) ((L.map (·.2)).map tupD)
  | [], _ => .nil
  | e :: L, h => by
    rw [List.map_cons, List.map_cons, List.map_cons]
    refine .cons ?_ (dt_refs t fun f hf => h f (List.mem_cons_of_mem _ hf))
    obtain ⟨h1, h2⟩ := h e List.mem_cons_self
    have hfl : ∀ l : List Int, flatDs (l.map PyData.int) = true := fun l => by
      induction l with
      | nil => rfl
      | cons a l ih => rw [List.map_cons, flatDs, ih]; rfl
    exact Dt.freed t (d := tupD e.2) (by show flatDs _ = true; exact hfl _) (.tup h1 (by rw [List.length_map]; omega) (DtAll.ints _))
theorem ev_sortDc {i : Nat} : EvE K (tCB (rSortDc K) (tCons (tVar i) tNil)) (dSortDc i) := by
  intro O σ H ρ d rp e Q q
  obtain ⟨kvs, e1, e⟩ := bind_some e
  obtain ⟨ks, e2, e⟩ := bind_some e
  split at e
  · rename_i hg
    cases e
    obtain ⟨g1, g2, g3, g4⟩ := goodB_of hg
    obtain ⟨l, vs, h1, ⟨ads, rfl, hl, hk⟩, h3⟩ := rp.2.2 i kvs (dctAt_some e1)
    have hks := keysI_of h3 e2
    refine ⟨_, h1, l, ads, (ks.headD [0]).length, rfl, ⟨hl, fun e he => (hk e he).sq⟩, by rw [hks, List.length_map] at g1; exact g1, g2, fun e he => g4 e.1 (by rw [hks]; exact List.mem_map.mpr ⟨e, he, rfl⟩), fun L p pL nd pw hp => ?_⟩
    have eL : L.map (·.1) = upC ks := cup_of g4 nd (fun k => by rw [hks]; exact (pL.map (·.1)).mem_iff) (List.pairwise_map.mpr pw)
    refine q _ _ (same_new hp) ?_
    rw [← eL]
    have := dt_refs (K := K) rp.1 (L := L.map fun e => (e.2.1, e.1)) (fun e he => by
      obtain ⟨f, hf, rfl⟩ := List.mem_map.mp he
      have hf' := pL.mem_iff.mp hf
      have := g4 f.1 (by rw [hks]; exact List.mem_map.mpr ⟨f, hf', rfl⟩)
      exact ⟨hk f hf', by rw [this.1]; exact g3⟩)
    rw [List.map_map, show List.map (·.2) (L.map fun e => (e.2.1, e.1)) = L.map (·.1) by rw [List.map_map]; rfl] at this
    refine Dt.newLst rp.1 hp this ?_
    rw [List.length_map, pL.length_eq]
    rw [hks, List.length_map] at g1
    omega
  · cases e
/-! ### sorted(set(xs)) -/
def asKeys : List PyData → Option (List (List Int))
  | [] => some []
  | d :: r => (asKey d).bind fun k => (asKeys r).map (k :: ·)
theorem asKeys_of {O : List Addr} {H : Hp} : ∀ {xs : List V} {ds : List PyData} {ks : List (List Int)}, DtAll K (hid O H) xs ds → asKeys ds = some ks → ∃ L : List (Addr × List Int), xs = L.map (fun e => V.ref e.1) ∧ L.map (·.2) = ks ∧ ∀ e ∈ L, TupOk K H e.1 (e.2.map V.int)
  | _, _, ks, .nil, e => by cases e; exact ⟨[], rfl, rfl, fun e he => nomatch he⟩
  | _, _, ks, .cons h t, e => by
    simp only [asKeys] at e
    obtain ⟨k, e1, e⟩ := bind_some e
    obtain ⟨l, e2, e⟩ := map_some e
    subst e
    obtain ⟨b, rfl, hb⟩ := key_tup h e1
    obtain ⟨L, rfl, rfl, hL⟩ := asKeys_of t e2
    refine ⟨(b, k) :: L, rfl, rfl, fun e he => ?_⟩
    rcases List.mem_cons.mp he with z | z
    · rw [z]; exact hb
    · exact hL e z
def kSortSetT (a : PyData) : Option PyData := (asL a).bind fun ds => (asKeys ds).bind fun ks => if goodB ks = true then some (.list ((upC ks).map tupD)) else none
def dSortSetT (f : Ev → Option PyData) : Ev → Option PyData := fun ρ => (f ρ).bind kSortSetT
theorem ev_sortSetT {P : Program} {w : World} {te : TE} {f : Ev → Option PyData} (h : EvE K te f) : EvE K (tCB (rSortedT K P w) (tCons (tCB (rSetOfT K P w) (tCons te tNil)) tNil)) (dSortSetT f) := by
  intro O σ H ρ d rp e Q q
  obtain ⟨a, e1, e⟩ := bind_some e
  obtain ⟨ds, e2, e⟩ := bind_some e
  obtain ⟨ks, e3, e⟩ := bind_some e
  split at e
  · rename_i hg
    cases e
    obtain ⟨g1, g2, g3, g4⟩ := goodB_of hg
    refine h O σ H ρ a rp e1 _ fun x H1 s1 h1 => ?_
    cases h1 with
    | lst k1 k2 k3 =>
      cases e2
      obtain ⟨L, rfl, hL, hk⟩ := asKeys_of k3 e3
      have tk1 := rp.1.same s1
      refine ⟨_, L, rfl, SqL.of (hid_some k1).2, fun p hp => (hk p hp).sq, by rw [← hL, List.length_map] at g1; exact g1, fun a M ha hM1 hM2 => ?_⟩
      have sa : Same H1 (upd H1 a (SetTO P w a M)) := same_new ha
      have gM : ∀ p ∈ M, TupOk K H1 p.1 (p.2.map V.int) ∧ p.2.length = (ks.headD [0]).length ∧ TS.Bd 64 p.2 := fun p hp => by
        have := g4 p.2 (by rw [← hL]; exact List.mem_map.mpr ⟨p, hM1 p hp, rfl⟩)
        exact ⟨hk p (hM1 p hp), this.1, this.2⟩
      refine ⟨a, M, (ks.headD [0]).length, 64, rfl, upd_same, fun p hp => ((gM p hp).1.same sa).sq, g2, fun p hp => (gM p hp).2, fun M' p pM nd h64 pw hp => ?_⟩
      have eM : M'.map (·.2) = upC ks := cup_of g4 nd (fun k => by
        rw [(pM.map (·.2)).mem_iff, ← hL]
        constructor
        · intro hk'
          obtain ⟨e, he, rfl⟩ := List.mem_map.mp hk'
          exact List.mem_map.mpr ⟨e, hM1 e he, rfl⟩
        · intro hk'
          obtain ⟨e, he, rfl⟩ := List.mem_map.mp hk'
          exact hM2 e he) (List.pairwise_map.mpr pw)
      have tk2 := tk1.same sa
      refine q _ _ ((s1.trans sa).trans (same_new hp)) ?_
      rw [← eM]
      refine Dt.newLst tk2 hp (dt_refs tk2 fun e he => ?_) (by rw [List.length_map]; omega)
      have := gM e (pM.mem_iff.mp he)
      exact ⟨this.1.same sa, by rw [this.2.1]; exact g3⟩
    | _ => cases e2
  · cases e
/-! ### {k: v} -/
theorem RepL.strongWithM {O_0 : List Addr} {H_0 : Hp} {L : List Addr} {σ : L2.St} {H H' : Hp} {ρ : Ev} {l : Addr} {u : HO} (r : RepL K O_0 H_0 L σ H ρ) (s : Same H H') (hn : H l = none) (hl : H' l = some u) (mu : Mut (some u)) : RepD K (l :: (L ++ O_0)) σ H' ρ := by
  have h0 : Same (hid (L ++ O_0) H) (hid (l :: (L ++ O_0)) H') := by
    rw [← hid_out_new hn]
    exact hid_same s
  refine ⟨fun b hb => ?_, r.sl.same h0, fun i kvs e => ?_⟩
  · rcases List.mem_cons.mp hb with z | z
    · rw [z]; exact ⟨_, hl, mu⟩
    · exact (r.tr.same s) b z
  · obtain ⟨l', ws, h1, h2, h3⟩ := r.strong.2.2 i kvs e
    exact ⟨l', ws, h1, h2.same s, h3.same h0⟩
def sDisp1 (i : Nat) (f g : Ev → Option PyData) : Ev → Option Out := fun ρ => (keyD f ρ).bind fun k => (g ρ).map fun d => .nx (ρ.set i (.dct [(k, d)]))
theorem s_disp1 {i : Nat} {t tv : TE} {f g : Ev → Option PyData} (hf : EvE K t f) (hg : EvE K tv g) : EvS K W cl (tAsg (tDisp1 K t tv) (gName i)) (sDisp1 i f g) := by
  intro O_0 H_0 σ H ρ out D ⟨L, r⟩ e p
  obtain ⟨k, e2, e⟩ := bind_some e
  obtain ⟨d, e3, e⟩ := map_some e
  subst e
  obtain ⟨dk, ks, e4, e5, rfl⟩ := keyD_some e2
  intro l hl
  have r1 := r.strongWithM (same_new (o := dcO l []) hl) hl upd_same trivial
  refine hf _ σ _ ρ dk r1 e4 _ fun y H1 s1 hy => hg _ σ H1 ρ d (r1.same s1) e3 _ fun v H2 s2 hv => ?_
  have hl2 : H2 l = some (dcO l []) := s2 _ _ (s1 _ _ upd_same)
  obtain ⟨b, rfl, hb⟩ := key_tup hy e5
  refine ⟨hl2, ks, b, rfl, (hb.same s2).sq, p _ _ ⟨_, r.newOwn (H' := upd H2 l (dcO l [(ks, b, v)])) (l := l) (u := dcO l [(ks, b, v)]) (fun c o hc => ?_) hl upd_same trivial i rfl (fun ds z => by cases z) (fun ds z => ?_)⟩⟩
  · have hne : c ≠ l := fun z => by rw [z, hl] at hc; cases hc
    rw [upd_ne hne]
    exact s2 _ _ (s1 _ _ (same_new hl _ _ hc))
  · cases z
    refine ⟨_, ⟨[(ks, b, v)], rfl, upd_same, fun e he => ?_⟩, by simp [vsOf], .cons ⟨rfl, ?_⟩ .nil⟩
    · rw [List.mem_singleton.mp he]
      rcases hb.same s2 with ⟨o, g, dd⟩ | g
      · refine .inl ⟨o, ?_, dd⟩
        rw [upd_ne]; exact g
        intro z
        simp only at z
        rw [z, hl2] at g; cases g
      · exact .inr g
    · show Dt K (hid (l :: (L ++ O_0)) (upd H2 l _)) v d
      rw [hid_mem List.mem_cons_self]
      exact hv
end
end CS
/-! M40: exchanges of neighbouring blocks; what is near. -/
namespace CS
open PySem
def exch {α : Type} (o : List α) (a b c : Nat) : List α := o.take a ++ (o.drop b).take (c - b) ++ (o.drop a).take (b - a) ++ o.drop c
theorem exch_perm {α : Type} (o : List α) {a b c : Nat} (h1 : a ≤ b) (h2 : b ≤ c) : (exch o a b c).Perm o := by
  have e : o = o.take a ++ ((o.drop a).take (b - a) ++ ((o.drop b).take (c - b) ++ o.drop c)) := by
    have x1 : (o.drop b).take (c - b) ++ o.drop c = o.drop b := by
      have := List.take_append_drop (c - b) (o.drop b)
      rwa [List.drop_drop, show b + (c - b) = c by omega] at this
    have x2 : (o.drop a).take (b - a) ++ o.drop b = o.drop a := by
      have := List.take_append_drop (b - a) (o.drop a)
      rwa [List.drop_drop, show a + (b - a) = b by omega] at this
    rw [x1, x2, List.take_append_drop]
  unfold exch
  conv => rhs; rw [e]
  rw [List.append_assoc, List.append_assoc]
  refine List.Perm.append_left _ ?_
  rw [← List.append_assoc, ← List.append_assoc]
  exact List.Perm.append_right _ List.perm_append_comm
def exs3 (o : List Int) (a b : Nat) : List (List Int) := (List.range (o.length - b)).map fun i => exch o a b (b + 1 + i)
def exs2 (o : List Int) (a m : Nat) : List (List Int) := (List.range m).flatMap fun j => exs3 o a (a + 1 + j)
def exs1 (o : List Int) (m : Nat) : List (List Int) := (List.range m).flatMap fun a => exs2 o a (o.length - 1 - a)
def exs (o : List Int) : List (List Int) := exs1 o o.length
theorem mem_exs {o x : List Int} : x ∈ exs o ↔ ∃ a b c, a < b ∧ b < c ∧ c ≤ o.length ∧ x = exch o a b c := by
  unfold exs exs1 exs2 exs3
  simp only [List.mem_flatMap, List.mem_map, List.mem_range]
  constructor
  · rintro ⟨a, ha, j, hj, i, hi, rfl⟩
    exact ⟨a, a + 1 + j, a + 1 + j + 1 + i, by omega, by omega, by omega, rfl⟩
  · rintro ⟨a, b, c, h1, h2, h3, rfl⟩
    exact ⟨a, by omega, b - (a + 1), by omega, c - (b + 1), by omega, by rw [show a + 1 + (b - (a + 1)) = b by omega, show b + 1 + (c - (b + 1)) = c by omega]⟩
def exN (n : Nat) : Nat := ((List.range n).flatMap fun a => (List.range (n - 1 - a)).flatMap fun j => List.range (n - (a + 1 + j))).length
theorem exs_len (o : List Int) : (exs o).length = exN o.length := by
  unfold exs exs1 exs2 exs3 exN
  rw [List.length_flatMap, List.length_flatMap]
  congr 1
  refine List.map_congr_left fun a _ => ?_
  rw [List.length_flatMap, List.length_flatMap]
  congr 1
  refine List.map_congr_left fun j _ => ?_
  rw [List.length_map]
theorem exN_le {n : Nat} (h : n ≤ 6) : exN n ≤ 35 := by
  have : n = 0 ∨ n = 1 ∨ n = 2 ∨ n = 3 ∨ n = 4 ∨ n = 5 ∨ n = 6 := by omega
  rcases this with e | e | e | e | e | e | e <;> subst e <;> decide +kernel
/-! ### the three loops -/
theorem len_encI (l : List Int) : pLen [encI l] = some (.int l.length) := by show some (PyData.int (l.map PyData.int).length) = _; rw [List.length_map]
theorem pRngN {s n : Nat} (h1 : s ≤ 1000) (h2 : n ≤ 1000) : pRng [.int ((s : Nat) : Int), .int ((n : Nat) : Int)] = some ((List.range (n - s)).map fun i => PyData.int ((s + i : Nat) : Int)) := by
  rw [pRngU (by omega) (by omega) h2]
  unfold upI
  rw [List.map_map, show (((n : Nat) : Int) - ((s : Nat) : Int)).toNat = n - s by omega]
  congr 1
abbrev W3 (S : Ev → Option Out) : Ev → Option Out := sFor (dRng (dCons (d2 pAdd (dVar 4) (dC (.int 1))) (dCons (d2 pAdd (dB pLen (dCons (dVar 1) dNil)) (dC (.int 1))) dNil))) (aName 5) S
abbrev W2 (S : Ev → Option Out) : Ev → Option Out := sFor (dRng (dCons (d2 pAdd (dVar 3) (dC (.int 1))) (dCons (dB pLen (dCons (dVar 1) dNil)) dNil))) (aName 4) (W3 S)
abbrev W1 (S : Ev → Option Out) : Ev → Option Out := sFor (dRng (dCons (dB pLen (dCons (dVar 1) dNil)) dNil)) (aName 3) (W2 S)
theorem triple {c0 : Cell} {o : List Int} (ho : o.length ≤ 6) {S : Ev → Option Out} (R : List (List Int) → Cell → Prop)
    (step : ∀ (a b c : Nat) (acc : List (List Int)) (C c6 : Cell), a < b → b < c → c ≤ o.length → (∃ rest, exs o = acc ++ exch o a b c :: rest) → R acc C →
      ∃ C' c6', S [c0, .dat (encI o), C, .dat (.int (a : Nat)), .dat (.int (b : Nat)), .dat (.int (c : Nat)), c6] = some (.nx [c0, .dat (encI o), C', .dat (.int (a : Nat)), .dat (.int (b : Nat)), .dat (.int (c : Nat)), c6']) ∧ R (acc ++ [exch o a b c]) C')
    (C c3 c4 c5 c6 : Cell) (h : R [] C) : ∃ C' d3 d4 d5 d6, W1 S [c0, .dat (encI o), C, c3, c4, c5, c6] = some (.nx [c0, .dat (encI o), C', d3, d4, d5, d6]) ∧ R (exs o) C' := by
  have pre2 : ∀ a m, m + 1 ≤ o.length - 1 - a → exs2 o a (m + 1) = exs2 o a m ++ exs3 o a (a + 1 + m) := fun a m _ => by
    unfold exs2; rw [List.range_succ, List.flatMap_append]; simp
  have pre1 : ∀ m, exs1 o (m + 1) = exs1 o m ++ exs2 o m (o.length - 1 - m) := fun m => by
    unfold exs1; rw [List.range_succ, List.flatMap_append]; simp
  have mono2 : ∀ a m k, ∃ rest, exs2 o a (m + k) = exs2 o a m ++ rest := fun a m k => by
    induction k with
    | zero => exact ⟨[], by simp⟩
    | succ k ih =>
      obtain ⟨rest, e⟩ := ih
      refine ⟨rest ++ exs3 o a (a + 1 + (m + k)), ?_⟩
      show exs2 o a (m + k + 1) = _
      rw [← List.append_assoc, ← e]
      unfold exs2; rw [List.range_succ, List.flatMap_append]; simp
  have mono1 : ∀ m k, ∃ rest, exs1 o (m + k) = exs1 o m ++ rest := fun m k => by
    induction k with
    | zero => exact ⟨[], by simp⟩
    | succ k ih =>
      obtain ⟨rest, e⟩ := ih
      refine ⟨rest ++ exs2 o (m + k) (o.length - 1 - (m + k)), ?_⟩
      show exs1 o (m + k + 1) = _
      rw [pre1, e, List.append_assoc]
  have pl := len_encI o
  have r1 : pRng [.int ((o.length : Nat) : Int)] = some (rngD 0 o.length) := pRng1 _ (by omega)
  obtain ⟨ρ', e, C', c3', c4', c5', c6', rfl, hR⟩ := for_rng (a := aName 3) (F := W2 S) o.length
    (fun i ρ => ∃ C c3 c4 c5 c6, ρ = [c0, .dat (encI o), C, c3, c4, c5, c6] ∧ R (exs1 o i) C) [c0, .dat (encI o), C, c3, c4, c5, c6] ⟨_, _, _, _, _, rfl, h⟩ (by
      rintro a ρ ha ⟨C, c3, c4, c5, c6, rfl, hR⟩
      have r2 : pRng [.int (((a : Nat) : Int) + 1), .int ((o.length : Nat) : Int)] = some ((List.range (o.length - (a + 1))).map fun i => PyData.int ((a + 1 + i : Nat) : Int)) := pRngN (s := a + 1) (by omega) (by omega)
      obtain ⟨ρ', e, C', c4', c5', c6', rfl, hR'⟩ := for_rngG (a := aName 4) (F := W3 S) (fun i => PyData.int ((a + 1 + i : Nat) : Int)) (o.length - (a + 1))
        (fun j ρ => ∃ C c4 c5 c6, ρ = [c0, .dat (encI o), C, .dat (.int (a : Nat)), c4, c5, c6] ∧ R (exs1 o a ++ exs2 o a j) C) [c0, .dat (encI o), C, .dat (.int (a : Nat)), c4, c5, c6] ⟨_, _, _, _, rfl, by simpa [exs2] using hR⟩ (by
          rintro j ρ hj ⟨C, c4, c5, c6, rfl, hR⟩
          have r3 : pRng [.int (((a + 1 + j : Nat) : Int) + 1), .int (((o.length : Nat) : Int) + 1)] = some ((List.range (o.length + 1 - (a + 1 + j + 1))).map fun i => PyData.int ((a + 1 + j + 1 + i : Nat) : Int)) := pRngN (s := a + 1 + j + 1) (n := o.length + 1) (by omega) (by omega)
          obtain ⟨ρ', e, C', c5', c6', rfl, hR'⟩ := for_rngG (a := aName 5) (F := S) (fun i => PyData.int ((a + 1 + j + 1 + i : Nat) : Int)) (o.length + 1 - (a + 1 + j + 1))
            (fun k ρ => ∃ C c5 c6, ρ = [c0, .dat (encI o), C, .dat (.int (a : Nat)), .dat (.int ((a + 1 + j : Nat) : Int)), c5, c6] ∧ R (exs1 o a ++ exs2 o a j ++ (List.range k).map fun i => exch o a (a + 1 + j) (a + 1 + j + 1 + i)) C)
            [c0, .dat (encI o), C, .dat (.int (a : Nat)), .dat (.int ((a + 1 + j : Nat) : Int)), c5, c6] ⟨_, _, _, rfl, by simpa using hR⟩ (by
              rintro k ρ hk ⟨C, c5, c6, rfl, hR⟩
              obtain ⟨C', c6', e, hR'⟩ := step a (a + 1 + j) (a + 1 + j + 1 + k) _ C c6 (by omega) (by omega) (by omega) (by
                obtain ⟨t1, e1⟩ := mono1 (a + 1) (o.length - (a + 1))
                obtain ⟨t2, e2⟩ := mono2 a (j + 1) (o.length - 1 - a - (j + 1))
                rw [show a + 1 + (o.length - (a + 1)) = o.length by omega] at e1
                rw [show j + 1 + (o.length - 1 - a - (j + 1)) = o.length - 1 - a by omega] at e2
                rw [pre1, e2, pre2 a j (by omega)] at e1
                have e3 : exs3 o a (a + 1 + j) = ((List.range k).map fun i => exch o a (a + 1 + j) (a + 1 + j + 1 + i)) ++ exch o a (a + 1 + j) (a + 1 + j + 1 + k) :: (List.range (o.length - (a + 1 + j) - (k + 1))).map fun i => exch o a (a + 1 + j) (a + 1 + j + 1 + (k + 1 + i)) := by
                  unfold exs3
                  have : o.length - (a + 1 + j) = k + 1 + (o.length - (a + 1 + j) - (k + 1)) := by omega
                  rw [this, List.range_add, List.map_append, List.range_succ, List.map_append, List.append_assoc, List.map_map, show k + 1 + (o.length - (a + 1 + j) - (k + 1)) - (k + 1) = o.length - (a + 1 + j) - (k + 1) by omega]
                  rfl
                exact ⟨((List.range (o.length - (a + 1 + j) - (k + 1))).map fun i => exch o a (a + 1 + j) (a + 1 + j + 1 + (k + 1 + i))) ++ (t2 ++ t1), by show exs1 o o.length = _; rw [e1, e3]; simp only [List.append_assoc, List.cons_append]⟩) hR
              refine ⟨_, _, a_name _ _, e, C', _, c6', rfl, ?_⟩
              rw [List.range_succ, List.map_append, ← List.append_assoc]
              exact hR')
          refine ⟨_, [c0, .dat (encI o), C', .dat (.int (a : Nat)), .dat (.int ((a + 1 + j : Nat) : Int)), c5', c6'], a_name _ _, ?_, C', .dat (.int ((a + 1 + j : Nat) : Int)), c5', c6', rfl, ?_⟩
          · simp only [sD_cons, sD_nil, List.set_cons_succ, List.set_cons_zero, e_for, x_Rng, x_cons, x_B, x_nil, x_d2, x_C, var_s, var_0, b_some, pl, p_add, r3]
            exact e
          · unfold exs2
            rw [List.range_succ, List.flatMap_append, List.flatMap_cons, List.flatMap_nil, List.append_nil, ← List.append_assoc]
            unfold exs3
            rw [show o.length - (a + 1 + j) = o.length + 1 - (a + 1 + j + 1) by omega]
            exact hR')
      refine ⟨_, [c0, .dat (encI o), C', .dat (.int (a : Nat)), c4', c5', c6'], a_name _ _, ?_, C', .dat (.int (a : Nat)), c4', c5', c6', rfl, ?_⟩
      · simp only [sD_cons, sD_nil, List.set_cons_succ, List.set_cons_zero, e_for, x_Rng, x_cons, x_B, x_nil, x_d2, x_C, var_s, var_0, b_some, pl, p_add, r2]
        exact e
      · rw [pre1, show o.length - 1 - a = o.length - (a + 1) by omega]
        exact hR')
  refine ⟨C', c3', c4', c5', c6', ?_, hR⟩
  simp only [e_for, x_Rng, x_cons, x_B, x_nil, x_d2, x_C, var_s, var_0, b_some, pl, r1]
  exact e
end CS
namespace CS
open PySem L2
def b_near_of : Ev → Option Out :=
  (sSeq (sDNew 2)
    (sSeq (sFor (dRng (dCons (dB pLen (dCons (dVar 1) dNil)) dNil)) (aName 3) (sFor (dRng (dCons (d2 pAdd (dVar 3) (dC (.int 1))) (dCons (dB pLen (dCons (dVar 1) dNil)) dNil))) (aName 4) (sFor (dRng (dCons (d2 pAdd (dVar 4) (dC (.int 1))) (dCons (d2 pAdd (dB pLen (dCons (dVar 1) dNil)) (dC (.int 1))) dNil))) (aName 5) (sSeq (sSet 6 (d2 pAdd (d2 pAdd (d2 pAdd (dSl (dVar 1) dNoPart (dPart (dVar 3))) (dSl (dVar 1) (dPart (dVar 4)) (dPart (dVar 5)))) (dSl (dVar 1) (dPart (dVar 3)) (dPart (dVar 4)))) (dSl (dVar 1) (dPart (dVar 5)) dNoPart)))
    (sIf (dTru (dB m_explains_story (dCons (dVar 0) (dCons (dVar 6) dNil)))) (sDPutK 2 (dVar 6) (dC (.bool true))) sNext)))))
    (sRet (dSortDc 2))))
def m_near_of : List PyData → Option PyData := fnD 7 b_near_of
def b_near : Ev → Option Out :=
  (sSeq (sExprR (dBR m_check_order (dCons (dVar 0) (dCons (dVar 1) dNil))))
    (sRet (dB m_near_of (dCons (dVar 0) (dCons (dVar 1) dNil)))))
def m_near : List PyData → Option (Except Nat PyData) := fnX 2 b_near
def b_road : Ev → Option Out :=
  (sSeq (sExprR (dBR m_check_order (dCons (dVar 0) (dCons (dVar 1) dNil))))
    (sSeq (sExprR (dBR m_check_order (dCons (dVar 0) (dCons (dVar 2) dNil))))
    (sSeq (sDisp1 3 (dVar 1) (dC .none))
    (sSeq (sOwn 4 (fLst (dCons (dVar 1) dNil)))
    (sSeq (whD (dT (dDNotIn 3 (dVar 2))) (sSeq (sPopAt 5 4 (dC (.int 0)))
    (sFor (dSeqI (dB m_near_of (dCons (dVar 0) (dCons (dVar 5) dNil)))) (aName 6) (sIf (dT (dDNotIn 3 (dVar 6))) (sSeq (sDPutK 3 (dVar 6) (dVar 5))
    (sApp 4 (dVar 6))) sNext))) 1000)
    (sSeq (sOwn 7 (fLst (dCons (dVar 2) dNil)))
    (sSeq (whD (dT (d2 (pIsN true) (dDGetK 3 (d2 pIx (dVar 7) (d1 pNeg (dC (.int 1))))) (dC .none))) (sAppV 7 (dDGetK 3 (d2 pIx (dVar 7) (d1 pNeg (dC (.int 1)))))) 1000)
    (sRet (dRevL (dVar 7))))))))))
def m_road : List PyData → Option (Except Nat PyData) := fnX 8 b_road
def b__law_near : Ev → Option Out :=
  (sSeq (sSet 2 (dLst dNil))
    (sSeq (sFor (dRng (dCons (dB pLen (dCons (dVar 1) dNil)) dNil)) (aName 3) (sFor (dRng (dCons (d2 pAdd (dVar 3) (dC (.int 1))) (dCons (dB pLen (dCons (dVar 1) dNil)) dNil))) (aName 4) (sFor (dRng (dCons (d2 pAdd (dVar 4) (dC (.int 1))) (dCons (d2 pAdd (dB pLen (dCons (dVar 1) dNil)) (dC (.int 1))) dNil))) (aName 5) (sSeq (sSet 6 (d2 pAdd (dSl (dVar 1) dNoPart (dPart (dVar 3))) (dSl (dVar 1) (dPart (dVar 4)) (dPart (dVar 5)))))
    (sSeq (sSet 6 (d2 pAdd (d2 pAdd (dVar 6) (dSl (dVar 1) (dPart (dVar 3)) (dPart (dVar 4)))) (dSl (dVar 1) (dPart (dVar 5)) dNoPart)))
    (sSet 2 (d2 pAdd (dVar 2) (d2 pMul (dLst (dCons (dVar 6) dNil)) (dB pInt (dCons (dB m__law_explains (dCons (dVar 0) (dCons (dVar 6) dNil))) dNil))))))))))
    (sRet (dSortSetT (dVar 2)))))
def m__law_near : List PyData → Option PyData := fnD 7 b__law_near
def b__law_led : Ev → Option Out :=
  (sTry 4 (rIf (dT (d2 pEq (dVar 0) (dC (.int 0)))) (dBR m_near (dCons (dVar 1) (dCons (dVar 2) dNil))) (dBR m_road (dCons (dVar 1) (dCons (dVar 2) (dCons (dVar 3) dNil))))) [(6, .str "order")])
def m__law_led : List PyData → Option PyData := fnD 5 b__law_led
end CS
/-! M41: near_of and the law's own. -/
namespace CS
open PySem
theorem explT_eq {l : List Op} (hs : storyOk l = true) (r : List Int) : explT l r = decide (r ∈ expls l) := by
  by_cases h : r ∈ expls l
  · rw [explT_mem hs h]; simp [h]
  · rw [show decide (r ∈ expls l) = false from decide_eq_false h]
    cases e : explT l r with
    | false => rfl
    | true =>
      exfalso
      unfold explT at e
      rw [Bool.and_eq_true] at e
      have hp := isPerm_perm e.1
      have hp : r.Perm (nums l.length) := hp
      have nd : r.Nodup := hp.nodup_iff.mpr (nums_nodup _)
      have hl := storyOk_len hs
      have ag := List.all_eq_true.mp e.2
      refine h (allF_mem nd hp (fun p x s e => ?_) 8 [] r rfl (by rw [hp.length_eq, nums_len]; omega))
      have := ag p.length (by rw [e]; simp)
      have e1 : r.take p.length = p := by rw [e]; simp
      have e2 : r.getD p.length 0 = x := by rw [e]; simp
      rw [e1, e2] at this
      exact this
theorem lawB_eq {l : List Op} (hs : storyOk l = true) (r : List Int) : (isPerm l r && goL l r 0) = decide (r ∈ expls l) := by
  by_cases h : r ∈ expls l
  · obtain ⟨h1, h2⟩ := (mem_expls hs).mp h
    rw [isPerm_of h1, goL_goV, h2]; simp [h]
  · rw [show decide (r ∈ expls l) = false from decide_eq_false h]
    cases e : (isPerm l r && goL l r 0) with
    | false => rfl
    | true =>
      rw [Bool.and_eq_true] at e
      exact absurd ((mem_expls hs).mpr ⟨isPerm_perm e.1, by rw [← goL_goV]; exact e.2⟩) h
/-- the explanations that one exchange leads to -/
def nearL (l : List Op) (o : List Int) : List (List Int) := upC ((exs o).filter fun x => decide (x ∈ expls l))
theorem good_expls {l : List Op} (hs : storyOk l = true) {ks : List (List Int)} (h : ∀ k ∈ ks, k ∈ expls l) : Good l.length ks := fun k hk => by
  have hl := storyOk_len hs
  exact ⟨expls_len1 (h k hk), fun m hm => by have := expls_in (h k hk) m hm; omega⟩
theorem goodB_expls {l : List Op} (hs : storyOk l = true) {ks : List (List Int)} (h : ∀ k ∈ ks, k ∈ expls l) (hl : ks.length < 64) (h1 : ks ≠ [] → 1 ≤ l.length) : goodB ks = true := by
  have g := good_expls hs h
  have l6 := storyOk_len hs
  cases ks with
  | nil => rfl
  | cons k ks =>
    have gk := (g k List.mem_cons_self).1
    have := h1 (by simp)
    show (decide ((k :: ks).length < 64) && decide (1 ≤ k.length) && decide (k.length < 64) && (k :: ks).all fun x => decide (x.length = k.length) && x.all fun n => decide (0 ≤ n) && decide (n < 64)) = true
    simp only [Bool.and_eq_true, decide_eq_true_eq, List.all_eq_true]
    exact ⟨⟨⟨hl, by omega⟩, by omega⟩, fun x hx => ⟨by rw [(g x hx).1, gk], fun n hn => (g x hx).2 n hn⟩⟩
theorem mem_near {l : List Op} (hs : storyOk l = true) {o x : List Int} : x ∈ nearL l o ↔ x ∈ exs o ∧ x ∈ expls l := by
  unfold nearL
  rw [(upC_up (good_expls hs (ks := (exs o).filter fun x => decide (x ∈ expls l)) fun k hk => by simpa using (List.mem_filter.mp hk).2)).2, List.mem_filter]
  simp
theorem near_is {l : List Op} (hs : storyOk l = true) {o : List Int} {ks : List (List Int)} (h : ∀ k, k ∈ ks ↔ k ∈ exs o ∧ k ∈ expls l) : upC ks = nearL l o := by
  have g := good_expls hs (ks := ks) fun k hk => ((h k).mp hk).2
  obtain ⟨h1, h2⟩ := upC_up g
  have g' := good_expls hs (ks := (exs o).filter fun x => decide (x ∈ expls l)) fun k hk => by simpa using (List.mem_filter.mp hk).2
  obtain ⟨h3, h4⟩ := upC_up g'
  refine cup_unique h1 h3 fun k => ?_
  rw [h2, h]
  exact (mem_near hs).symm
theorem exs_pos {o x : List Int} (h : x ∈ exs o) : 1 ≤ o.length := by
  obtain ⟨a, b, c, h1, h2, h3, _⟩ := mem_exs.mp h
  omega
/-! slices -/
theorem cut_mid {α : Type} (l : List α) {b c : Nat} (h1 : b ≤ c) (h2 : c ≤ l.length) : cutD l (some (b : Int)) (some (c : Int)) = (l.drop b).take (c - b) := by
  unfold cutD
  rw [HT.sIx_nat, HT.sIx_nat, Nat.min_eq_left h2, Nat.min_eq_left (Nat.le_trans h1 h2)]
theorem sl_to (o : List Int) (a : Nat) : pSl (encI o) none (some (a : Int)) = some (encI (o.take a)) := by
  show some (PyData.tuple _) = _
  rw [cut_to, ← List.map_take]; rfl
theorem sl_from (o : List Int) (a : Nat) : pSl (encI o) (some (a : Int)) none = some (encI (o.drop a)) := by
  show some (PyData.tuple _) = _
  rw [cut_from, ← List.map_drop]; rfl
theorem sl_mid (o : List Int) {b c : Nat} (h1 : b ≤ c) (h2 : c ≤ o.length) : pSl (encI o) (some (b : Int)) (some (c : Int)) = some (encI ((o.drop b).take (c - b))) := by
  show some (PyData.tuple _) = _
  rw [cut_mid _ h1 (by rw [List.length_map]; exact h2), ← List.map_drop, ← List.map_take]; rfl
theorem add_I (a b : List Int) (h : a.length + b.length ≤ 65536) : pAdd (encI a) (encI b) = some (encI (a ++ b)) := by
  unfold encI
  rw [addT _ _ (by rw [List.length_map, List.length_map]; exact h), List.map_append]
theorem ex_more {o : List Int} (ho : o.length ≤ 6) {a b c : Nat} (h1 : a < b) (h2 : b < c) (h3 : c ≤ o.length) {ρ : Ev} (e1 : dVar 1 ρ = some (encI o)) (e3 : dVar 3 ρ = some (.int (a : Nat))) (e4 : dVar 4 ρ = some (.int (b : Nat))) (e5 : dVar 5 ρ = some (.int (c : Nat))) :
    (d2 pAdd (dSl (dVar 1) dNoPart (dPart (dVar 3))) (dSl (dVar 1) (dPart (dVar 4)) (dPart (dVar 5)))) ρ = some (encI (o.take a ++ (o.drop b).take (c - b))) := by
  have t1 : (o.take a).length ≤ 6 := by rw [List.length_take]; omega
  have t2 : ((o.drop b).take (c - b)).length ≤ 6 := by rw [List.length_take, List.length_drop]; omega
  simp only [x_d2, x_Sl, e1, b_some, x_noPart, x_Part, e3, e4, e5, asI_i, m_some, sl_to, sl_mid o (Nat.le_of_lt h2) h3]
  exact add_I _ _ (by omega)

/-! near_of -/
abbrev SN : Ev → Option Out := (sSeq (sSet 6 (d2 pAdd (d2 pAdd (d2 pAdd (dSl (dVar 1) dNoPart (dPart (dVar 3))) (dSl (dVar 1) (dPart (dVar 4)) (dPart (dVar 5)))) (dSl (dVar 1) (dPart (dVar 3)) (dPart (dVar 4)))) (dSl (dVar 1) (dPart (dVar 5)) dNoPart)))
    (sIf (dTru (dB m_explains_story (dCons (dVar 0) (dCons (dVar 6) dNil)))) (sDPutK 2 (dVar 6) (dC (.bool true))) sNext))
def kInl (k : List Int) : List L2.Key := k.map Sum.inl
theorem kInl_inj {a b : List Int} : kInl a = kInl b ↔ a = b := ⟨fun h => (List.map_inj_right (fun _ _ e => Sum.inl.inj e)).mp h, fun h => by rw [h]⟩
theorem asInts_map : ∀ k : List Int, asInts (k.map .int) = some k
  | [] => rfl
  | i :: k => by rw [List.map_cons, asInts, asInts_map k]; rfl
theorem key_I (k : List Int) : asKey (encI k) = some k := asInts_map k
theorem keyD_I {f : Ev → Option PyData} {ρ : Ev} {k : List Int} (h : f ρ = some (encI k)) : keyD f ρ = some (kInl k) := by
  unfold keyD
  rw [h, b_some, key_I]; rfl
/-- a dict of orders -/
def dctO (b : List (List Int × PyData)) : List (List L2.Key × PyData) := b.map fun p => (kInl p.1, p.2)
theorem putD_new {b : List (List Int × PyData)} {k : List Int} {d : PyData} (h : k ∉ b.map (·.1)) : putD (dctO b) (kInl k) d = dctO (b ++ [(k, d)]) := by
  have : ((dctO b).any fun kv => decide (kv.1 = kInl k)) = false := by
    unfold dctO
    rw [List.any_map, List.any_eq_false]
    intro p hp
    simp only [Function.comp, decide_eq_true_eq]
    intro z
    exact h (List.mem_map.mpr ⟨p, hp, kInl_inj.mp z⟩)
  unfold putD
  rw [this]
  simp [dctO]
theorem putD_old {b : List (List Int × PyData)} {k : List Int} {d : PyData} (h : k ∈ b.map (·.1)) : putD (dctO b) (kInl k) d = dctO (b.map fun p => if p.1 = k then (p.1, d) else p) := by
  have : ((dctO b).any fun kv => decide (kv.1 = kInl k)) = true := by
    unfold dctO
    rw [List.any_map, List.any_eq_true]
    obtain ⟨p, hp, e⟩ := List.mem_map.mp h
    exact ⟨p, hp, by simp [Function.comp, kInl_inj, e]⟩
  unfold putD
  rw [this, if_pos rfl]
  unfold dctO
  rw [List.map_map, List.map_map]
  refine List.map_congr_left fun p _ => ?_
  simp only [Function.comp, kInl_inj]
  split <;> rfl
theorem keysI_O : ∀ b : List (List Int × PyData), keysI (dctO b) = some (b.map (·.1))
  | [] => rfl
  | p :: b => by
    have := keysI_O b
    unfold dctO at *
    rw [List.map_cons, keysI]
    show (keyI (p.1.map Sum.inl)).bind _ = _
    rw [keyI_inl, b_some, this]
    rfl
theorem valD_O (k : List Int) : ∀ b : List (List Int × PyData), valD (dctO b) (kInl k) = (b.find? fun p => decide (p.1 = k)).map (·.2)
  | [] => rfl
  | p :: b => by
    have ih := valD_O k b
    unfold valD dctO at *
    rw [List.map_cons, List.find?_cons, List.find?_cons]
    by_cases e : p.1 = k
    · simp [e]
    · rw [show decide (kInl p.1 = kInl k) = false from decide_eq_false fun z => e (kInl_inj.mp z), show decide (p.1 = k) = false from decide_eq_false e]
      exact ih
theorem near_of_ok {l : List Op} (hs : storyOk l = true) {o : List Int} (hp : o.Perm (nums l.length)) : m_near_of [encO l, encI o] = some (.list ((nearL l o).map encI)) := by
  have hl := storyOk_len hs
  have ho : o.length ≤ 6 := by rw [hp.length_eq, nums_len]; exact hl
  have xN := exN_le ho
  have xl := exs_len o
  obtain ⟨C', d3, d4, d5, d6, e, b, rfl, hb1, hb2⟩ := triple (c0 := .dat (encO l)) (o := o) ho (S := SN)
    (fun acc C => ∃ b : List (List Int × PyData), C = .dct (dctO b) ∧ b.length ≤ acc.length ∧ ∀ k, k ∈ b.map (·.1) ↔ k ∈ acc ∧ k ∈ expls l) (by
      rintro a m c acc C c6 h1 h2 h3 ⟨rest, er⟩ ⟨b, rfl, hb1, hb2⟩
      have ax : acc.length ≤ 35 := by
        have := congrArg List.length er
        rw [List.length_append, List.length_cons] at this
        omega
      have px := (exch_perm o (Nat.le_of_lt h1) (Nat.le_of_lt h2) (c := c)).trans hp
      have ix : InR l (exch o a m c) := fun k hk => nums_mem.mp (px.mem_iff.mp hk)
      have lx : (exch o a m c).length ≤ 1000 := by rw [px.length_eq, nums_len]; omega
      have ee := explains_story_ok hl ix lx
      rw [explT_eq hs] at ee
      have t3 : ((o.drop a).take (m - a)).length ≤ 6 := by rw [List.length_take, List.length_drop]; omega
      have t1 : (o.take a ++ (o.drop m).take (c - m)).length ≤ 12 := by rw [List.length_append, List.length_take, List.length_take, List.length_drop]; omega
      have t4 : (o.drop c).length ≤ 6 := by rw [List.length_drop]; omega
      have em : (d2 pAdd (d2 pAdd (d2 pAdd (dSl (dVar 1) dNoPart (dPart (dVar 3))) (dSl (dVar 1) (dPart (dVar 4)) (dPart (dVar 5)))) (dSl (dVar 1) (dPart (dVar 3)) (dPart (dVar 4)))) (dSl (dVar 1) (dPart (dVar 5)) dNoPart))
          [.dat (encO l), .dat (encI o), .dct (dctO b), .dat (.int (a : Nat)), .dat (.int (m : Nat)), .dat (.int (c : Nat)), c6] = some (encI (exch o a m c)) := by
        rw [x_d2, x_d2, ex_more ho h1 h2 h3 rfl rfl rfl rfl, b_some]
        simp only [x_Sl, var_s, var_0, b_some, x_noPart, x_Part, asI_i, m_some, sl_mid o (Nat.le_of_lt h1) (show m ≤ o.length by omega), sl_from]
        rw [add_I _ _ (by omega), b_some, add_I _ _ (by rw [List.length_append]; omega)]
        rfl
      have ec : ∀ C, (dTru (dB m_explains_story (dCons (dVar 0) (dCons (dVar 6) dNil)))) (view [.dat (encO l), .dat (encI o), C, .dat (.int (a : Nat)), .dat (.int (m : Nat)), .dat (.int (c : Nat)), .dat (encI (exch o a m c))]) = some (decide (exch o a m c ∈ expls l)) := fun C => by
        simp only [view, List.map_cons, List.map_nil, v_dat, x_Tru, x_B, x_cons, x_nil, var_s, var_0, b_some, m_some, ee, t_b]
      by_cases hx : exch o a m c ∈ expls l
      · have hk : keyD (dVar 6) [.dat (encO l), .dat (encI o), .dct (dctO b), .dat (.int (a : Nat)), .dat (.int (m : Nat)), .dat (.int (c : Nat)), .dat (encI (exch o a m c))] = some (kInl (exch o a m c)) := keyD_I rfl
        have put : ∃ b', putD (dctO b) (kInl (exch o a m c)) (.bool true) = dctO b' ∧ b'.length ≤ (acc ++ [exch o a m c]).length ∧ ∀ k, k ∈ b'.map (·.1) ↔ k ∈ acc ++ [exch o a m c] ∧ k ∈ expls l := by
          by_cases hm : exch o a m c ∈ b.map (·.1)
          · refine ⟨_, putD_old hm, by rw [List.length_map, List.length_append]; omega, fun k => ?_⟩
            rw [List.map_map, show ((fun x : List Int × PyData => x.1) ∘ fun p => if p.1 = exch o a m c then (p.1, PyData.bool true) else p) = fun p => p.1 from funext fun p => by simp only [Function.comp]; split <;> rfl, hb2]
            constructor
            · rintro ⟨q1, q2⟩; exact ⟨List.mem_append_left _ q1, q2⟩
            · rintro ⟨q1, q2⟩
              rcases List.mem_append.mp q1 with z | z
              · exact ⟨z, q2⟩
              · rw [List.mem_singleton.mp z]; exact (hb2 _).mp hm
          · refine ⟨_, putD_new hm, by rw [List.length_append, List.length_append]; simp; omega, fun k => ?_⟩
            rw [List.map_append, List.mem_append, hb2, List.mem_append]
            simp only [List.map_cons, List.map_nil, List.mem_singleton]
            constructor
            · rintro (⟨q1, q2⟩ | rfl)
              · exact ⟨.inl q1, q2⟩
              · exact ⟨.inr rfl, hx⟩
            · rintro ⟨q1 | q1, q2⟩
              · exact .inl ⟨q1, q2⟩
              · exact .inr q1
        obtain ⟨b', e1, e2, e3⟩ := put
        refine ⟨.dct (dctO b'), .dat (encI (exch o a m c)), seq_nxs (set_of em) (if_yes ((ec _).trans (by rw [decide_eq_true hx])) ?_), b', rfl, e2, e3⟩
        unfold sDPutK
        simp only [List.set_cons_succ, List.set_cons_zero]
        rw [show dctAt 2 [.dat (encO l), .dat (encI o), .dct (dctO b), .dat (.int (a : Nat)), .dat (.int (m : Nat)), .dat (.int (c : Nat)), .dat (encI (exch o a m c))] = some (dctO b) from rfl, b_some, hk, b_some, x_C, b_some, if_pos (by unfold dctO; rw [List.length_map]; omega), e1]
      · refine ⟨.dct (dctO b), .dat (encI (exch o a m c)), seq_nxs (set_of em) (if_no ((ec _).trans (by rw [decide_eq_false hx]))), b, rfl, by rw [List.length_append]; omega, fun k => ?_⟩
        rw [hb2, List.mem_append]
        constructor
        · rintro ⟨q1, q2⟩; exact ⟨.inl q1, q2⟩
        · rintro ⟨q1 | q1, q2⟩
          · exact ⟨q1, q2⟩
          · rw [List.mem_singleton.mp q1] at q2; exact absurd q2 hx)
    (.dct []) .no .no .no .no ⟨[], rfl, Nat.le_refl _, fun k => by simp⟩
  simp only [m_near_of, e_fn, b_near_of]
  refine seq_nx (ρ' := [.dat (encO l), .dat (encI o), .dct [], .no, .no, .no, .no]) rfl (seq_nx e (ret_end ?_))
  have hk : ∀ k ∈ b.map (·.1), k ∈ expls l := fun k hk => ((hb2 k).mp hk).2
  have gb : goodB (b.map (·.1)) = true := goodB_expls hs hk (by rw [List.length_map]; omega) fun hne => by
    obtain ⟨k, hk2⟩ := List.exists_mem_of_ne_nil _ hne
    have := exs_pos ((hb2 k).mp hk2).1
    rw [hp.length_eq, nums_len] at this
    exact this
  unfold dSortDc
  rw [show dctAt 2 (view [.dat (encO l), .dat (encI o), .dct (dctO b), d3, d4, d5, d6]) = some (dctO b) from rfl, b_some, keysI_O, b_some, if_pos gb, near_is hs hb2]
  rfl
/-! the law's -/
abbrev SL : Ev → Option Out := (sSeq (sSet 6 (d2 pAdd (dSl (dVar 1) dNoPart (dPart (dVar 3))) (dSl (dVar 1) (dPart (dVar 4)) (dPart (dVar 5)))))
    (sSeq (sSet 6 (d2 pAdd (d2 pAdd (dVar 6) (dSl (dVar 1) (dPart (dVar 3)) (dPart (dVar 4)))) (dSl (dVar 1) (dPart (dVar 5)) dNoPart)))
    (sSet 2 (d2 pAdd (dVar 2) (d2 pMul (dLst (dCons (dVar 6) dNil)) (dB pInt (dCons (dB m__law_explains (dCons (dVar 0) (dCons (dVar 6) dNil))) dNil)))))))
theorem asKeys_I : ∀ ks : List (List Int), asKeys (ks.map encI) = some ks
  | [] => rfl
  | k :: ks => by rw [List.map_cons, asKeys, key_I, b_some, asKeys_I ks]; rfl
theorem law_near_ok {l : List Op} (hs : storyOk l = true) {o : List Int} (hp : o.Perm (nums l.length)) : m__law_near [encO l, encI o] = some (.list ((nearL l o).map encI)) := by
  have hl := storyOk_len hs
  have ho : o.length ≤ 6 := by rw [hp.length_eq, nums_len]; exact hl
  have xN := exN_le ho
  have xl := exs_len o
  obtain ⟨C', d3, d4, d5, d6, e, rfl⟩ := triple (c0 := .dat (encO l)) (o := o) ho (S := SL)
    (fun acc C => C = .dat (.list ((acc.filter fun x => decide (x ∈ expls l)).map encI))) (by
      rintro a m c acc C c6 h1 h2 h3 ⟨rest, er⟩ rfl
      have ax : acc.length ≤ 35 := by
        have := congrArg List.length er
        rw [List.length_append, List.length_cons] at this
        omega
      have px := (exch_perm o (Nat.le_of_lt h1) (Nat.le_of_lt h2) (c := c)).trans hp
      have ix : InR l (exch o a m c) := fun k hk => nums_mem.mp (px.mem_iff.mp hk)
      have lx : (exch o a m c).length ≤ 1000 := by rw [px.length_eq, nums_len]; omega
      have ee := law_explains_ok hl ix lx
      rw [lawB_eq hs] at ee
      have t3 : ((o.drop a).take (m - a)).length ≤ 6 := by rw [List.length_take, List.length_drop]; omega
      have t1 : (o.take a ++ (o.drop m).take (c - m)).length ≤ 12 := by rw [List.length_append, List.length_take, List.length_take, List.length_drop]; omega
      have t4 : (o.drop c).length ≤ 6 := by rw [List.length_drop]; omega
      have fl := List.length_filter_le (fun x => decide (x ∈ expls l)) acc
      refine ⟨_, .dat (encI (exch o a m c)), seq_nxs (set_of (ex_more ho h1 h2 h3 rfl rfl rfl rfl)) (seq_nxs (set_of (d := encI (exch o a m c)) ?_) (set_of (d := .list (((acc ++ [exch o a m c]).filter fun x => decide (x ∈ expls l)).map encI)) ?_)), rfl⟩
      · simp only [List.set_cons_succ, List.set_cons_zero, x_d2, x_Sl, var_s, var_0, b_some, x_noPart, x_Part, asI_i, m_some, sl_mid o (Nat.le_of_lt h1) (show m ≤ o.length by omega), sl_from]
        rw [add_I _ _ (by omega), b_some, add_I _ _ (by rw [List.length_append]; omega)]
        rfl
      · simp only [List.set_cons_succ, List.set_cons_zero, x_d2, x_lst, x_B, x_cons, x_nil, var_s, var_0, b_some, m_some, ee, List.length_cons, List.length_nil, Nat.zero_add, Nat.reduceLeDiff, if_true]
        rw [List.filter_append, List.map_append]
        by_cases hx : exch o a m c ∈ expls l
        · rw [decide_eq_true hx]
          have : pMul (.list [encI (exch o a m c)]) (.int 1) = some (.list [encI (exch o a m c)]) := rfl
          simp only [pInt, if_true, b_some, this]
          rw [addL _ _ (by rw [List.length_map]; simp; omega), List.filter_cons, if_pos (by simpa using hx)]
          rfl
        · rw [decide_eq_false hx]
          have : pMul (.list [encI (exch o a m c)]) (.int 0) = some (.list []) := rfl
          simp only [pInt, Bool.false_eq_true, if_false, b_some, this]
          rw [addL _ _ (by rw [List.length_map]; simp; omega), List.filter_cons, if_neg (by simpa using hx)]
          rfl)
    (.dat (.list [])) .no .no .no .no rfl
  simp only [m__law_near, e_fn, b__law_near]
  refine seq_nx (ρ' := [.dat (encO l), .dat (encI o), .dat (.list []), .no, .no, .no, .no]) (by simp) (seq_nx e (ret_end ?_))
  have fl := List.length_filter_le (fun x => decide (x ∈ expls l)) (exs o)
  have hb2 : ∀ k, k ∈ (exs o).filter (fun x => decide (x ∈ expls l)) ↔ k ∈ exs o ∧ k ∈ expls l := fun k => by rw [List.mem_filter]; simp
  have gb : goodB ((exs o).filter fun x => decide (x ∈ expls l)) = true := goodB_expls hs (fun k hk => ((hb2 k).mp hk).2) (by omega) fun hne => by
    obtain ⟨k, hk2⟩ := List.exists_mem_of_ne_nil _ hne
    have := exs_pos ((hb2 k).mp hk2).1
    rw [hp.length_eq, nums_len] at this
    exact this
  unfold dSortSetT kSortSetT
  simp only [view, List.map_cons, v_dat, var_s, var_0, b_some, asL_l]
  rw [asKeys_I, b_some, if_pos gb]
  rfl
end CS
/-! M42: explanations are connected by exchanges. -/
namespace CS
open PySem
theorem exch_blocks {α : Type} (p u v s : List α) : exch (p ++ u ++ v ++ s) p.length (p.length + u.length) (p.length + u.length + v.length) = p ++ v ++ u ++ s := by
  unfold exch
  have e1 : (p ++ u ++ v ++ s).take p.length = p := by simp
  have e2 : (p ++ u ++ v ++ s).drop (p.length + u.length) = v ++ s := by
    rw [show p.length + u.length = (p ++ u).length by simp, List.append_assoc (p ++ u), List.drop_left]
  have e3 : (p ++ u ++ v ++ s).drop p.length = u ++ (v ++ s) := by
    rw [List.append_assoc, List.append_assoc, List.drop_left]
  have e4 : (p ++ u ++ v ++ s).drop (p.length + u.length + v.length) = s := by
    rw [show p.length + u.length + v.length = (p ++ u ++ v).length by simp; omega, List.drop_left]
  rw [e1, e2, e3, e4, show p.length + u.length + v.length - (p.length + u.length) = v.length by omega, show p.length + u.length - p.length = u.length by omega, List.take_left, List.take_left]
theorem mem_exs' {o x : List Int} : x ∈ exs o ↔ ∃ p u v s, u ≠ [] ∧ v ≠ [] ∧ o = p ++ u ++ v ++ s ∧ x = p ++ v ++ u ++ s := by
  rw [mem_exs]
  constructor
  · rintro ⟨a, b, c, h1, h2, h3, rfl⟩
    refine ⟨o.take a, (o.drop a).take (b - a), (o.drop b).take (c - b), o.drop c, ?_, ?_, ?_, rfl⟩
    · intro z; have := congrArg List.length z; rw [List.length_take, List.length_drop, List.length_nil] at this; omega
    · intro z; have := congrArg List.length z; rw [List.length_take, List.length_drop, List.length_nil] at this; omega
    · have x1 : (o.drop b).take (c - b) ++ o.drop c = o.drop b := by
        have := List.take_append_drop (c - b) (o.drop b)
        rwa [List.drop_drop, show b + (c - b) = c by omega] at this
      have x2 : (o.drop a).take (b - a) ++ o.drop b = o.drop a := by
        have := List.take_append_drop (b - a) (o.drop a)
        rwa [List.drop_drop, show a + (b - a) = b by omega] at this
      rw [List.append_assoc, List.append_assoc, x1, x2, List.take_append_drop]
  · rintro ⟨p, u, v, s, hu, hv, rfl, rfl⟩
    have lu := List.length_pos_iff.mpr hu
    have lv := List.length_pos_iff.mpr hv
    exact ⟨p.length, p.length + u.length, p.length + u.length + v.length, by omega, by omega, by simp; omega, (exch_blocks p u v s).symm⟩
theorem exs_sym {o x : List Int} (h : x ∈ exs o) : o ∈ exs x := by
  obtain ⟨p, u, v, s, hu, hv, e1, e2⟩ := mem_exs'.mp h
  exact mem_exs'.mpr ⟨p, v, u, s, hv, hu, e2, e1⟩
theorem exs_irr {o : List Int} (nd : o.Nodup) : o ∉ exs o := fun h => by
  obtain ⟨p, u, v, s, hu, hv, e1, e2⟩ := mem_exs'.mp h
  rw [e1] at e2
  rw [List.append_assoc, List.append_assoc, List.append_assoc p v, List.append_assoc p] at e2
  have e3 := List.append_cancel_left e2
  cases u with
  | nil => exact hu rfl
  | cons a u =>
    cases v with
    | nil => exact hv rfl
    | cons b v =>
      simp only [List.cons_append, List.append_assoc, List.cons.injEq] at e3
      rw [e1, e3.1] at nd
      have : ¬ (p ++ b :: u ++ b :: v ++ s).Nodup := fun z => by
        rw [List.append_assoc, List.append_assoc] at z
        have z2 := (List.nodup_append.mp z).2.1
        have := (List.nodup_append.mp z2).2.2 b (List.mem_cons_self ..) b (by simp)
        exact this rfl
      exact this nd
/-! ### one step -/
theorem goR_wr (x : Op) (s : List Op) (d d' : Int) (h : x.w = true) : goR (x :: s) d = goR (x :: s) d' := by
  rw [goR, goR, if_pos h, if_pos h]
theorem goR_mem : ∀ (s : List Op) (d : Int) (o : Op), goR s d = true → o ∈ s → o.w = false → o.v = d ∨ o.v ∈ writtenOf s
  | x :: s, d, o, h, ho, hw => by
    rw [goR] at h
    have ws : writtenOf (x :: s) = (if x.w = true then [x.v] else []) ++ writtenOf s := by
      unfold writtenOf
      by_cases c : x.w = true <;> simp [c]
    by_cases c : x.w = true
    · rw [if_pos c] at h
      rcases List.mem_cons.mp ho with z | z
      · subst z; rw [c] at hw; cases hw
      · rcases goR_mem s x.v o h z hw with q | q
        · right; rw [ws, if_pos c, q]; simp
        · right; rw [ws]; exact List.mem_append_right _ q
    · rw [if_neg c, Bool.and_eq_true, decide_eq_true_eq] at h
      rcases List.mem_cons.mp ho with z | z
      · subst z; exact .inl h.1
      · rcases goR_mem s d o h.2 z hw with q | q
        · exact .inl q
        · right; rw [ws]; exact List.mem_append_right _ q
theorem goR_mem0 {x : Op} {s : List Op} {d : Int} {o : Op} (h : goR (x :: s) d = true) (hx : x.w = true) (ho : o ∈ x :: s) (hw : o.w = false) : o.v ∈ writtenOf (x :: s) := by
  rw [goR, if_pos hx] at h
  rcases List.mem_cons.mp ho with z | z
  · subst z; rw [hx] at hw; cases hw
  · have ws : writtenOf (x :: s) = x.v :: writtenOf s := by unfold writtenOf; simp [hx]
    rw [ws]
    rcases goR_mem s x.v o h z hw with q | q
    · rw [q]; simp
    · exact List.mem_cons_of_mem _ q
theorem goR_reads2 : ∀ (s : List Op) (d : Int), goR s d = true → (∀ o ∈ s, o.w = false) → (∀ o ∈ s, o.v = d) ∧ lastV s d = d
  | [], d, _, _ => ⟨(fun o ho => nomatch ho), rfl⟩
  | x :: s, d, h, hw => by
    have hx := hw x List.mem_cons_self
    rw [goR, if_neg (by rw [hx]; simp), Bool.and_eq_true, decide_eq_true_eq] at h
    obtain ⟨q1, q2⟩ := goR_reads2 s d h.2 fun o ho => hw o (List.mem_cons_of_mem _ ho)
    refine ⟨fun o ho => ?_, by rw [lastV, if_neg (by rw [hx]; simp)]; exact q2⟩
    rcases List.mem_cons.mp ho with z | z
    · rw [z]; exact h.1
    · exact q1 o z
theorem split_wr {α : Type} (g : α → Op) : ∀ s : List α, ∃ a b, s = a ++ b ∧ (∀ o ∈ a, (g o).w = false) ∧ (b = [] ∨ ∃ x t, b = x :: t ∧ (g x).w = true)
  | [] => ⟨[], [], rfl, (fun o ho => nomatch ho), .inl rfl⟩
  | x :: s => by
    by_cases c : (g x).w = true
    · exact ⟨[], x :: s, rfl, (fun o ho => nomatch ho), .inr ⟨x, s, rfl, c⟩⟩
    · obtain ⟨a, b, e, h1, h2⟩ := split_wr g s
      refine ⟨x :: a, b, by rw [e]; rfl, fun o ho => ?_, h2⟩
      rcases List.mem_cons.mp ho with z | z
      · rw [z]; exact eq_false_of_ne_true c
      · exact h1 o z
theorem lastV_reads : ∀ (s : List Op) (d : Int), (∀ o ∈ s, o.w = false) → lastV s d = d
  | [], _, _ => rfl
  | x :: s, d, h => by
    rw [lastV, if_neg (by rw [h x List.mem_cons_self]; simp)]
    exact lastV_reads s d fun o ho => h o (List.mem_cons_of_mem _ ho)
/-- moved up: one block in front of another -/
theorem move_up {P U V S : List Op} (hg : goV (P ++ U ++ V ++ S) 0 = true) (hr : goR V (lastV P 0) = true ∧ goR U (lastV V (lastV P 0)) = true ∧ goR S (lastV U (lastV V (lastV P 0))) = true) (hc : ∀ v ∈ V, ∀ u ∈ U, NoBack v u) : goV (P ++ V ++ U ++ S) 0 = true := by
  obtain ⟨h1, h2⟩ := (goV_iff _ 0).mp hg
  refine (goV_iff _ 0).mpr ⟨?_, ?_⟩
  · simp only [List.pairwise_append, List.mem_append] at h1 ⊢
    obtain ⟨⟨⟨a1, a2, a3⟩, a4, a5⟩, a6, a7⟩ := h1
    refine ⟨⟨⟨a1, a4, fun x hx y hy => a5 x (.inl hx) y hy⟩, a2, fun x hx y hy => ?_⟩, a6, fun x hx y hy => ?_⟩
    · rcases hx with z | z
      · exact a3 x z y hy
      · exact hc x z y hy
    · rcases hx with (z | z) | z
      · exact a7 x (.inl (.inl z)) y hy
      · exact a7 x (.inr z) y hy
      · exact a7 x (.inl (.inr z)) y hy
  · rw [goR_app, goR_app, goR_app] at h2
    simp only [Bool.and_eq_true] at h2
    rw [goR_app, goR_app, goR_app, lastV_app, lastV_app]
    simp only [Bool.and_eq_true]
    exact ⟨⟨⟨h2.1.1.1, hr.1⟩, hr.2.1⟩, by rw [lastV_app] ; exact hr.2.2⟩

theorem opsOf_app (l : List Op) (a b : List Int) : opsOf l (a ++ b) = opsOf l a ++ opsOf l b := by unfold opsOf; rw [List.map_append]
theorem opsOf_cons (l : List Op) (a : Int) (b : List Int) : opsOf l (a :: b) = opAt l a.toNat :: opsOf l b := rfl
theorem mem_opsOf {l : List Op} {r : List Int} {o : Op} : o ∈ opsOf l r ↔ ∃ i ∈ r, opAt l i.toNat = o := by unfold opsOf; rw [List.mem_map]
theorem lastV_mem (p : List Op) : lastV p 0 ∈ 0 :: writtenOf p := by rw [lastV_wr]; exact List.getLast_mem _
theorem wr_cons {x : Op} {s : List Op} (h : x.w = true) : writtenOf (x :: s) = x.v :: writtenOf s := by unfold writtenOf; simp [h]
theorem wr_nd {l : List Op} (P : Plain l) {r : List Int} (h : r.Perm (nums l.length)) : (0 :: writtenOf (opsOf l r)).Nodup := ((wr_perm (opsOf_perm h)).cons 0).nodup_iff.mpr P.nd0
/-- towards another explanation: one number more stands where it stands there -/
theorem step_near {l : List Op} (hs : storyOk l = true) {r r' p s t : List Int} {y x : Int} (hr : r ∈ expls l) (hr' : r' ∈ expls l) (e : r = p ++ y :: s) (e' : r' = p ++ x :: t) (ne : x ≠ y) : ∃ q, q ∈ nearL l r ∧ ∃ t', q = p ++ x :: t' := by
  have PL := plain_of hs
  have pm : r.Perm r' := (expls_perm hr).trans (expls_perm hr').symm
  have nd := expls_nodup hr
  have nd' := expls_nodup hr'
  obtain ⟨_, g⟩ := (mem_expls hs).mp hr
  obtain ⟨_, g'⟩ := (mem_expls hs).mp hr'
  have wn := wr_nd PL (expls_perm hr)
  have wn' := wr_nd PL (expls_perm hr')
  have xs : x ∈ s := by
    have : x ∈ r := pm.mem_iff.mpr (by rw [e']; simp)
    rw [e] at this
    rcases List.mem_append.mp this with z | z
    · rw [e'] at nd'
      exact absurd rfl ((List.nodup_append.mp nd').2.2 x z x (List.mem_cons_self ..))
    · rcases List.mem_cons.mp z with z | z
      · exact absurd z ne
      · exact z
  obtain ⟨s1, s2, es⟩ := List.append_of_mem xs
  subst es
  have in_t : ∀ i, i ∈ y :: (s1 ++ x :: s2) → i ≠ x → i ∈ t := fun i hi hx => by
    have : i ∈ r' := pm.mem_iff.mp (by rw [e]; exact List.mem_append_right _ hi)
    rw [e'] at this
    rcases List.mem_append.mp this with z | z
    · rw [e] at nd
      exact absurd rfl ((List.nodup_append.mp nd).2.2 i z i hi)
    · rcases List.mem_cons.mp z with z | z
      · exact absurd z hx
      · exact z
  have notx : x ∉ y :: s1 ∧ x ∉ s2 := by
    rw [e] at nd
    have n2 := (List.nodup_append.mp nd).2.1
    rw [show y :: (s1 ++ x :: s2) = (y :: s1) ++ x :: s2 from rfl] at n2
    have n3 := List.nodup_append.mp n2
    exact ⟨fun z => n3.2.2 x z x (List.mem_cons_self ..) rfl, (List.nodup_cons.mp n3.2.1).1⟩
  have eg : opsOf l r = opsOf l p ++ opsOf l (y :: s1) ++ opAt l x.toNat :: opsOf l s2 := by
    rw [e, show p ++ y :: (s1 ++ x :: s2) = p ++ (y :: s1) ++ x :: s2 by simp, opsOf_app, opsOf_app]; rfl
  have eg' : opsOf l r' = opsOf l p ++ opAt l x.toNat :: opsOf l t := by rw [e', opsOf_app]; rfl
  rw [eg] at g wn
  rw [eg'] at g' wn'
  obtain ⟨pw', gr'⟩ := (goV_iff _ 0).mp g'
  rw [goR_app, Bool.and_eq_true] at gr'
  have gx' := gr'.2
  have xt : ∀ o ∈ opsOf l t, NoBack (opAt l x.toNat) o := (List.pairwise_cons.mp (List.pairwise_append.mp pw').2.1).1
  have hx_u : ∀ u ∈ opsOf l (y :: s1), NoBack (opAt l x.toNat) u := fun u hu => by
    obtain ⟨i, hi, rfl⟩ := mem_opsOf.mp hu
    refine xt _ (mem_opsOf.mpr ⟨i, in_t i ?_ (fun z => notx.1 (z ▸ hi)), rfl⟩)
    rw [show y :: (s1 ++ x :: s2) = (y :: s1) ++ x :: s2 from rfl]
    exact List.mem_append_left _ hi
  by_cases c : (opAt l x.toNat).w = true
  · -- a write with its reads
    obtain ⟨a, b, es2, ha, hb⟩ := split_wr (fun i : Int => opAt l i.toNat) s2
    obtain ⟨t1, t2, et, ht1, ht2⟩ := split_wr (fun i : Int => opAt l i.toNat) t
    subst es2 et
    have g2 := (goV_iff _ 0).mp g
    have gg := g2.2
    rw [opsOf_app] at g gg wn
    rw [goR_app, goR_app, Bool.and_eq_true, Bool.and_eq_true] at gg
    obtain ⟨⟨gP, gU⟩, gV⟩ := gg
    rw [goR, if_pos c, goR_app, Bool.and_eq_true] at gV
    rw [goR, if_pos c, opsOf_app, goR_app, Bool.and_eq_true] at gx'
    rw [opsOf_app] at wn' pw' xt
    have rdA : ∀ o ∈ opsOf l a, o.w = false := fun o ho => by obtain ⟨i, hi, rfl⟩ := mem_opsOf.mp ho; exact ha i hi
    have rdT : ∀ o ∈ opsOf l t1, o.w = false := fun o ho => by obtain ⟨i, hi, rfl⟩ := mem_opsOf.mp ho; exact ht1 i hi
    have vA := (goR_reads2 _ _ gV.1 rdA).1
    have vT := (goR_reads2 _ _ gx'.1 rdT).1
    have yw : (opAt l y.toNat).w = true := by
      cases c2 : (opAt l y.toNat).w with
      | true => rfl
      | false =>
        exfalso
        rw [opsOf_cons, goR, if_neg (by rw [c2]; simp), Bool.and_eq_true, decide_eq_true_eq] at gU
        have yt : y ∈ t1 ++ t2 := in_t y (List.mem_cons_self ..) (fun z => ne z.symm)
        have h1 : (opAt l y.toNat).v ∈ writtenOf (opAt l x.toNat :: opsOf l (t1 ++ t2)) := goR_mem0 gr'.2 c (List.mem_cons_of_mem _ (mem_opsOf.mpr ⟨y, yt, rfl⟩)) c2
        rw [gU.1] at h1
        have h2 := lastV_mem (opsOf l p)
        rw [wr_app, show ∀ q : List Int, 0 :: (writtenOf (opsOf l p) ++ q) = (0 :: writtenOf (opsOf l p)) ++ q from fun _ => rfl, ← opsOf_app] at wn'
        exact (List.nodup_append.mp wn').2.2 _ h2 _ h1 rfl
    have hUV : ∀ v ∈ opsOf l (x :: a), ∀ u ∈ opsOf l (y :: s1), NoBack v u := by
      intro v hv u hu
      rw [opsOf_cons] at hv
      rcases List.mem_cons.mp hv with z | z
      · rw [z]; exact hx_u u hu
      · obtain ⟨i, hi, ei⟩ := mem_opsOf.mp z
        obtain ⟨k, hk, ek⟩ := mem_opsOf.mp hu
        have it : i ∈ t1 ++ t2 := in_t i (by simp [hi]) (fun z => notx.2 (by rw [← z]; simp [hi]))
        have kt : k ∈ t1 ++ t2 := in_t k (by rw [show y :: (s1 ++ x :: (a ++ b)) = (y :: s1) ++ x :: (a ++ b) from rfl]; exact List.mem_append_left _ hk) (fun z => notx.1 (z ▸ hk))
        rw [wr_app, List.nodup_cons] at wn'
        have nT := (List.nodup_append.mp wn'.2).2.1
        rw [wr_cons c, wr_app, List.nodup_cons] at nT
        have i1 : i ∈ t1 := by
          rcases List.mem_append.mp it with q | q
          · exact q
          · exfalso
            rcases ht2 with q2 | ⟨z2, t3, q2, q3⟩
            · rw [q2] at q; cases q
            · have h1 : (opAt l i.toNat).v ∈ writtenOf (opsOf l t2) := by
                rw [q2, opsOf_cons]
                have := gx'.2
                rw [q2, opsOf_cons] at this
                exact goR_mem0 this q3 (by rw [← opsOf_cons, ← q2]; exact mem_opsOf.mpr ⟨i, q, rfl⟩) (ha i hi)
              have h2 := vA _ (mem_opsOf.mpr ⟨i, hi, rfl⟩)
              rw [h2] at h1
              exact nT.1 (List.mem_append_right _ h1)
        have k2 : k ∈ t2 := by
          rcases List.mem_append.mp kt with q | q
          · exfalso
            have h1 := vT _ (mem_opsOf.mpr ⟨k, q, rfl⟩)
            rw [opsOf_cons] at gU
            have h2 := goR_mem0 gU yw (by rw [← opsOf_cons]; exact mem_opsOf.mpr ⟨k, hk, rfl⟩) (ht1 k q)
            rw [h1, ← opsOf_cons] at h2
            rw [wr_app, List.nodup_cons] at wn
            have := (List.nodup_append.mp wn.2).2.2
            refine this _ ?_ _ (by rw [wr_cons c]; exact List.mem_cons_self ..) rfl
            rw [wr_app]
            exact List.mem_append_right _ h2
          · exact q
        have := (List.pairwise_append.mp (List.pairwise_cons.mp (List.pairwise_append.mp pw').2.1).2).2.2
        rw [← ei, ← ek]
        exact this _ (mem_opsOf.mpr ⟨i, i1, rfl⟩) _ (mem_opsOf.mpr ⟨k, k2, rfl⟩)
    have gn : goV (opsOf l p ++ opsOf l (x :: a) ++ opsOf l (y :: s1) ++ opsOf l b) 0 = true := by
      refine move_up (by rw [opsOf_cons l x]; simpa [List.append_assoc] using g) ⟨?_, ?_, ?_⟩ hUV
      · rw [opsOf_cons, goR, if_pos c]; exact gV.1
      · rw [opsOf_cons, goR_wr _ _ _ (lastV (opsOf l p) 0) yw, ← opsOf_cons]; exact gU
      · rcases hb with q2 | ⟨z2, t3, q2, q3⟩
        · rw [q2]; rfl
        · have := gV.2
          rw [q2, opsOf_cons] at this ⊢
          rw [goR_wr _ _ _ _ q3]; exact this
    have en : p ++ (x :: a) ++ (y :: s1) ++ b ∈ exs r := mem_exs'.mpr ⟨p, y :: s1, x :: a, b, by simp, by simp, by rw [e]; simp, rfl⟩
    refine ⟨p ++ (x :: a) ++ (y :: s1) ++ b, (mem_near hs).mpr ⟨en, (mem_expls hs).mpr ⟨?_, ?_⟩⟩, a ++ (y :: s1) ++ b, by simp⟩
    · obtain ⟨aa, bb, cc, q1, q2, _, q3⟩ := mem_exs.mp en
      rw [q3]
      exact (exch_perm _ (Nat.le_of_lt q1) (Nat.le_of_lt q2)).trans (expls_perm hr)
    · rw [opsOf_app, opsOf_app, opsOf_app]; exact gn
  · -- a read
    have cx := eq_false_of_ne_true c
    have gg := ((goV_iff _ 0).mp g).2
    rw [goR_app, goR_app, Bool.and_eq_true, Bool.and_eq_true] at gg
    obtain ⟨⟨gP, gU⟩, gV⟩ := gg
    rw [goR, if_neg c, Bool.and_eq_true, decide_eq_true_eq] at gV gx'
    have gn : goV (opsOf l p ++ opsOf l [x] ++ opsOf l (y :: s1) ++ opsOf l s2) 0 = true := by
      have el : ∀ d, lastV (opsOf l [x]) d = d := fun d => by
        show lastV [opAt l x.toNat] d = d
        rw [lastV, lastV, if_neg c]
      refine move_up (by rw [show opsOf l [x] = [opAt l x.toNat] from rfl]; simpa [List.append_assoc] using g) ⟨?_, ?_, ?_⟩ (fun v hv u hu => ?_)
      · show goR [opAt l x.toNat] _ = true
        rw [goR, if_neg c, goR, Bool.and_true, decide_eq_true_eq]; exact gx'.1
      · rw [el]; exact gU
      · rw [el, ← lastV_app]; exact gV.2
      · obtain ⟨i, hi, rfl⟩ := mem_opsOf.mp hv
        rw [List.mem_singleton.mp hi]; exact hx_u u hu
    have en : p ++ [x] ++ (y :: s1) ++ s2 ∈ exs r := mem_exs'.mpr ⟨p, y :: s1, [x], s2, by simp, by simp, by rw [e]; simp, rfl⟩
    refine ⟨p ++ [x] ++ (y :: s1) ++ s2, (mem_near hs).mpr ⟨en, (mem_expls hs).mpr ⟨?_, ?_⟩⟩, (y :: s1) ++ s2, by simp⟩
    · obtain ⟨aa, bb, cc, q1, q2, _, q3⟩ := mem_exs.mp en
      rw [q3]
      exact (exch_perm _ (Nat.le_of_lt q1) (Nat.le_of_lt q2)).trans (expls_perm hr)
    · rw [opsOf_app, opsOf_app, opsOf_app]; exact gn
end CS
/-! M43: paths of exchanges; the search level by level. -/
namespace CS
open PySem
inductive Path (l : List Op) : Nat → List Int → List Int → Prop
  | nil (a : List Int) : Path l 0 a a
  | cons {n : Nat} {a b c : List Int} : b ∈ nearL l a → Path l n b c → Path l (n + 1) a c
theorem Path.snoc {l : List Op} : ∀ {n : Nat} {a b c : List Int}, Path l n a b → c ∈ nearL l b → Path l (n + 1) a c
  | _, _, _, _, .nil a, h => .cons h (.nil _)
  | _, _, _, _, .cons h p, q => .cons h (p.snoc q)
theorem Path.unsnoc {l : List Op} : ∀ {n : Nat} {a c : List Int}, Path l (n + 1) a c → ∃ b, Path l n a b ∧ c ∈ nearL l b
  | 0, a, c, .cons h (.nil _) => ⟨a, .nil a, h⟩
  | n + 1, a, c, .cons h p => by
    obtain ⟨b, h1, h2⟩ := p.unsnoc
    exact ⟨b, .cons h h1, h2⟩
theorem Path.zero {l : List Op} {a b : List Int} (h : Path l 0 a b) : b = a := by cases h; rfl
theorem Path.trans {l : List Op} : ∀ {n m : Nat} {a b c : List Int}, Path l n a b → Path l m b c → Path l (n + m) a c
  | _, m, _, _, _, .nil a, q => by rw [Nat.zero_add]; exact q
  | _, m, _, _, _, .cons (n := n) h p, q => by rw [show n + 1 + m = n + m + 1 by omega]; exact .cons h (p.trans q)
theorem near_mem {l : List Op} (hs : storyOk l = true) {a b : List Int} (h : b ∈ nearL l a) : b ∈ expls l := ((mem_near hs).mp h).2
theorem near_sym {l : List Op} (hs : storyOk l = true) {a b : List Int} (ha : a ∈ expls l) (h : b ∈ nearL l a) : a ∈ nearL l b :=
  (mem_near hs).mpr ⟨exs_sym ((mem_near hs).mp h).1, ha⟩
theorem near_irr {l : List Op} (hs : storyOk l = true) {a : List Int} (ha : a ∈ expls l) : a ∉ nearL l a := fun h => exs_irr (expls_nodup ha) ((mem_near hs).mp h).1
theorem near_nd {l : List Op} (hs : storyOk l = true) (a : List Int) : (nearL l a).Nodup := by
  unfold nearL
  have := (upC_up (good_expls hs (ks := (exs a).filter fun x => decide (x ∈ expls l)) fun k hk => by simpa using (List.mem_filter.mp hk).2)).1
  exact this.imp fun h z => by rw [z] at h; omega
theorem Path.mem {l : List Op} (hs : storyOk l = true) {n : Nat} {a b : List Int} (ha : a ∈ expls l) (p : Path l n a b) : b ∈ expls l := by
  induction p with
  | nil a => exact ha
  | cons h p ih => exact ih (near_mem hs h)
theorem Path.sym {l : List Op} (hs : storyOk l = true) {n : Nat} {a b : List Int} (ha : a ∈ expls l) (p : Path l n a b) : Path l n b a := by
  induction p with
  | nil a => exact .nil a
  | cons h p ih => exact (ih (near_mem hs h)).snoc (near_sym hs ha h)
theorem connect_at {l : List Op} (hs : storyOk l = true) {r' : List Int} (hr' : r' ∈ expls l) : ∀ (t p s : List Int), p ++ s ∈ expls l → r' = p ++ t → ∃ n, n ≤ t.length ∧ Path l n (p ++ s) r'
  | [], p, s, hr, e => by
    have h1 := expls_len1 hr
    have h2 := expls_len1 hr'
    rw [e, List.append_nil] at h2
    rw [List.length_append] at h1
    have : s = [] := List.eq_nil_of_length_eq_zero (by omega)
    subst this
    rw [e]
    exact ⟨0, Nat.le_refl _, .nil _⟩
  | x :: t, p, [], hr, e => by
    have h1 := expls_len1 hr
    have h2 := expls_len1 hr'
    rw [e, List.length_append, List.length_cons] at h2
    rw [List.append_nil] at h1
    omega
  | x :: t, p, y :: s, hr, e => by
    by_cases c : x = y
    · subst c
      obtain ⟨n, hn, hp⟩ := connect_at hs hr' t (p ++ [x]) s (by simpa using hr) (by rw [e]; simp)
      exact ⟨n, by rw [List.length_cons]; omega, by simpa using hp⟩
    · obtain ⟨q, hq, t', eq⟩ := step_near hs hr hr' rfl e c
      subst eq
      obtain ⟨n, hn, hp⟩ := connect_at hs hr' t (p ++ [x]) t' (by have := near_mem hs hq; simpa using this) (by rw [e]; simp)
      exact ⟨n + 1, by rw [List.length_cons]; omega, .cons hq (by simpa using hp)⟩
/-- every two explanations are connected -/
theorem connect {l : List Op} (hs : storyOk l = true) {r r' : List Int} (hr : r ∈ expls l) (hr' : r' ∈ expls l) : ∃ n, n ≤ 6 ∧ Path l n r r' := by
  obtain ⟨n, h1, h2⟩ := connect_at hs hr' r' [] r hr rfl
  have := expls_len1 hr'
  have := storyOk_len hs
  exact ⟨n, by omega, h2⟩
/-- the length of a shortest road -/
def Dist (l : List Op) (a b : List Int) (n : Nat) : Prop := Path l n a b ∧ ∀ m, Path l m a b → n ≤ m
theorem Dist.unique {l : List Op} {a b : List Int} {n m : Nat} (h : Dist l a b n) (q : Dist l a b m) : n = m := Nat.le_antisymm (h.2 _ q.1) (q.2 _ h.1)
theorem Dist.sym {l : List Op} (hs : storyOk l = true) {a b : List Int} {n : Nat} (ha : a ∈ expls l) (hb : b ∈ expls l) (h : Dist l a b n) : Dist l b a n :=
  ⟨h.1.sym hs ha, fun m q => h.2 m (q.sym hs hb)⟩
/-! ### the search -/
abbrev Bk := List (List Int × Option (List Int))
abbrev keys (B : Bk) : List (List Int) := B.map (·.1)
structure Srch (l : List Op) (one : List Int) (B : Bk) (k : Nat) (D : List Int → Nat) : Prop where
  nd : (keys B).Nodup
  ex : ∀ x ∈ keys B, x ∈ expls l
  hd : one ∈ keys B ∧ D one = 0
  kl : k ≤ B.length
  pr : ∀ x p, (x, some p) ∈ B → p ∈ keys B ∧ x ∈ nearL l p ∧ D x = D p + 1
  no : ∀ x, (x, none) ∈ B → x = one
  up : (keys B).Pairwise fun x y => D x ≤ D y
  qu : ∀ x ∈ keys B, ∀ y ∈ (keys B).drop k, D x ≤ D y + 1
  dn : ∀ x ∈ (keys B).take k, ∀ w ∈ nearL l x, w ∈ keys B ∧ D w ≤ D x + 1
def newOf (l : List Op) (o : List Int) (B : Bk) : List (List Int) := (nearL l o).filter fun w => !decide (w ∈ keys B)
def nextB (l : List Op) (o : List Int) (B : Bk) : Bk := B ++ (newOf l o B).map fun w => (w, some o)
theorem keys_next (l : List Op) (o : List Int) (B : Bk) : keys (nextB l o B) = keys B ++ newOf l o B := by
  unfold nextB keys
  rw [List.map_append, List.map_map]
  congr 1
  exact (List.map_congr_left fun _ _ => rfl).trans (List.map_id _)
theorem mem_new {l : List Op} {o : List Int} {B : Bk} {w : List Int} : w ∈ newOf l o B ↔ w ∈ nearL l o ∧ w ∉ keys B := by
  unfold newOf; rw [List.mem_filter]; simp
theorem Srch.start {l : List Op} {one : List Int} (h : one ∈ expls l) : Srch l one [(one, none)] 0 fun _ => 0 where
  nd := by simp
  ex := fun x hx => by simp at hx; rw [hx]; exact h
  hd := by simp
  kl := Nat.zero_le _
  pr := fun x p hx => by simp at hx
  no := fun x hx => by simpa using hx
  up := by simp
  qu := fun x hx y hy => by omega
  dn := fun x hx => by simp at hx
theorem Srch.step {l : List Op} (hs : storyOk l = true) {one o : List Int} {B : Bk} {k : Nat} {D : List Int → Nat} (h : Srch l one B k D) (hk : (keys B)[k]? = some o) :
    Srch l one (nextB l o B) (k + 1) fun x => if x ∈ keys B then D x else D o + 1 := by
  have hok : o ∈ keys B := List.mem_of_getElem? hk
  have hlt : k < (keys B).length := (List.getElem?_eq_some_iff.mp hk).1
  have hlt' : k < B.length := by simpa using hlt
  have hdr : (keys B).drop k = o :: (keys B).drop (k + 1) := by
    rw [List.drop_eq_getElem_cons hlt]
    rw [List.getElem?_eq_getElem hlt] at hk
    rw [Option.some.inj hk]
  have hob : ∀ x ∈ keys B, D x ≤ D o + 1 := fun x hx => h.qu x hx o (by rw [hdr]; simp)
  have hqo : ∀ y ∈ (keys B).drop (k + 1), D o ≤ D y := fun y hy => by
    have := h.up
    rw [← List.take_append_drop k (keys B), hdr] at this
    exact (List.pairwise_cons.mp (List.pairwise_append.mp this).2.1).1 y hy
  have sub : ∀ y ∈ (keys B).drop (k + 1), y ∈ keys B := fun y hy => List.mem_of_mem_drop hy
  have nk := keys_next l o B
  have dnew : ((keys B) ++ newOf l o B).drop (k + 1) = (keys B).drop (k + 1) ++ newOf l o B := List.drop_append_of_le_length hlt
  have tnew : ((keys B) ++ newOf l o B).take (k + 1) = (keys B).take (k + 1) := List.take_append_of_le_length hlt
  have ttk : (keys B).take (k + 1) = (keys B).take k ++ [o] := by
    rw [List.take_succ, hk]; rfl
  refine ⟨?_, ?_, ?_, ?_, ?_, ?_, ?_, ?_, ?_⟩
  · rw [nk, List.nodup_append]
    refine ⟨h.nd, (near_nd hs o).filter _, fun a ha b hb e => ?_⟩
    subst e
    exact (mem_new.mp hb).2 ha
  · intro x hx
    rw [nk] at hx
    rcases List.mem_append.mp hx with z | z
    · exact h.ex x z
    · exact near_mem hs (mem_new.mp z).1
  · rw [nk, if_pos h.hd.1]
    exact ⟨List.mem_append_left _ h.hd.1, h.hd.2⟩
  · unfold nextB; rw [List.length_append]; omega
  · intro x p hx
    unfold nextB at hx
    rw [nk]
    rcases List.mem_append.mp hx with z | z
    · obtain ⟨q1, q2, q3⟩ := h.pr x p z
      have hx' : x ∈ keys B := List.mem_map.mpr ⟨_, z, rfl⟩
      rw [if_pos hx', if_pos q1]
      exact ⟨List.mem_append_left _ q1, q2, q3⟩
    · obtain ⟨w, hw, e⟩ := List.mem_map.mp z
      cases e
      obtain ⟨q1, q2⟩ := mem_new.mp hw
      rw [if_neg q2, if_pos hok]
      exact ⟨List.mem_append_left _ hok, q1, rfl⟩
  · intro x hx
    unfold nextB at hx
    rcases List.mem_append.mp hx with z | z
    · exact h.no x z
    · obtain ⟨w, hw, e⟩ := List.mem_map.mp z
      cases e
  · rw [nk, List.pairwise_append]
    refine ⟨h.up.imp_of_mem fun {a b} ha hb q => by rw [if_pos ha, if_pos hb]; exact q, ?_, fun a ha b hb => ?_⟩
    · have : ∀ ws : List (List Int), (∀ w ∈ ws, w ∉ keys B) → ws.Pairwise fun x y => (if x ∈ keys B then D x else D o + 1) ≤ if y ∈ keys B then D y else D o + 1 := fun ws => by
        induction ws with
        | nil => intro _; exact .nil
        | cons w ws ih =>
          intro hw
          refine List.pairwise_cons.mpr ⟨fun y hy => ?_, ih fun y hy => hw y (List.mem_cons_of_mem _ hy)⟩
          rw [if_neg (hw w List.mem_cons_self), if_neg (hw y (List.mem_cons_of_mem _ hy))]
          exact Nat.le_refl _
      exact this _ fun w hw => (mem_new.mp hw).2
    · rw [if_pos ha, if_neg (mem_new.mp hb).2]; exact hob a ha
  · intro x hx y hy
    rw [nk] at hx hy
    rw [dnew] at hy
    have bx : (if x ∈ keys B then D x else D o + 1) ≤ D o + 1 := by
      split
      · rename_i c; exact hob x c
      · exact Nat.le_refl _
    rcases List.mem_append.mp hy with z | z
    · rw [if_pos (sub y z)]
      have := hqo y z
      show (if x ∈ keys B then D x else D o + 1) ≤ _
      omega
    · rw [if_neg (mem_new.mp z).2]
      show (if x ∈ keys B then D x else D o + 1) ≤ _
      omega
  · intro x hx w hw
    rw [nk, tnew, ttk] at hx
    rw [nk]
    rcases List.mem_append.mp hx with z | z
    · obtain ⟨q1, q2⟩ := h.dn x z w hw
      rw [if_pos q1, if_pos (List.mem_of_mem_take z)]
      exact ⟨List.mem_append_left _ q1, q2⟩
    · rw [List.mem_singleton.mp z] at hw ⊢
      rw [if_pos hok]
      by_cases c : w ∈ keys B
      · rw [if_pos c]; exact ⟨List.mem_append_left _ c, hob w c⟩
      · rw [if_neg c]; exact ⟨List.mem_append_right _ (mem_new.mpr ⟨hw, c⟩), Nat.le_refl _⟩
theorem Srch.short {l : List Op} {one : List Int} {B : Bk} {k : Nat} {D : List Int → Nat} (h : Srch l one B k D) : ∀ (n : Nat) (v : List Int), Path l n one v → (v ∈ keys B ∧ D v ≤ n) ∨ ∀ x ∈ keys B, D x ≤ n
  | 0, v, p => by rw [p.zero]; exact .inl ⟨h.hd.1, by rw [h.hd.2]; exact Nat.le_refl _⟩
  | n + 1, v, p => by
    obtain ⟨u, p1, hv⟩ := p.unsnoc
    rcases h.short n u p1 with ⟨q1, q2⟩ | q
    · have : u ∈ (keys B).take k ++ (keys B).drop k := by rw [List.take_append_drop]; exact q1
      rcases List.mem_append.mp this with z | z
      · obtain ⟨r1, r2⟩ := h.dn u z v hv
        exact .inl ⟨r1, by omega⟩
      · right
        intro x hx
        have := h.qu x hx u z
        omega
    · right; intro x hx; have := q x hx; omega
/-- the way back -/
theorem Srch.path {l : List Op} {one : List Int} {B : Bk} {k : Nat} {D : List Int → Nat} (h : Srch l one B k D) : ∀ (n : Nat) (x : List Int), x ∈ keys B → D x = n → Path l n one x := by
  intro n
  induction n with
  | zero =>
    intro x hx e
    obtain ⟨⟨x', p⟩, hp, rfl⟩ := List.mem_map.mp hx
    cases p with
    | none =>
      have := h.no _ hp
      simp only at this e ⊢
      rw [this]; exact .nil _
    | some p =>
      obtain ⟨q1, q2, q3⟩ := h.pr _ _ hp
      simp only at q3 e
      omega
  | succ n ih =>
    intro x hx e
    obtain ⟨⟨x', p⟩, hp, rfl⟩ := List.mem_map.mp hx
    cases p with
    | none =>
      have := h.no _ hp
      simp only at this e ⊢
      rw [this, h.hd.2] at e
      omega
    | some p =>
      obtain ⟨q1, q2, q3⟩ := h.pr _ _ hp
      simp only at q3 e ⊢
      exact (ih p q1 (by omega)).snoc q2
theorem nd_sub_len {α : Type} [DecidableEq α] : ∀ (a b : List α), a.Nodup → (∀ x ∈ a, x ∈ b) → a.length ≤ b.length
  | [], _, _, _ => Nat.zero_le _
  | x :: a, b, nd, h => by
    obtain ⟨h1, h2⟩ := List.nodup_cons.mp nd
    have hx : x ∈ b := h x List.mem_cons_self
    have ih := nd_sub_len a (b.erase x) h2 fun y hy => (List.mem_erase_of_ne (fun z => h1 (by rw [← z]; exact hy))).mpr (h y (List.mem_cons_of_mem _ hy))
    rw [List.length_erase_of_mem hx] at ih
    have := List.length_pos_of_mem hx
    rw [List.length_cons]; omega
theorem Srch.dist {l : List Op} {one : List Int} {B : Bk} {k : Nat} {D : List Int → Nat} (h : Srch l one B k D) {x : List Int} (hx : x ∈ keys B) : Dist l one x (D x) :=
  ⟨h.path _ x hx rfl, fun m p => by
    rcases h.short m x p with ⟨_, q⟩ | q
    · exact q
    · exact q x hx⟩
/-- nothing left to look at: all are found -/
theorem Srch.done {l : List Op} {one : List Int} {B : Bk} {k : Nat} {D : List Int → Nat} (h : Srch l one B k D) (hk : (keys B).drop k = []) : ∀ (n : Nat) (v : List Int), Path l n one v → v ∈ keys B
  | 0, v, p => by rw [p.zero]; exact h.hd.1
  | n + 1, v, p => by
    obtain ⟨u, p1, hv⟩ := p.unsnoc
    have := h.done hk n u p1
    rw [← List.take_append_drop k (keys B), hk, List.append_nil] at this
    exact (h.dn u this v hv).1
theorem Srch.len {l : List Op} (hs : storyOk l = true) {one : List Int} {B : Bk} {k : Nat} {D : List Int → Nat} (h : Srch l one B k D) : B.length ≤ 720 := by
  have h1 : (keys B).length ≤ (expls l).length := nd_sub_len _ _ h.nd h.ex
  have := expls_len (storyOk_len hs)
  rw [List.length_map] at h1
  omega
end CS
/-! M44: near, road. -/
namespace CS
open PySem
theorem check_order_ok {l : List Op} (hs : storyOk l = true) {r : List Int} (hr : r ∈ expls l) : m_check_order [encO l, encI r] = some (.ok .none) := by
  have ee := explains_story_ok (storyOk_len hs) (expls_in hr) (show r.length ≤ 1000 by rw [expls_len1 hr]; have := storyOk_len hs; omega)
  rw [explT_mem hs hr] at ee
  simp only [m_check_order, e_fnX, b_check_order]
  refine seq_nx (ρ' := [.dat (encO l), .dat (encI r)]) (by simp [check_ok hs]) ?_
  rw [if_no (by simp [ee])]
  rfl
theorem check_order_bad {l : List Op} (hs : storyOk l = true) {d : PyData} (ee : m_explains_story [encO l, d] = some (.bool false)) : m_check_order [encO l, d] = some (.error 6) := by
  simp only [m_check_order, e_fnX, b_check_order]
  refine seq_nx (ρ' := [.dat (encO l), .dat d]) (by simp [check_ok hs]) ?_
  rw [if_yes (o := some (.xc 6 [.dat (encO l), .dat d])) (by simp [ee]) rfl]
  rfl
theorem near_ok {l : List Op} (hs : storyOk l = true) {r : List Int} (hr : r ∈ expls l) : m_near [encO l, encI r] = some (.ok (.list ((nearL l r).map encI))) := by
  simp only [m_near, e_fnX, b_near]
  refine seq_nx (ρ' := [.dat (encO l), .dat (encI r)]) (by simp [check_order_ok hs hr]) ?_
  simp [near_of_ok hs (expls_perm hr)]
theorem near_bad {l : List Op} (hs : storyOk l = true) {d : PyData} (ee : m_explains_story [encO l, d] = some (.bool false)) : m_near [encO l, d] = some (.error 6) := by
  simp only [m_near, e_fnX, b_near]
  rw [e_seq]
  simp [check_order_bad hs ee]
/-! the dict of the search -/
def encP : Option (List Int) → PyData
  | none => .none
  | some p => encI p
def encBk (B : Bk) : List (List Int × PyData) := B.map fun x => (x.1, encP x.2)
theorem keys_encBk (B : Bk) : (encBk B).map (·.1) = keys B := by unfold encBk keys; rw [List.map_map]; rfl
theorem encBk_app (B C : Bk) : encBk (B ++ C) = encBk B ++ encBk C := by unfold encBk; rw [List.map_append]
theorem valD_mem (k : List Int) (b : List (List Int × PyData)) : (valD (dctO b) (kInl k)).isSome = decide (k ∈ b.map (·.1)) := by
  rw [valD_O, Option.isSome_map]
  by_cases h : k ∈ b.map (·.1)
  · rw [decide_eq_true h]
    obtain ⟨p, hp, e⟩ := List.mem_map.mp h
    rw [List.find?_isSome]
    exact ⟨p, hp, by simpa using e⟩
  · rw [decide_eq_false h]
    rw [show (b.find? fun p => decide (p.1 = k)) = none from List.find?_eq_none.mpr fun p hp => by
      simp only [decide_eq_true_eq]
      exact fun z => h (List.mem_map.mpr ⟨p, hp, z⟩)]
    rfl
theorem find_nd {x : List Int} {p : Option (List Int)} : ∀ {B : Bk}, (keys B).Nodup → (x, p) ∈ B → (encBk B).find? (fun q => decide (q.1 = x)) = some (x, encP p)
  | b :: B, nd, h => by
    unfold encBk
    rw [List.map_cons, List.find?_cons]
    have nd' : (b.1 :: keys B).Nodup := nd
    obtain ⟨n1, n2⟩ := List.nodup_cons.mp nd'
    rcases List.mem_cons.mp h with z | z
    · subst z; simp
    · have : b.1 ≠ x := fun e => n1 (by rw [e]; exact List.mem_map.mpr ⟨_, z, rfl⟩)
      rw [show decide (b.1 = x) = false from decide_eq_false this]
      exact find_nd n2 z
theorem x_dnotin (i : Nat) (f : Ev → Option PyData) (ρ : Ev) : dDNotIn i f ρ = (keyD f ρ).bind fun k => (dctAt i ρ).map fun kvs => .bool (!(valD kvs k).isSome) := rfl
/-! the inner loop -/
abbrev FI : Ev → Option Out := (sIf (dT (dDNotIn 3 (dVar 6))) (sSeq (sDPutK 3 (dVar 6) (dVar 5)) (sApp 4 (dVar 6))) sNext)
theorem road_in {l : List Op} (hs : storyOk l = true) {c0 c1 c2 : Cell} {o : List Int} {B : Bk} {Q : List (List Int)} (hB : B.length ≤ 720) (hQ : Q.length ≤ 720) (c6 : Cell) (c7 : Cell) :
    ∃ c6', forD (aName 6) FI ((nearL l o).map encI) [c0, c1, c2, .dct (dctO (encBk B)), .own (Q.map encI), .dat (encI o), c6, c7]
      = some (.nx [c0, c1, c2, .dct (dctO (encBk (nextB l o B))), .own ((Q ++ newOf l o B).map encI), .dat (encI o), c6', c7]) := by
  have nd := near_nd hs o
  have n1 : (nearL l o).length ≤ 720 := by
    have := nd_sub_len _ (expls l) nd fun x hx => near_mem hs hx
    have := expls_len (storyOk_len hs)
    omega
  obtain ⟨ρ', e, c6', rfl⟩ := for_mapJ (a := aName 6) (F := FI) encI
    (fun ds ρ => ∃ c6, ρ = [c0, c1, c2, .dct (dctO (encBk (B ++ (ds.filter fun w => !decide (w ∈ keys B)).map fun w => (w, some o)))), .own ((Q ++ ds.filter fun w => !decide (w ∈ keys B)).map encI), .dat (encI o), c6, c7])
    (nearL l o) [] [c0, c1, c2, .dct (dctO (encBk B)), .own (Q.map encI), .dat (encI o), c6, c7] ⟨c6, by simp⟩ (by
      rintro ds w rest ρ er ⟨c6, rfl⟩
      rw [List.nil_append] at er
      have wn : w ∉ ds := by
        rw [er] at nd
        intro z
        exact (List.nodup_append.mp nd).2.2 w z w (List.mem_cons_self ..) rfl
      have dl : ds.length ≤ 720 := by
        have := congrArg List.length er
        rw [List.length_append, List.length_cons] at this
        omega
      have fl := List.length_filter_le (fun w => !decide (w ∈ keys B)) ds
      generalize hF : ds.filter (fun w => !decide (w ∈ keys B)) = F at *
      have hk : (encBk (B ++ F.map fun w => (w, some o))).map (·.1) = keys B ++ F := by
        rw [keys_encBk]; unfold keys; rw [List.map_append, List.map_map]
        congr 1
        exact (List.map_congr_left fun _ _ => rfl).trans (List.map_id _)
      have mem : w ∈ keys B ++ F ↔ w ∈ keys B := by
        rw [List.mem_append]
        constructor
        · rintro (z | z)
          · exact z
          · rw [← hF] at z; exact absurd (List.mem_filter.mp z).1 wn
        · exact .inl
      have hc : (dT (dDNotIn 3 (dVar 6))) (view [c0, c1, c2, .dct (dctO (encBk (B ++ F.map fun w => (w, some o)))), .own ((Q ++ F).map encI), .dat (encI o), .dat (encI w), c7]) = some (!decide (w ∈ keys B)) := by
        have h1 : keyD (dVar 6) (view [c0, c1, c2, .dct (dctO (encBk (B ++ F.map fun w => (w, some o)))), .own ((Q ++ F).map encI), .dat (encI o), .dat (encI w), c7]) = some (kInl w) := keyD_I rfl
        have h2 : dctAt 3 (view [c0, c1, c2, .dct (dctO (encBk (B ++ F.map fun w => (w, some o)))), .own ((Q ++ F).map encI), .dat (encI o), .dat (encI w), c7]) = some (dctO (encBk (B ++ F.map fun w => (w, some o)))) := rfl
        rw [x_T, x_dnotin, h1, b_some, h2, m_some, b_some, asB_b, valD_mem, hk]
        congr 2
        exact decide_eq_decide.mpr mem
      refine ⟨_, _, a_name _ _, ?_, .dat (encI w), rfl⟩
      simp only [sD_cons, sD_nil, List.set_cons_succ, List.set_cons_zero]
      rw [List.filter_append, hF, List.filter_cons, List.filter_nil]
      by_cases c : w ∈ keys B
      · rw [if_neg (by simpa using c), List.append_nil]
        exact if_no (hc.trans (by rw [decide_eq_true c]; rfl))
      · rw [if_pos (by simpa using c)]
        refine if_yes (hc.trans (by rw [decide_eq_false c]; rfl)) ?_
        have hp : sDPutK 3 (dVar 6) (dVar 5) [c0, c1, c2, .dct (dctO (encBk (B ++ F.map fun w => (w, some o)))), .own ((Q ++ F).map encI), .dat (encI o), .dat (encI w), c7]
            = some (.nx [c0, c1, c2, .dct (dctO (encBk (B ++ (F ++ [w]).map fun w => (w, some o)))), .own ((Q ++ F).map encI), .dat (encI o), .dat (encI w), c7]) := by
          have h1 : keyD (dVar 6) [c0, c1, c2, .dct (dctO (encBk (B ++ F.map fun w => (w, some o)))), .own ((Q ++ F).map encI), .dat (encI o), .dat (encI w), c7] = some (kInl w) := keyD_I rfl
          have h2 : dctAt 3 [c0, c1, c2, .dct (dctO (encBk (B ++ F.map fun w => (w, some o)))), .own ((Q ++ F).map encI), .dat (encI o), .dat (encI w), c7] = some (dctO (encBk (B ++ F.map fun w => (w, some o)))) := rfl
          unfold sDPutK
          rw [h2, b_some, h1, b_some]
          show (some (encI o)).bind _ = _
          rw [b_some, if_pos (by unfold dctO encBk; rw [List.length_map, List.length_map, List.length_append, List.length_map]; omega), putD_new (by rw [hk]; exact fun z => c (mem.mp z))]
          have ee : encBk (B ++ F.map fun w => (w, some o)) ++ [(w, encI o)] = encBk (B ++ (F ++ [w]).map fun w => (w, some o)) := by
            rw [List.map_append, ← List.append_assoc, encBk_app (B ++ F.map _)]
            rfl
          rw [ee]
          rfl
        refine seq_nxs hp ?_
        simp only [e_app, own_s, own_0, b_some, var_s, var_0]
        rw [if_pos (by rw [List.length_map, List.length_append]; omega)]
        simp)
  refine ⟨c6', e.trans ?_⟩
  rfl
/-! the outer loop -/
abbrev FO : Ev → Option Out := (sSeq (sPopAt 5 4 (dC (.int 0)))
    (sFor (dSeqI (dB m_near_of (dCons (dVar 0) (dCons (dVar 5) dNil)))) (aName 6) FI))
theorem road_out {l : List Op} (hs : storyOk l = true) {one other : List Int} (h1 : one ∈ expls l) (h2 : other ∈ expls l) (c7 : Cell) : ∀ (n : Nat) (B : Bk) (k : Nat) (D : List Int → Nat) (c5 c6 : Cell), Srch l one B k D → 721 ≤ n + k →
    ∃ B' k' D' c4' c5' c6', whD (dT (dDNotIn 3 (dVar 2))) FO n [.dat (encO l), .dat (encI one), .dat (encI other), .dct (dctO (encBk B)), .own (((keys B).drop k).map encI), c5, c6, c7]
      = some (.nx [.dat (encO l), .dat (encI one), .dat (encI other), .dct (dctO (encBk B')), c4', c5', c6', c7]) ∧ Srch l one B' k' D' ∧ other ∈ keys B'
  | 0, B, k, D, c5, c6, h, hn => by
    have := h.len hs
    have := h.kl
    omega
  | n + 1, B, k, D, c5, c6, h, hn => by
    have hl := h.len hs
    have hc : (dT (dDNotIn 3 (dVar 2))) (view [.dat (encO l), .dat (encI one), .dat (encI other), .dct (dctO (encBk B)), .own (((keys B).drop k).map encI), c5, c6, c7]) = some (!decide (other ∈ keys B)) := by
      have e1 : keyD (dVar 2) (view [.dat (encO l), .dat (encI one), .dat (encI other), .dct (dctO (encBk B)), .own (((keys B).drop k).map encI), c5, c6, c7]) = some (kInl other) := keyD_I rfl
      have e2 : dctAt 3 (view [.dat (encO l), .dat (encI one), .dat (encI other), .dct (dctO (encBk B)), .own (((keys B).drop k).map encI), c5, c6, c7]) = some (dctO (encBk B)) := rfl
      rw [x_T, x_dnotin, e1, b_some, e2, m_some, b_some, asB_b, valD_mem, keys_encBk]
    rw [whD, hc, b_some]
    by_cases c : other ∈ keys B
    · rw [decide_eq_true c]
      exact ⟨B, k, D, _, _, _, rfl, h, c⟩
    · rw [decide_eq_false c]
      obtain ⟨m, _, pm⟩ := connect hs h1 h2
      cases hd : (keys B).drop k with
      | nil => exact absurd (h.done hd m other pm) c
      | cons o q =>
        have hk : (keys B)[k]? = some o := by
          have := congrArg (·[0]?) hd
          simpa [List.getElem?_drop] using this
        have hq : (keys B).drop (k + 1) = q := by
          have := congrArg (List.drop 1) hd
          rw [List.drop_drop] at this
          simpa using this
        have hlt : k < (keys B).length := (List.getElem?_eq_some_iff.mp hk).1
        have hok : o ∈ keys B := List.mem_of_getElem? hk
        have st := h.step hs hk
        have ql : q.length ≤ 720 := by rw [← hq, List.length_drop, List.length_map]; omega
        obtain ⟨c6', e⟩ := road_in hs (c0 := .dat (encO l)) (c1 := .dat (encI one)) (c2 := .dat (encI other)) (o := o) (B := B) (Q := q) hl ql c6 c7
        obtain ⟨B', k', D', c4', c5', c6'', e2, r1, r2⟩ := road_out hs h1 h2 c7 n (nextB l o B) (k + 1) _ (.dat (encI o)) c6' st (by omega)
        refine ⟨B', k', D', c4', c5', c6'', ?_, r1, r2⟩
        have hF : FO [.dat (encO l), .dat (encI one), .dat (encI other), .dct (dctO (encBk B)), .own ((o :: q).map encI), c5, c6, c7] = some (.nx [.dat (encO l), .dat (encI one), .dat (encI other), .dct (dctO (encBk (nextB l o B))), .own ((q ++ newOf l o B).map encI), .dat (encI o), c6', c7]) := by
          refine seq_nxs (ρ' := [.dat (encO l), .dat (encI one), .dat (encI other), .dct (dctO (encBk B)), .own (q.map encI), .dat (encI o), c6, c7]) ?_ ?_
          · unfold sPopAt
            simp only [own_s, own_0, b_some, x_C, asI_i, List.map_cons, List.length_cons]
            rw [if_pos ⟨by decide, by omega, by decide⟩]
            rfl
          · simp only [e_for, x_SeqI, x_B, x_cons, x_nil, var_s, var_0, b_some, m_some, near_of_ok hs (expls_perm (h.ex o hok)), asSeq_l]
            exact e
        rw [if_pos (show (!false) = true from rfl), hF, b_some]
        show whD _ FO n _ = _
        rw [keys_next, List.drop_append_of_le_length hlt, hq] at e2
        exact e2
/-! the way back -/
/-- ch: from x back to one -/
def Back (l : List Op) (one : List Int) : List Int → List (List Int) → Prop
  | x, [] => x = one
  | x, p :: ch => x ∈ nearL l p ∧ Back l one p ch
abbrev CB : Ev → Option Bool := (dT (d2 (pIsN true) (dDGetK 3 (d2 pIx (dVar 7) (d1 pNeg (dC (.int 1))))) (dC .none)))
abbrev FB : Ev → Option Out := (sAppV 7 (dDGetK 3 (d2 pIx (dVar 7) (d1 pNeg (dC (.int 1))))))
theorem ix_lastL (R : List (List Int)) (x : List Int) : pIx (.list ((R ++ [x]).map encI)) (.int (-1)) = some (encI x) := by
  have e0 : ((R ++ [x]).map encI).length = R.length + 1 := by rw [List.length_map, List.length_append]; rfl
  show L2.atI ((R ++ [x]).map encI) (-1) = _
  unfold L2.atI L2.ixN
  rw [if_neg (by decide), if_pos (by rw [e0]; omega), b_some, e0]
  have e : ((-1 : Int) + ((R.length + 1 : Nat) : Int)).toNat = R.length := by omega
  rw [e, List.map_append]
  simp
theorem road_back {l : List Op} {one : List Int} {B : Bk} {k : Nat} {D : List Int → Nat} (h : Srch l one B k D) (c0 c1 c2 c4 c5 c6 : Cell) : ∀ (n : Nat) (x : List Int) (R : List (List Int)), x ∈ keys B → D x < n → R.length + D x ≤ 1000 →
    ∃ ch, whD CB FB n [c0, c1, c2, .dct (dctO (encBk B)), c4, c5, c6, .own ((R ++ [x]).map encI)] = some (.nx [c0, c1, c2, .dct (dctO (encBk B)), c4, c5, c6, .own ((R ++ x :: ch).map encI)]) ∧ ch.length = D x ∧ Back l one x ch
  | 0, x, R, hx, hn, _ => by omega
  | n + 1, x, R, hx, hn, hR => by
    obtain ⟨⟨x', p⟩, hp, rfl⟩ := List.mem_map.mp hx
    simp only at hn hR hx ⊢
    have hg : dDGetK 3 (d2 pIx (dVar 7) (d1 pNeg (dC (.int 1)))) (view [c0, c1, c2, .dct (dctO (encBk B)), c4, c5, c6, .own ((R ++ [x']).map encI)]) = some (encP p) := by
      have e1 : keyD (d2 pIx (dVar 7) (d1 pNeg (dC (.int 1)))) (view [c0, c1, c2, .dct (dctO (encBk B)), c4, c5, c6, .own ((R ++ [x']).map encI)]) = some (kInl x') := keyD_I (by
        show pIx (.list ((R ++ [x']).map encI)) (.int (-1)) = _
        exact ix_lastL R x')
      have e2 : dctAt 3 (view [c0, c1, c2, .dct (dctO (encBk B)), c4, c5, c6, .own ((R ++ [x']).map encI)]) = some (dctO (encBk B)) := rfl
      unfold dDGetK
      rw [e2, b_some, e1, b_some, valD_O, find_nd h.nd hp]
      rfl
    cases p with
    | none =>
      have hone := h.no _ hp
      refine ⟨[], ?_, ?_, hone⟩
      · rw [whD]
        have : CB (view [c0, c1, c2, .dct (dctO (encBk B)), c4, c5, c6, .own ((R ++ [x']).map encI)]) = some false := by
          show (dT (d2 (pIsN true) (dDGetK 3 _) (dC .none))) (view _) = _
          rw [x_T, x_d2, hg]; rfl
        rw [this, b_some]; rfl
      · rw [hone, h.hd.2]; rfl
    | some p =>
      obtain ⟨q1, q2, q3⟩ := h.pr _ _ hp
      obtain ⟨ch, e, e1, e2⟩ := road_back h c0 c1 c2 c4 c5 c6 n p (R ++ [x']) q1 (by omega) (by rw [List.length_append]; simp; omega)
      refine ⟨p :: ch, ?_, by rw [List.length_cons, e1, q3], q2, e2⟩
      rw [whD]
      have : CB (view [c0, c1, c2, .dct (dctO (encBk B)), c4, c5, c6, .own ((R ++ [x']).map encI)]) = some true := by
        show (dT (d2 (pIsN true) (dDGetK 3 _) (dC .none))) (view _) = _
        rw [x_T, x_d2, hg]; rfl
      rw [this, b_some, if_pos rfl]
      have hF : FB [c0, c1, c2, .dct (dctO (encBk B)), c4, c5, c6, .own ((R ++ [x']).map encI)] = some (.nx [c0, c1, c2, .dct (dctO (encBk B)), c4, c5, c6, .own ((R ++ [x'] ++ [p]).map encI)]) := by
        simp only [e_appV, own_s, own_0, b_some, hg]
        rw [if_pos ⟨by rw [List.length_map, List.length_append]; simp; omega, flat_ints p⟩]
        simp [encP]
      rw [hF, b_some]
      show whD CB FB n _ = _
      rw [e]
      simp
/-- what road returns -/
def RoadL (l : List Op) (a b : List Int) (path : List (List Int)) : Prop := ∃ ch, path = (b :: ch).reverse ∧ Back l a b ch ∧ Dist l a b ch.length
theorem road_ok {l : List Op} (hs : storyOk l = true) {a b : List Int} (ha : a ∈ expls l) (hb : b ∈ expls l) : ∃ path, m_road [encO l, encI a, encI b] = some (.ok (.list (path.map encI))) ∧ RoadL l a b path := by
  obtain ⟨B, k, D, c4, c5, c6, e1, h, hm⟩ := road_out hs ha hb .no 1000 [(a, none)] 0 _ .no .no (Srch.start ha) (by omega)
  have dd := h.dist hm
  obtain ⟨m, hm6, pm⟩ := connect hs ha hb
  have d6 : D b ≤ 6 := Nat.le_trans (dd.2 m pm) hm6
  obtain ⟨ch, e2, hch, hbk⟩ := road_back h (.dat (encO l)) (.dat (encI a)) (.dat (encI b)) c4 c5 c6 1000 b [] hm (by omega) (by simp; omega)
  refine ⟨(b :: ch).reverse, ?_, ch, rfl, hbk, by rw [hch]; exact dd⟩
  simp only [m_road, e_fnX, b_road]
  refine seq_nx (ρ' := [.dat (encO l), .dat (encI a), .dat (encI b), .no, .no, .no, .no, .no]) (by simp [check_order_ok hs ha, e_start3]) (seq_nx (ρ' := [.dat (encO l), .dat (encI a), .dat (encI b), .no, .no, .no, .no, .no]) (by simp [check_order_ok hs hb])
    (seq_nx (ρ' := [.dat (encO l), .dat (encI a), .dat (encI b), .dct (dctO (encBk [(a, none)])), .no, .no, .no, .no]) ?_ (seq_nx (ρ' := [.dat (encO l), .dat (encI a), .dat (encI b), .dct (dctO (encBk [(a, none)])), .own [encI a], .no, .no, .no]) ?_ (seq_nx e1
    (seq_nx (ρ' := [.dat (encO l), .dat (encI a), .dat (encI b), .dct (dctO (encBk B)), c4, c5, c6, .own [encI b]]) ?_ (seq_nx e2 ?_))))))
  · have hk : keyD (dVar 1) [.dat (encO l), .dat (encI a), .dat (encI b), .no, .no, .no, .no, .no] = some (kInl a) := keyD_I rfl
    unfold sDisp1
    rw [hk]
    rfl
  · rfl
  · rfl
  · show (Option.map Out.rt _).bind _ = _
    show ((some (PyData.list ((b :: ch).map encI).reverse)).map Out.rt).bind outX = _
    rw [← List.map_reverse]
    rfl
theorem road_bad1 {l : List Op} (hs : storyOk l = true) {d d' : PyData} (ee : m_explains_story [encO l, d] = some (.bool false)) : m_road [encO l, d, d'] = some (.error 6) := by
  simp only [m_road, e_fnX, b_road]
  rw [e_seq]
  simp [check_order_bad hs ee, e_start3]
theorem road_bad2 {l : List Op} (hs : storyOk l = true) {a : List Int} {d : PyData} (ha : a ∈ expls l) (ee : m_explains_story [encO l, d] = some (.bool false)) : m_road [encO l, encI a, d] = some (.error 6) := by
  simp only [m_road, e_fnX, b_road]
  refine seq_nx (ρ' := [.dat (encO l), .dat (encI a), .dat d, .no, .no, .no, .no, .no]) (by simp [check_order_ok hs ha, e_start3]) ?_
  rw [e_seq]
  simp [check_order_bad hs ee]
end CS
/-! M45: what a road looks like. -/
namespace CS
open PySem
theorem ne_iT (a b : List Int) : pNe (encI a) (encI b) = some (.bool (!decide (a = b))) :=
  p_ned (by show (SeqAt.shaped (.tuple _) && SeqAt.shaped (.tuple _)) = true; rw [shaped_intsT, shaped_intsT]; rfl) (by show PyData.eqv (.tuple _) (.tuple _) = _; unfold PyData.eqv; exact eqv_ints a b)
theorem back_last {l : List Op} {one : List Int} : ∀ (ch : List (List Int)) (x : List Int), Back l one x ch → ∃ R, (x :: ch).reverse = one :: R
  | [], x, h => ⟨[], by rw [show x = one from h]; rfl⟩
  | p :: ch, x, h => by
    obtain ⟨R, e⟩ := back_last ch p h.2
    exact ⟨R ++ [x], by rw [List.reverse_cons, e]; rfl⟩
theorem RoadL.len {l : List Op} {a b : List Int} {path : List (List Int)} (h : RoadL l a b path) : ∃ n, path.length = n + 1 ∧ Dist l a b n := by
  obtain ⟨ch, rfl, _, d⟩ := h
  exact ⟨ch.length, by simp, d⟩
theorem RoadL.first {l : List Op} {a b : List Int} {path : List (List Int)} (h : RoadL l a b path) : pIx (.list (path.map encI)) (.int 0) = some (encI a) := by
  obtain ⟨ch, rfl, hb, d⟩ := h
  obtain ⟨R, e⟩ := back_last ch b hb
  rw [e]
  exact ix_nth _ _ _ (by decide) rfl
theorem RoadL.last {l : List Op} {a b : List Int} {path : List (List Int)} (h : RoadL l a b path) : pIx (.list (path.map encI)) (.int (-1)) = some (encI b) := by
  obtain ⟨ch, rfl, hb, d⟩ := h
  rw [List.reverse_cons]
  exact ix_lastL _ _
theorem back_step {l : List Op} {one : List Int} : ∀ (ch : List (List Int)) (x : List Int), Back l one x ch → ∀ i u v, (x :: ch).reverse[i]? = some u → (x :: ch).reverse[i + 1]? = some v → v ∈ nearL l u
  | [], x, h, i, u, v, h1, h2 => by simp at h2
  | p :: ch, x, h, i, u, v, h1, h2 => by
    rw [List.reverse_cons] at h1 h2
    have len : (p :: ch).reverse.length = ch.length + 1 := by simp
    by_cases c : i + 1 < ch.length + 1
    · rw [List.getElem?_append_left (by rw [len]; omega)] at h1 h2
      exact back_step ch p h.2 i u v h1 h2
    · have : i + 1 = ch.length + 1 ∨ ch.length + 1 < i + 1 := by omega
      rcases this with e | e
      · rw [List.getElem?_append_right (by rw [len]; omega), len, e] at h2
        simp at h2
        rw [List.getElem?_append_left (by rw [len]; omega)] at h1
        have : i = ch.length := by omega
        subst this
        rw [List.reverse_cons, List.getElem?_append_right (by simp)] at h1
        simp at h1
        subst h1 h2
        exact h.1
      · rw [List.getElem?_append_right (by rw [len]; omega), len] at h2
        have : i + 1 - (ch.length + 1) = (i - ch.length - 1) + 1 := by omega
        rw [this] at h2
        simp at h2
theorem RoadL.step {l : List Op} {a b : List Int} {path : List (List Int)} (h : RoadL l a b path) {i : Nat} {u v : List Int} (h1 : path[i]? = some u) (h2 : path[i + 1]? = some v) : v ∈ nearL l u := by
  obtain ⟨ch, rfl, hb, d⟩ := h
  exact back_step ch b hb i u v h1 h2
/-- where the explanation drawn stands -/
theorem pick {l : List Op} (c : expls l ≠ []) {ds : List Int} (hd : Draws ds) (k : Int) (h0 : 0 ≤ k) (h6 : k < 60) : ∃ h, h ∈ expls l ∧ pIx (.list (ds.map .int)) (.int k) = some (.int (dr ds k)) ∧
    (((some (PyData.int (dr ds k))).bind fun a => (some (PyData.int ((expls l).length : Nat))).bind fun b => pMod a b).bind fun b => pIx (.list ((expls l).map encI)) b) = some (encI h) := by
  have hpos : 0 < (expls l).length := List.length_pos_iff.mpr c
  have h1 := Int.emod_nonneg (dr ds k) (b := ((expls l).length : Int)) (by omega)
  have h2 := Int.emod_lt_of_pos (dr ds k) (b := ((expls l).length : Int)) (by omega)
  have hlt : (dr ds k % ((expls l).length : Int)).toNat < (expls l).length := by omega
  refine ⟨(expls l)[(dr ds k % ((expls l).length : Int)).toNat], List.getElem_mem hlt, ix_dr hd k h0 h6, ?_⟩
  rw [b_some, b_some, p_mod _ _ (by omega), b_some]
  exact ix_nth _ _ _ h1 (by rw [List.getElem?_map, List.getElem?_eq_getElem hlt]; rfl)
theorem near_len {l : List Op} (hs : storyOk l = true) {a : List Int} (ha : a ∈ expls l) : (nearL l a).length ≤ 35 := by
  have h1 := nd_sub_len _ (exs a) (near_nd hs a) fun x hx => ((mem_near hs).mp hx).1
  have h2 := exs_len a
  have h3 := exN_le (n := a.length) (by rw [expls_len1 ha]; exact storyOk_len hs)
  omega
theorem set_near {l : List Op} (hs : storyOk l = true) {a : List Int} (ha : a ∈ expls l) : kSortSetT (.list ((nearL l a).map encI)) = some (.list ((nearL l a).map encI)) := by
  have h35 := near_len hs ha
  have gb : goodB (nearL l a) = true := goodB_expls hs (fun k hk => near_mem hs hk) (by omega) fun hne => by
    obtain ⟨k, hk⟩ := List.exists_mem_of_ne_nil _ hne
    have := exs_pos ((mem_near hs).mp hk).1
    rw [expls_len1 ha] at this
    exact this
  unfold kSortSetT
  rw [asL_l, b_some, asKeys_I, b_some, if_pos gb, near_is hs (o := a) fun k => mem_near hs]
  rfl
end CS
namespace CS
open PySem L2
def b_law : Ev → Option Out :=
  (sSeq (sSet 1 (dB m__law_row (dCons (dVar 0) (dCons (dC (.int 4)) dNil))))
    (sSeq (sSet 2 (dB m__law_story (dCons (dVar 0) (dCons (dC (.int 2)) (dCons (dC (.int 5)) dNil)))))
    (sSeq (sSet 3 (dB m__law_every (dCons (dVar 2) dNil)))
    (sSeq (sSet 4 (d2 pIx (dLst (dCons (dC .none) (dCons (dLstRg (dB pLen (dCons (dVar 2) dNil))) (dCons (d2 pAdd (d2 pRepT (dTup (dCons (dC (.int 0)) dNil)) (dB pLen (dCons (dVar 2) dNil))) (dTup (dCons (dC (.int 0)) dNil))) (dCons (dTup (dCons (dB pLen (dCons (dVar 2) dNil)) dNil)) dNil))))) (d2 pMod (d2 pIx (dVar 1) (dC (.int 0))) (dC (.int 4)))))
    (sSeq (sIf (dOrT (dT (d2 pNe (dB m__law_led (dCons (dC (.int 0)) (dCons (dVar 2) (dCons (dVar 4) (dCons (dC .none) dNil))))) (dC (.str "order")))) (dT (d2 pNe (dB m__law_led (dCons (dC (.int 1)) (dCons (dVar 2) (dCons (dVar 4) (dCons (dVar 4) dNil))))) (dC (.str "order"))))) (sRet (dC (.bool false))) sNext)
    (sSeq (sIf (dT (d2 pEq (dVar 3) (dLst dNil))) (sRet (dC (.bool true))) sNext)
    (sSeq (sSet 5 (d2 pIx (dVar 3) (d2 pMod (d2 pIx (dVar 1) (dC (.int 1))) (dB pLen (dCons (dVar 3) dNil)))))
    (sSeq (sSet 6 (d2 pIx (dVar 3) (d2 pMod (d2 pIx (dVar 1) (dC (.int 2))) (dB pLen (dCons (dVar 3) dNil)))))
    (sSeq (sIf (dOrT (dT (d2 pNe (dBX m_near (dCons (dVar 2) (dCons (dVar 5) dNil))) (dB m__law_near (dCons (dVar 2) (dCons (dVar 5) dNil))))) (dT (d2 pNe (dB m__law_led (dCons (dC (.int 1)) (dCons (dVar 2) (dCons (dVar 5) (dCons (dVar 4) dNil))))) (dC (.str "order"))))) (sRet (dC (.bool false))) sNext)
    (sSeq (sSet 7 (dBX m_road (dCons (dVar 2) (dCons (dVar 5) (dCons (dVar 6) dNil)))))
    (sSeq (sTgt (aTup [8, 9, 10]) (dTup (dCons (dLst (dCons (dVar 5) dNil)) (dCons (dLst (dCons (dVar 5) dNil)) (dCons (dC (.int 0)) dNil)))))
    (sSeq (whD (dT (d2 (pInA true) (dVar 6) (dVar 9))) (sSeq (sSet 11 (dLst dNil))
    (sSeq (sFor (dSeqI (dVar 8)) (aName 12) (sSet 11 (d2 pAdd (dVar 11) (dLc [13] (dSeqI (dB m__law_near (dCons (dVar 2) (dCons (dVar 12) dNil)))) (aName 13) (dAndT (dT (d2 (pInA true) (dVar 13) (dVar 9))) (dT (d2 (pInA true) (dVar 13) (dVar 11)))) (dVar 13)))))
    (sSeq (sSet 9 (d2 pAdd (dVar 9) (dVar 11)))
    (sSeq (sSet 8 (dVar 11))
    (sSet 10 (d2 pAdd (dVar 10) (dC (.int 1)))))))) 1000)
    (sSeq (sIf (dOrT (dT (d2 pNe (d2 pIx (dVar 7) (dC (.int 0))) (dVar 5))) (dOrT (dT (d2 pNe (d2 pIx (dVar 7) (d1 pNeg (dC (.int 1)))) (dVar 6))) (dT (d2 pNe (dB pLen (dCons (dVar 7) dNil)) (d2 pAdd (dVar 10) (dC (.int 1))))))) (sRet (dC (.bool false))) sNext)
    (sRet (d2 pEq (dLc [14] (dRng (dCons (dC (.int 1)) (dCons (dB pLen (dCons (dVar 7) dNil)) dNil))) (aName 14) (dT (d2 (pInA true) (d2 pIx (dVar 7) (dVar 14)) (dB m__law_near (dCons (dVar 2) (dCons (d2 pIx (dVar 7) (d2 pSub (dVar 14) (dC (.int 1)))) dNil))))) (dVar 14)) (dLst dNil))))))))))))))))
def m_law : List PyData → Option PyData := fnD 15 b_law
end CS
/-! L06: the law of k06, in plain words. -/
namespace CS
open PySem
/-! what is no explanation -/
theorem bad_non {l : List Op} : m_explains_story [encO l, .none] = some (.bool false) := (explains_bad .non fun is e => by cases e).1
theorem bad_lst {l : List Op} (is : List Int) : m_explains_story [encO l, .list (is.map .int)] = some (.bool false) := (explains_bad (.lst is) fun js e => by cases e).1
theorem bad_tup {l : List Op} (hs : storyOk l = true) (is : List Int) (hlen : is.length ≤ 1000) (hne : is.length ≠ l.length) : m_explains_story [encO l, encI is] = some (.bool false) := by
  by_cases h : ∀ i ∈ is, 0 ≤ i ∧ i < l.length
  · rw [explains_story_ok (storyOk_len hs) h hlen, explT_eq hs, decide_eq_false fun z => hne (expls_len1 z)]
  · have hc : Cand (encI is) := by rw [← encI_o]; exact .tup _ (by rw [List.length_map]; exact hlen)
    refine (explains_bad hc fun js e hj => h fun i hi => ?_).1
    have : js = is := by
      unfold encI at e
      injection e with e
      exact ((List.map_inj_right (fun _ _ q => by injection q)).mp e).symm
    subst this
    have := hj i hi
    omega
theorem led0 {l : List Op} (hs : storyOk l = true) {d : PyData} (ee : m_explains_story [encO l, d] = some (.bool false)) : m__law_led [.int 0, encO l, d, .none] = some (.str "order") := by
  simp only [m__law_led, e_fn, b__law_led]
  unfold sTry
  rw [if_pos (by show 4 < 5; omega)]
  have e : rIf (dT (d2 pEq (dVar 0) (dC (.int 0)))) (dBR m_near (dCons (dVar 1) (dCons (dVar 2) dNil))) (dBR m_road (dCons (dVar 1) (dCons (dVar 2) (dCons (dVar 3) dNil)))) (view (start0 5 [.int 0, encO l, d, .none])) = m_near [encO l, d] := by
    unfold rIf
    simp [start0]
  rw [e, near_bad hs ee, b_some]
  rfl
theorem led1 {l : List Op} {d d' : PyData} (h : m_road [encO l, d, d'] = some (.error 6)) : m__law_led [.int 1, encO l, d, d'] = some (.str "order") := by
  simp only [m__law_led, e_fn, b__law_led]
  unfold sTry
  rw [if_pos (by show 4 < 5; omega)]
  have e : rIf (dT (d2 pEq (dVar 0) (dC (.int 0)))) (dBR m_near (dCons (dVar 1) (dCons (dVar 2) dNil))) (dBR m_road (dCons (dVar 1) (dCons (dVar 2) (dCons (dVar 3) dNil)))) (view (start0 5 [.int 1, encO l, d, d'])) = m_road [encO l, d, d'] := by
    unfold rIf
    simp [start0]
  rw [e, h, b_some]
  rfl
theorem RoadL.mem {l : List Op} (hs : storyOk l = true) {a b : List Int} {path : List (List Int)} (h : RoadL l a b path) (ha : a ∈ expls l) : ∀ (i : Nat) (u : List Int), path[i]? = some u → u ∈ expls l
  | 0, u, e => by
    obtain ⟨ch, rfl, hb, d⟩ := h
    obtain ⟨R, e2⟩ := back_last ch b hb
    rw [e2] at e
    cases e
    exact ha
  | i + 1, u, e => by
    have hlt := (List.getElem?_eq_some_iff.mp e).1
    exact near_mem hs (h.step (List.getElem?_eq_getElem (show i < path.length by omega)) e)
theorem ne_order : pNe (.str "order") (.str "order") = some (.bool false) := p_ned (x := true) (by decide +kernel) (by decide +kernel)
/-! level by level -/
structure Lv (l : List Op) (one : List Int) (level seen : List (List Int)) (m : Nat) : Prop where
  nd : seen.Nodup
  ex : ∀ v ∈ seen, v ∈ expls l
  sub : ∀ v ∈ level, v ∈ seen
  ll : level.length ≤ 720
  all : ∀ v, v ∈ seen ↔ ∃ n, n ≤ m ∧ Path l n one v
  old : ∀ v ∈ seen, v ∉ level → ∃ n, n < m ∧ Path l n one v
def addF (l : List Op) (seen acc : List (List Int)) (o : List Int) : List (List Int) := acc ++ (nearL l o).filter fun w => !decide (w ∈ seen) && !decide (w ∈ acc)
def laterF (l : List Op) (seen : List (List Int)) (level : List (List Int)) : List (List Int) := level.foldl (addF l seen) []
theorem later_nd {l : List Op} (hs : storyOk l = true) {seen : List (List Int)} : ∀ (level acc : List (List Int)), acc.Nodup → (level.foldl (addF l seen) acc).Nodup
  | [], acc, h => h
  | o :: level, acc, h => by
    rw [List.foldl_cons]
    refine later_nd hs level _ ?_
    unfold addF
    rw [List.nodup_append]
    refine ⟨h, (near_nd hs o).filter _, fun a ha b hb e => ?_⟩
    subst e
    have := (List.mem_filter.mp hb).2
    simp [ha] at this
theorem mem_later {l : List Op} {seen : List (List Int)} {w : List Int} : ∀ (level acc : List (List Int)), w ∈ level.foldl (addF l seen) acc ↔ w ∈ acc ∨ (∃ o ∈ level, w ∈ nearL l o) ∧ w ∉ seen
  | [], acc => by simp
  | o :: level, acc => by
    rw [List.foldl_cons, mem_later level]
    unfold addF
    rw [List.mem_append, List.mem_filter]
    simp only [Bool.and_eq_true, Bool.not_eq_true', decide_eq_false_iff_not, List.mem_cons]
    constructor
    · rintro ((h | ⟨h1, h2, h3⟩) | ⟨⟨o', h1, h2⟩, h3⟩)
      · exact .inl h
      · exact .inr ⟨⟨o, .inl rfl, h1⟩, h2⟩
      · exact .inr ⟨⟨o', .inr h1, h2⟩, h3⟩
    · rintro (h | ⟨⟨o', h1 | h1, h2⟩, h3⟩)
      · exact .inl (.inl h)
      · subst h1
        by_cases c : w ∈ acc
        · exact .inl (.inl c)
        · exact .inl (.inr ⟨h2, h3, c⟩)
      · exact .inr ⟨⟨o', h1, h2⟩, h3⟩
theorem Lv.start {l : List Op} {one : List Int} (h : one ∈ expls l) : Lv l one [one] [one] 0 where
  nd := by simp
  ex := fun v hv => by rw [List.mem_singleton.mp hv]; exact h
  sub := fun v hv => hv
  ll := by simp
  all := fun v => by
    constructor
    · intro hv; rw [List.mem_singleton.mp hv]; exact ⟨0, Nat.le_refl _, .nil _⟩
    · rintro ⟨n, hn, p⟩
      have : n = 0 := by omega
      subst this
      rw [p.zero]; simp
  old := fun v hv hn => absurd hv hn
theorem later_len {l : List Op} (hs : storyOk l = true) {seen level : List (List Int)} : (laterF l seen level).length ≤ 720 := by
  have h1 := nd_sub_len _ (expls l) (later_nd hs (seen := seen) level [] List.nodup_nil) fun x hx => by
    rcases (mem_later level []).mp hx with z | ⟨⟨o, _, h⟩, _⟩
    · cases z
    · exact near_mem hs h
  have := expls_len (storyOk_len hs)
  unfold laterF
  omega
theorem Lv.step {l : List Op} (hs : storyOk l = true) {one : List Int} {level seen : List (List Int)} {m : Nat} (h : Lv l one level seen m) : Lv l one (laterF l seen level) (seen ++ laterF l seen level) (m + 1) := by
  have ml : ∀ w, w ∈ laterF l seen level ↔ (∃ o ∈ level, w ∈ nearL l o) ∧ w ∉ seen := fun w => by
    unfold laterF; rw [mem_later]; simp
  refine ⟨?_, fun v hv => ?_, fun v hv => List.mem_append_right _ hv, later_len hs, fun v => ?_, fun v hv hn => ?_⟩
  · rw [List.nodup_append]
    refine ⟨h.nd, later_nd hs level [] List.nodup_nil, fun a ha b hb e => ?_⟩
    subst e
    exact ((ml _).mp hb).2 ha
  · rcases List.mem_append.mp hv with z | z
    · exact h.ex v z
    · obtain ⟨⟨o, _, q⟩, _⟩ := (ml v).mp z
      exact near_mem hs q
  · rw [List.mem_append]
    constructor
    · rintro (z | z)
      · obtain ⟨n, hn, p⟩ := (h.all v).mp z
        exact ⟨n, by omega, p⟩
      · obtain ⟨⟨o, ho, q⟩, _⟩ := (ml v).mp z
        obtain ⟨n, hn, p⟩ := (h.all o).mp (h.sub o ho)
        exact ⟨n + 1, by omega, p.snoc q⟩
    · rintro ⟨n, hn, p⟩
      by_cases c : v ∈ seen
      · exact .inl c
      · right
        cases n with
        | zero => exact absurd ((h.all v).mpr ⟨0, Nat.zero_le _, p⟩) c
        | succ n =>
          obtain ⟨u, pu, q⟩ := p.unsnoc
          have us : u ∈ seen := (h.all u).mpr ⟨n, by omega, pu⟩
          by_cases cu : u ∈ level
          · exact (ml v).mpr ⟨⟨u, cu, q⟩, c⟩
          · obtain ⟨n', hn', p'⟩ := h.old u us cu
            exact absurd ((h.all v).mpr ⟨n' + 1, by omega, p'.snoc q⟩) c
  · rcases List.mem_append.mp hv with z | z
    · obtain ⟨n, hn', p⟩ := (h.all v).mp z
      exact ⟨n, by omega, p⟩
    · exact absurd z hn
/-! the loop -/
abbrev LI : Ev → Option Out := (sSet 11 (d2 pAdd (dVar 11) (dLc [13] (dSeqI (dB m__law_near (dCons (dVar 2) (dCons (dVar 12) dNil)))) (aName 13) (dAndT (dT (d2 (pInA true) (dVar 13) (dVar 9))) (dT (d2 (pInA true) (dVar 13) (dVar 11)))) (dVar 13))))
theorem lv_in {l : List Op} (hs : storyOk l = true) {seen level : List (List Int)} (hlv : ∀ o ∈ level, o ∈ expls l) (c0 c1 c3 c4 c5 c6 c7 c10 c12 c13 c14 : Cell) : ∃ c12', forD (aName 12) LI (level.map encI) [c0, c1, .dat (encO l), c3, c4, c5, c6, c7, .dat (.list (level.map encI)), .dat (.list (seen.map encI)), c10, .dat (.list []), c12, c13, c14]
    = some (.nx [c0, c1, .dat (encO l), c3, c4, c5, c6, c7, .dat (.list (level.map encI)), .dat (.list (seen.map encI)), c10, .dat (.list ((laterF l seen level).map encI)), c12', c13, c14]) := by
  obtain ⟨ρ', e, c12', rfl⟩ := for_mapJ (a := aName 12) (F := LI) encI (fun os ρ => ∃ c12, ρ = [c0, c1, .dat (encO l), c3, c4, c5, c6, c7, .dat (.list (level.map encI)), .dat (.list (seen.map encI)), c10, .dat (.list ((laterF l seen os).map encI)), c12, c13, c14])
    level [] [c0, c1, .dat (encO l), c3, c4, c5, c6, c7, .dat (.list (level.map encI)), .dat (.list (seen.map encI)), c10, .dat (.list []), c12, c13, c14] ⟨_, rfl⟩ (by
      rintro os o rest ρ er ⟨c12, rfl⟩
      rw [List.nil_append] at er
      have ho : o ∈ expls l := hlv o (by rw [er]; simp)
      have ln := law_near_ok hs (expls_perm ho)
      have n35 := near_len hs ho
      have l720 := later_len hs (seen := seen) (level := os)
      have fl := List.length_filter_le (fun w => !decide (w ∈ seen) && !decide (w ∈ laterF l seen os)) (nearL l o)
      refine ⟨_, _, a_name _ _, set_of (d := .list ((laterF l seen (os ++ [o])).map encI)) ?_, .dat (encI o), rfl⟩
      have el : laterF l seen (os ++ [o]) = laterF l seen os ++ (nearL l o).filter fun w => !decide (w ∈ seen) && !decide (w ∈ laterF l seen os) := by
        unfold laterF; rw [List.foldl_append]; rfl
      simp only [sD_cons, sD_nil, List.set_cons_succ, List.set_cons_zero, x_d2, var_s, var_0, b_some, x_lc, x_SeqI, x_B, x_cons, x_nil, m_some, ln, asSeq_l]
      rw [comp1 encI (fun w => !decide (w ∈ seen) && !decide (w ∈ laterF l seen os)) encI]
      · rw [m_some, b_some, addL _ _ (by rw [List.length_map, List.length_map]; omega), el, List.map_append]
      · rfl
      · intro w hw
        have i1 := in_lli true w seen
        have i2 := in_lli true w (laterF l seen os)
        rw [if_pos rfl] at i1 i2
        refine ⟨?_, fun _ => by simp⟩
        simp only [wD_cons, wD_nil, List.set_cons_succ, List.set_cons_zero, x_AndT, x_T, x_d2, var_s, var_0, b_some, i1, i2, asB_b]
        cases decide (w ∈ seen) <;> rfl)
  exact ⟨c12', e⟩
abbrev LO : Ev → Option Out := (sSeq (sSet 11 (dLst dNil))
    (sSeq (sFor (dSeqI (dVar 8)) (aName 12) LI)
    (sSeq (sSet 9 (d2 pAdd (dVar 9) (dVar 11)))
    (sSeq (sSet 8 (dVar 11))
    (sSet 10 (d2 pAdd (dVar 10) (dC (.int 1))))))))
theorem lv_out {l : List Op} (hs : storyOk l = true) {one other : List Int} {d : Nat} (hd : Dist l one other d) (d6 : d ≤ 6) (c0 c1 c3 c4 c5 c7 c13 c14 : Cell) : ∀ (n m : Nat) (level seen : List (List Int)) (c11 c12 : Cell), Lv l one level seen m → m ≤ d → 7 ≤ n + m →
    ∃ c8' c9' c11' c12', whD (dT (d2 (pInA true) (dVar 6) (dVar 9))) LO n [c0, c1, .dat (encO l), c3, c4, c5, .dat (encI other), c7, .dat (.list (level.map encI)), .dat (.list (seen.map encI)), .dat (.int (m : Nat)), c11, c12, c13, c14]
      = some (.nx [c0, c1, .dat (encO l), c3, c4, c5, .dat (encI other), c7, c8', c9', .dat (.int (d : Nat)), c11', c12', c13, c14])
  | 0, m, level, seen, c11, c12, h, hm, hn => by omega
  | n + 1, m, level, seen, c11, c12, h, hm, hn => by
    have hmem : other ∈ seen ↔ m = d := by
      rw [h.all]
      constructor
      · rintro ⟨k, hk, p⟩
        have := hd.2 k p
        omega
      · rintro rfl; exact ⟨m, Nat.le_refl _, hd.1⟩
    have i1 := in_lli true other seen
    rw [if_pos rfl] at i1
    have hc : (dT (d2 (pInA true) (dVar 6) (dVar 9))) (view [c0, c1, .dat (encO l), c3, c4, c5, .dat (encI other), c7, .dat (.list (level.map encI)), .dat (.list (seen.map encI)), .dat (.int (m : Nat)), c11, c12, c13, c14]) = some (!decide (other ∈ seen)) := by
      simp only [view, List.map_cons, List.map_nil, v_dat, x_T, x_d2, var_s, var_0, b_some, i1, asB_b]
    rw [whD, hc, b_some]
    by_cases c : m = d
    · rw [decide_eq_true (hmem.mpr c)]
      subst c
      exact ⟨_, _, _, _, rfl⟩
    · rw [decide_eq_false fun z => c (hmem.mp z), if_pos (show (!false) = true from rfl)]
      have st := h.step hs
      obtain ⟨c12', e⟩ := lv_in hs (seen := seen) (level := level) (fun o ho => h.ex o (h.sub o ho)) c0 c1 c3 c4 c5 (.dat (encI other)) c7 (.dat (.int (m : Nat))) c12 c13 c14
      have l720 := later_len hs (seen := seen) (level := level)
      have s720 : seen.length ≤ 720 := by
        have := nd_sub_len _ (expls l) h.nd h.ex
        have := expls_len (storyOk_len hs)
        omega
      obtain ⟨c8', c9', c11', c12'', e2⟩ := lv_out hs hd d6 c0 c1 c3 c4 c5 c7 c13 c14 n (m + 1) _ _ (.dat (.list ((laterF l seen level).map encI))) c12' st (by omega) (by omega)
      have hF : LO [c0, c1, .dat (encO l), c3, c4, c5, .dat (encI other), c7, .dat (.list (level.map encI)), .dat (.list (seen.map encI)), .dat (.int (m : Nat)), c11, c12, c13, c14]
          = some (.nx [c0, c1, .dat (encO l), c3, c4, c5, .dat (encI other), c7, .dat (.list ((laterF l seen level).map encI)), .dat (.list ((seen ++ laterF l seen level).map encI)), .dat (.int ((m + 1 : Nat) : Int)), .dat (.list ((laterF l seen level).map encI)), c12', c13, c14]) := by
        refine seq_nxs (set_of (d := .list []) (by simp)) (seq_nxs e (seq_nxs (set_of (d := .list ((seen ++ laterF l seen level).map encI)) ?_) (seq_nxs (set_of (d := .list ((laterF l seen level).map encI)) (by simp)) (set_of (d := .int ((m + 1 : Nat) : Int)) (by simp)))))
        simp only [x_d2, var_s, var_0, b_some]
        rw [addL _ _ (by rw [List.length_map, List.length_map]; omega), List.map_append]
      rw [hF, b_some]
      exact ⟨c8', c9', c11', c12'', e2⟩
theorem law_k06 (ns : List Int) (hn : ns.length ≤ 63) : m_law [encS ns] = some (.bool true) := by
  obtain ⟨l, hs, hl5, es⟩ := law_story_ok ns 2 5 (by decide) (by decide) (by decide)
  obtain ⟨ds, hd, er⟩ := row_ok ns 4 (by decide)
  have hl := storyOk_len hs
  have ev := law_every_ok hl
  have hlen := len_encO l
  obtain ⟨W, hW, bad, vW⟩ : ∃ W, (d2 pIx (dLst (dCons (dC .none) (dCons (dLstRg (dB pLen (dCons (dVar 2) dNil))) (dCons (d2 pAdd (d2 pRepT (dTup (dCons (dC (.int 0)) dNil)) (dB pLen (dCons (dVar 2) dNil))) (dTup (dCons (dC (.int 0)) dNil))) (dCons (dTup (dCons (dB pLen (dCons (dVar 2) dNil)) dNil)) dNil))))) (d2 pMod (d2 pIx (dVar 1) (dC (.int 0))) (dC (.int 4))))
      [.dat (encS ns), .dat (.list (ds.map .int)), .dat (encO l), .dat (.list ((expls l).map encI)), .no, .no, .no, .no, .no, .no, .no, .no, .no, .no, .no] = some W ∧ m_explains_story [encO l, W] = some (.bool false) ∧ True := by
    have ix0 := ix_dr hd 0 (by decide) (by decide)
    have h1 := Int.emod_nonneg (dr ds 0) (b := 4) (by decide)
    have h2 := Int.emod_lt_of_pos (dr ds 0) (b := 4) (by decide)
    have e3 : (d2 pAdd (d2 pRepT (dTup (dCons (dC (.int 0)) dNil)) (dB pLen (dCons (dVar 2) dNil))) (dTup (dCons (dC (.int 0)) dNil)))
        [.dat (encS ns), .dat (.list (ds.map .int)), .dat (encO l), .dat (.list ((expls l).map encI)), .no, .no, .no, .no, .no, .no, .no, .no, .no, .no, .no] = some (encI (List.replicate l.length 0 ++ [0])) := by
      have r0 : pRepT (.tuple [.int 0]) (.int (l.length : Nat)) = some (encI (List.replicate l.length 0)) := by
        show (if 0 ≤ ((l.length : Nat) : Int) ∧ ((l.length : Nat) : Int) ≤ 1000 ∧ [PyData.int 0].length ≤ 1000 ∧ [PyData.int 0].length * ((l.length : Nat) : Int).toNat ≤ 65536 then some (PyData.tuple (List.replicate ((l.length : Nat) : Int).toNat [PyData.int 0]).flatten) else none) = _
        rw [if_pos ⟨by omega, by omega, by simp, by simp; omega⟩]
        simp [encI, List.map_replicate]
      simp only [x_d2, x_tup, x_B, x_cons, x_nil, x_C, var_s, var_0, b_some, m_some, hlen, List.length_cons, List.length_nil, Nat.zero_add, Nat.reduceLeDiff, if_true, r0]
      exact add_I _ [0] (by simp; omega)
    have e2 : dLstRg (dB pLen (dCons (dVar 2) dNil)) [.dat (encS ns), .dat (.list (ds.map .int)), .dat (encO l), .dat (.list ((expls l).map encI)), .no, .no, .no, .no, .no, .no, .no, .no, .no, .no, .no] = some (.list ((nums l.length).map .int)) := by
      simp only [x_lstRg, x_B, x_cons, x_nil, var_s, var_0, b_some, m_some, hlen, asI_i]
      rw [if_pos (by omega), m_some, Int.toNat_natCast, rng_nums]
    have key : ∀ W, ([PyData.none, .list ((nums l.length).map .int), encI (List.replicate l.length 0 ++ [0]), encI [(l.length : Int)]])[(dr ds 0 % 4).toNat]? = some W → (d2 pIx (dLst (dCons (dC .none) (dCons (dLstRg (dB pLen (dCons (dVar 2) dNil))) (dCons (d2 pAdd (d2 pRepT (dTup (dCons (dC (.int 0)) dNil)) (dB pLen (dCons (dVar 2) dNil))) (dTup (dCons (dC (.int 0)) dNil))) (dCons (dTup (dCons (dB pLen (dCons (dVar 2) dNil)) dNil)) dNil))))) (d2 pMod (d2 pIx (dVar 1) (dC (.int 0))) (dC (.int 4))))
      [.dat (encS ns), .dat (.list (ds.map .int)), .dat (encO l), .dat (.list ((expls l).map encI)), .no, .no, .no, .no, .no, .no, .no, .no, .no, .no, .no] = some W := fun W hW => by
      rw [x_d2, x_lst, x_cons, x_cons, x_cons, x_cons, e2, e3]
      simp only [x_d2, x_tup, x_B, x_cons, x_nil, x_C, var_s, var_0, b_some, m_some, hlen, List.length_cons, List.length_nil, Nat.zero_add, Nat.reduceAdd, Nat.reduceLeDiff, if_true, ix0]
      rw [p_mod _ _ (by decide), b_some]
      exact ix_nth _ _ _ h1 hW
    have c4 : (dr ds 0 % 4).toNat = 0 ∨ (dr ds 0 % 4).toNat = 1 ∨ (dr ds 0 % 4).toNat = 2 ∨ (dr ds 0 % 4).toNat = 3 := by omega
    rcases c4 with q | q | q | q
    · exact ⟨_, key _ (by rw [q]; rfl), bad_non, trivial⟩
    · exact ⟨_, key _ (by rw [q]; rfl), bad_lst _, trivial⟩
    · exact ⟨_, key _ (by rw [q]; rfl), bad_tup hs _ (by simp; omega) (by simp), trivial⟩
    · refine ⟨_, key _ (by rw [q]; rfl), ?_, trivial⟩
      have hc : Cand (encI [(l.length : Int)]) := by rw [← encI_o]; exact .tup _ (by simp)
      refine (explains_bad hc fun js e hj => ?_).1
      unfold encI at e
      injection e with e
      have : js = [(l.length : Int)] := ((List.map_inj_right (fun _ _ q => by injection q)).mp e).symm
      subst this
      have := hj _ (List.mem_cons_self ..)
      omega
  have L0 := led0 hs bad
  have L1 := led1 (road_bad1 hs (d' := W) bad)
  simp only [m_law, e_fn, b_law]
  refine seq_nx (set_of (d := .list (ds.map .int)) (by simp [er])) (seq_nx (set_of (d := encO l) (by simp [es])) (seq_nx (set_of (d := .list ((expls l).map encI)) (by simp [ev])) (seq_nx (set_of (d := W) hW) (seq_nx (if_no ?_) ?_))))
  · simp only [e_start1, rep_s, rep_0, List.set_cons_succ, List.set_cons_zero, view, List.map_cons, List.map_nil, v_dat, v_no, x_OrT, x_T, x_d2, x_B, x_cons, x_nil, x_C, var_s, var_0, b_some, m_some, L0, L1, ne_order, asB_b]
    rfl
  have hnil := eq_nil_x (expls l)
  by_cases c : expls l = []
  · refine seq_rt (d := .bool true) (if_yes ?_ (ret_of ?_)) rfl
    · rw [c]
      have h0 : pEq (.list []) (.list []) = some (.bool true) := by
        have := eq_nil_x []
        simpa using this
      simp [h0]
    · simp
  obtain ⟨a, ha, xa, ea⟩ := pick c hd 1 (by decide) (by decide)
  obtain ⟨b, hb, xb, eb⟩ := pick c hd 2 (by decide) (by decide)
  obtain ⟨p, r, R⟩ := road_ok hs ha hb
  obtain ⟨n, ln, dn⟩ := R.len
  have na := near_ok hs ha
  have la := law_near_ok hs (expls_perm ha)
  have nn := ne_lli (nearL l a) (nearL l a)
  rw [decide_eq_true rfl] at nn
  have L2 := led1 (road_bad2 hs ha bad)
  obtain ⟨m6, hm6, pm6⟩ := connect hs ha hb
  have n6 : n ≤ 6 := Nat.le_trans (dn.2 _ pm6) hm6
  obtain ⟨c8, c9, c11, c12, e⟩ := lv_out hs dn n6 (.dat (encS ns)) (.dat (.list (ds.map .int))) (.dat (.list ((expls l).map encI))) (.dat W) (.dat (encI a)) (.dat (.list (p.map encI))) .no .no 1000 0 [a] [a] .no .no (Lv.start ha) (Nat.zero_le _) (by omega)
  refine seq_nx (if_no ?_) (seq_nx (set_of (d := encI a) ?_) (seq_nx (set_of (d := encI b) ?_) (seq_nx (if_no ?_) (seq_nx (set_of (d := .list (p.map encI)) ?_) (seq_nx (ρ' := [.dat (encS ns), .dat (.list (ds.map .int)), .dat (encO l), .dat (.list ((expls l).map encI)), .dat W, .dat (encI a), .dat (encI b), .dat (.list (p.map encI)), .dat (.list [encI a]), .dat (.list [encI a]), .dat (.int 0), .no, .no, .no, .no]) ?_ (seq_nx e (seq_nx (if_no ?_) ?_)))))))
  · have he : (expls l).isEmpty = false := by simpa using c
    simp [hnil, he]
  · simp only [e_start1, rep_s, rep_0, List.set_cons_succ, List.set_cons_zero, x_d2, x_B, x_cons, x_nil, x_C, var_s, var_0, b_some, m_some, p_lenL, List.length_map]
    rw [xa]
    exact ea
  · simp only [e_start1, rep_s, rep_0, List.set_cons_succ, List.set_cons_zero, x_d2, x_B, x_cons, x_nil, x_C, var_s, var_0, b_some, m_some, p_lenL, List.length_map]
    rw [xb]
    exact eb
  · simp only [e_start1, rep_s, rep_0, List.set_cons_succ, List.set_cons_zero, view, List.map_cons, List.map_nil, v_dat, v_no, x_OrT, x_T, x_d2, x_B, x_BX, x_cons, x_nil, x_C, var_s, var_0, b_some, m_some, na, la, okD_ok, nn, L2, ne_order, asB_b]
    rfl
  · simp [r]
  · simp
    exact ⟨_, rfl, rfl⟩
  · have f1 := R.first
    have f2 := R.last
    have nea := ne_iT a a
    have neb := ne_iT b b
    have neg : (d1 pNeg (dC (.int 1))) = fun _ => some (.int (-1)) := rfl
    rw [decide_eq_true rfl] at nea neb
    rw [neg]
    simp only [view, List.map_cons, List.map_nil, x_OrT, x_T, x_d2, x_B, x_cons, x_nil, x_C, v_dat, v_no, var_s, var_0, b_some, m_some, p_lenL, List.length_map, ln, p_add, p_nei, f1, f2, nea, neb, asB_b]
    simp
  · refine ret_end ?_
    have rg : pRng [.int 1, .int ((p.length : Nat) : Int)] = some ((List.range (p.length - 1)).map fun i => PyData.int ((1 + i : Nat) : Int)) := pRngN (s := 1) (by decide) (by omega)
    simp only [view, List.map_cons, List.map_nil, x_d2, x_lc, x_Rng, x_B, x_cons, x_nil, x_C, v_dat, v_no, var_s, var_0, b_some, m_some, p_lenL, List.length_map, rg]
    rw [comp1 (fun i : Nat => PyData.int ((1 + i : Nat) : Int)) (fun _ => false) (fun i : Nat => PyData.int ((1 + i : Nat) : Int))]
    · have h0 : pEq (.list []) (.list []) = some (.bool true) := by
        have := eq_nil_x []
        simpa using this
      rw [show (List.range (p.length - 1)).filter (fun _ => false) = [] from List.filter_eq_nil_iff.mpr (by simp)]
      exact h0
    · rfl
    · intro i hi
      have hi := List.mem_range.mp hi
      obtain ⟨u, hu⟩ : ∃ u, p[i]? = some u := ⟨_, List.getElem?_eq_getElem (show i < p.length by omega)⟩
      obtain ⟨v, hv⟩ : ∃ v, p[i + 1]? = some v := ⟨_, List.getElem?_eq_getElem (show i + 1 < p.length by omega)⟩
      have st := R.step hu hv
      have hue : u ∈ expls l := R.mem hs ha i u hu
      have i1 : pIx (.list (p.map encI)) (.int ((1 + i : Nat) : Int)) = some (encI v) := ix_nth _ _ _ (by omega) (by rw [Int.toNat_natCast, List.getElem?_map, show 1 + i = i + 1 by omega, hv]; rfl)
      have i2 : pIx (.list (p.map encI)) (.int (((1 + i : Nat) : Int) - 1)) = some (encI u) := ix_nth _ _ _ (by omega) (by rw [show (((1 + i : Nat) : Int) - 1).toNat = i by omega, List.getElem?_map, hu]; rfl)
      have lu := law_near_ok hs (expls_perm hue)
      have iv := in_lli true v (nearL l u)
      rw [if_pos rfl, decide_eq_true st] at iv
      refine ⟨?_, fun z => by simp at z⟩
      simp only [wD_cons, wD_nil, List.set_cons_succ, List.set_cons_zero, x_T, x_d2, x_B, x_cons, x_nil, x_C, var_s, var_0, b_some, m_some, p_sub, i1, i2, lu, iv, asB_b]
      rfl
end CS
set_option Elab.async false
set_option linter.all false
set_option maxRecDepth 100000
namespace CS
open PySem L2
def top (i : Nat) : Stmt := PySem.Challenge.pw_cellstories_k06_whole_roads.main.body.getD i (.Pass ⟨0, 0, 0, 0⟩)
structure Txt (K : PySem.W.Frag) (mg : Str → Option Value) where
  bool : mg "bool" = none
  enumerate : mg "enumerate" = none
  int : mg "int" = none
  isinstance : mg "isinstance" = none
  len : mg "len" = none
  list : mg "list" = none
  range : mg "range" = none
  set : mg "set" = none
  sorted : mg "sorted" = none
  str : mg "str" = none
  tuple : mg "tuple" = none
  zip : mg "zip" = none
  a_KINDS : Addr
  c_KINDS : mg "KINDS" = some (.ref a_KINDS)
  d_KINDS : ∀ H, Dt K H (.ref a_KINDS) (.tuple [(.str "write"), (.str "read")])
  t_MAX_OPERATIONS : Tok
  c_MAX_OPERATIONS : mg "MAX_OPERATIONS" = some (.int 6 t_MAX_OPERATIONS)
  t_MAX_TIME : Tok
  c_MAX_TIME : mg "MAX_TIME" = some (.int 99 t_MAX_TIME)
  t_MAX_VALUE : Tok
  c_MAX_VALUE : mg "MAX_VALUE" = some (.int 9 t_MAX_VALUE)
  a_in_range : Addr
  fd_in_range : FuncData
  F_in_range : Fun K "in_range" "in_range" (top 9) a_in_range fd_in_range
  b_in_range : Binds K fd_in_range ["value", "low", "high"] []
  g_in_range : mg "in_range" = some (.ref a_in_range)
  a_precedes : Addr
  fd_precedes : FuncData
  F_precedes : Fun K "precedes" "precedes" (top 13) a_precedes fd_precedes
  b_precedes : Binds K fd_precedes ["one", "other"] []
  g_precedes : mg "precedes" = some (.ref a_precedes)
  a_may_follow : Addr
  fd_may_follow : FuncData
  F_may_follow : Fun K "may_follow" "may_follow" (top 14) a_may_follow fd_may_follow
  b_may_follow : Binds K fd_may_follow ["story", "order", "number"] []
  g_may_follow : mg "may_follow" = some (.ref a_may_follow)
  a_explains_story : Addr
  fd_explains_story : FuncData
  F_explains_story : Fun K "explains_story" "explains_story" (top 15) a_explains_story fd_explains_story
  b_explains_story : Binds K fd_explains_story ["story", "value"] []
  g_explains_story : mg "explains_story" = some (.ref a_explains_story)
  a_near_of : Addr
  fd_near_of : FuncData
  F_near_of : Fun K "near_of" "near_of" (top 17) a_near_of fd_near_of
  b_near_of : Binds K fd_near_of ["story", "order"] []
  g_near_of : mg "near_of" = some (.ref a_near_of)
  a_is_operation : Addr
  fd_is_operation : FuncData
  F_is_operation : Fun K "is_operation" "is_operation" (top 10) a_is_operation fd_is_operation
  b_is_operation : Binds K fd_is_operation ["value"] []
  g_is_operation : mg "is_operation" = some (.ref a_is_operation)
  a_is_story : Addr
  fd_is_story : FuncData
  F_is_story : Fun K "is_story" "is_story" (top 11) a_is_story fd_is_story
  b_is_story : Binds K fd_is_story ["value"] []
  g_is_story : mg "is_story" = some (.ref a_is_story)
  a_check_story : Addr
  fd_check_story : FuncData
  F_check_story : Fun K "check_story" "check_story" (top 12) a_check_story fd_check_story
  b_check_story : Binds K fd_check_story ["story"] []
  g_check_story : mg "check_story" = some (.ref a_check_story)
  a_check_order : Addr
  fd_check_order : FuncData
  F_check_order : Fun K "check_order" "check_order" (top 18) a_check_order fd_check_order
  b_check_order : Binds K fd_check_order ["story", "order"] []
  g_check_order : mg "check_order" = some (.ref a_check_order)
  a_near : Addr
  fd_near : FuncData
  F_near : Fun K "near" "near" (top 19) a_near fd_near
  b_near : Binds K fd_near ["story", "order"] []
  g_near : mg "near" = some (.ref a_near)
  a_road : Addr
  fd_road : FuncData
  F_road : Fun K "road" "road" (top 20) a_road fd_road
  b_road : Binds K fd_road ["story", "one", "other"] []
  g_road : mg "road" = some (.ref a_road)
  a__law_cell : Addr
  fd__law_cell : FuncData
  F__law_cell : Fun K "_law_cell" "_law_cell" (top 22) a__law_cell fd__law_cell
  b__law_cell : Binds K fd__law_cell ["_law_script", "_law_k"] []
  g__law_cell : mg "_law_cell" = some (.ref a__law_cell)
  a__law_row : Addr
  fd__law_row : FuncData
  F__law_row : Fun K "_law_row" "_law_row" (top 24) a__law_row fd__law_row
  b__law_row : Binds K fd__law_row ["_law_script", "_law_at"] []
  g__law_row : mg "_law_row" = some (.ref a__law_row)
  a__law_story : Addr
  fd__law_story : FuncData
  F__law_story : Fun K "_law_story" "_law_story" (top 26) a__law_story fd__law_story
  b__law_story : Binds K fd__law_story ["_law_script", "_law_at", "_law_most"] []
  g__law_story : mg "_law_story" = some (.ref a__law_story)
  a__law_every : Addr
  fd__law_every : FuncData
  F__law_every : Fun K "_law_every" "_law_every" (top 28) a__law_every fd__law_every
  b__law_every : Binds K fd__law_every ["_law_story_here"] []
  g__law_every : mg "_law_every" = some (.ref a__law_every)
  a__law_whole : Addr
  fd__law_whole : FuncData
  F__law_whole : Fun K "_law_whole" "_law_whole" (top 23) a__law_whole fd__law_whole
  b__law_whole : Binds K fd__law_whole ["_law_found"] []
  g__law_whole : mg "_law_whole" = some (.ref a__law_whole)
  a__law_in : Addr
  fd__law_in : FuncData
  F__law_in : Fun K "_law_in" "_law_in" (top 25) a__law_in fd__law_in
  b__law_in : Binds K fd__law_in ["_law_thing", "_law_low", "_law_high"] []
  g__law_in : mg "_law_in" = some (.ref a__law_in)
  a__law_explains : Addr
  fd__law_explains : FuncData
  F__law_explains : Fun K "_law_explains" "_law_explains" (top 27) a__law_explains fd__law_explains
  b__law_explains : Binds K fd__law_explains ["_law_story_here", "_law_order"] []
  g__law_explains : mg "_law_explains" = some (.ref a__law_explains)
  a__law_near : Addr
  fd__law_near : FuncData
  F__law_near : Fun K "_law_near" "_law_near" (top 29) a__law_near fd__law_near
  b__law_near : Binds K fd__law_near ["_law_story_here", "_law_order"] []
  g__law_near : mg "_law_near" = some (.ref a__law_near)
  a__law_led : Addr
  fd__law_led : FuncData
  F__law_led : Fun K "_law_led" "_law_led" (top 30) a__law_led fd__law_led
  b__law_led : Binds K fd__law_led ["_law_mode", "_law_story_here", "_law_one", "_law_other"] []
  g__law_led : mg "_law_led" = some (.ref a__law_led)
  a_law : Addr
  fd_law : FuncData
  F_law : Fun K "law" "law" (top 31) a_law fd_law
  b_law : Binds K fd_law ["_law_script"] []
  g_law : mg "law" = some (.ref a_law)
  aC_InvalidStory : Addr
  x_InvalidStory : PySem.W.excIn K aC_InvalidStory [.type "ValueError", .type "Exception", .type "BaseException", .type "object"] "ValueError.__new__" = true
  gC_InvalidStory : mg "InvalidStory" = some (.ref aC_InvalidStory)
  kC_InvalidStory : PySem.W.keepIn K (.ref aC_InvalidStory) = true
  bC_InvalidStory : PySem.W.subIn K (.ref aC_InvalidStory) (.type "BaseException") = some true
  tC_InvalidStory : PySem.W.typeIn K (.ref aC_InvalidStory) = some (.type "type")
  aC_InvalidOrder : Addr
  x_InvalidOrder : PySem.W.excIn K aC_InvalidOrder [.type "ValueError", .type "Exception", .type "BaseException", .type "object"] "ValueError.__new__" = true
  gC_InvalidOrder : mg "InvalidOrder" = some (.ref aC_InvalidOrder)
  kC_InvalidOrder : PySem.W.keepIn K (.ref aC_InvalidOrder) = true
  bC_InvalidOrder : PySem.W.subIn K (.ref aC_InvalidOrder) (.type "BaseException") = some true
  tC_InvalidOrder : PySem.W.typeIn K (.ref aC_InvalidOrder) = some (.type "type")
  aC_StoryError : Addr
  gC_StoryError : mg "StoryError" = some (.ref aC_StoryError)
  ec_InvalidOrder : ExcC K aC_InvalidOrder
  ex_InvalidOrder : PySem.W.exmOne K (.ref aC_InvalidOrder) (.ref aC_InvalidOrder) = some true
  kit_InvalidOrder_InvalidStory : PySem.W.kitOne K (.ref aC_InvalidOrder) (.ref aC_InvalidStory) = some false
  kit_InvalidOrder_StoryError : PySem.W.kitOne K (.ref aC_InvalidOrder) (.ref aC_StoryError) = some true
def clT {K mg} (T : Txt K mg) : Nat → Value
  | 0 => .ref T.aC_InvalidStory
  | 6 => .ref T.aC_InvalidOrder
  | _ => .none
section
variable {P : Program} {w : World} {K : PySem.W.Frag} {mg : Str → Option Value} {base : Heap}
abbrev s_in_range : Stmt := top 9
abbrev N_in_range : List Str := ["value", "low", "high"]
theorem sc_in_range : FnScope N_in_range ["value", "low", "high"] (defScope s_in_range) := ⟨rfl, rfl, rfl, by decide +kernel, rfl, by decide +kernel, by decide +kernel⟩
set_option maxHeartbeats 4000000 in
theorem ok_in_range (T : Txt K mg) : FnOk P w K mg base CX0 1 T.a_in_range T.fd_in_range ["value", "low", "high"] (spD K m_in_range 3) := by
  refine T.F_in_range.ok sc_in_range (fun vs H Q E h => h.1) (fun cdv A outer s H vs Q E hr h => ?_)
  refine ⟨_, (pss_one (ps_ret (pe_and (pe_callB call_isi (by rfl) T.isinstance boot_isinstance (pa_cons (pv 0) (pa_cons (pe_bltn (v := .ty "int") (u := .type "int") (by rfl) T.int boot_int (by rfl)) pa_nil))) (pe_and (pe_notT (pe_callB call_isi (by rfl) T.isinstance boot_isinstance (pa_cons (pv 0) (pa_cons (pe_bltn (v := .ty "bool") (u := .type "bool") (by rfl) T.bool boot_bool (by rfl)) pa_nil)))) (pe_one (pe_chain op_le op_le (pv 1) (pv 0) (pv 2))))))), ?_⟩
  refine body_run (cl := fun _ => .none) (F := b_in_range) (m := m_in_range) (k := 3) ?_ (fun _ => ?_) h
  · exact (s_ret (ev_and (ev_isi isiK_int (ev_var 0)) (ev_and (ev_not (ev_isi isiK_bool (ev_var 0))) (ev_chain (e2_cmp _) (e2_cmp _) (ev_var 1) (ev_var 0) (ev_var 2)))))
  · rfl
abbrev s_precedes : Stmt := top 13
abbrev N_precedes : List Str := ["one", "other"]
theorem sc_precedes : FnScope N_precedes ["one", "other"] (defScope s_precedes) := ⟨rfl, rfl, rfl, by decide +kernel, rfl, by decide +kernel, by decide +kernel⟩
set_option maxHeartbeats 4000000 in
theorem ok_precedes (T : Txt K mg) : FnOk P w K mg base CX0 1 T.a_precedes T.fd_precedes ["one", "other"] (spD K m_precedes 2) := by
  refine T.F_precedes.ok sc_precedes (fun vs H Q E h => h.1) (fun cdv A outer s H vs Q E hr h => ?_)
  refine ⟨_, (pss_one (ps_ret (pe_cmpR op_lt (pe_ix ix_seq (pv 0) pe_int (by exact fun _ _ => rfl)) (pe_ix ix_seq (pv 1) pe_int (by exact fun _ _ => rfl)) (nomark _)))), ?_⟩
  refine body_run (cl := fun _ => .none) (F := b_precedes) (m := m_precedes) (k := 2) ?_ (fun _ => ?_) h
  · exact (s_ret (ev_op (e2_cmp _) (ev_op e2_ix (ev_var 0) (ev_int 3)) (ev_op e2_ix (ev_var 1) (ev_int 2))))
  · rfl
abbrev s_may_follow : Stmt := top 14
abbrev N_may_follow : List Str := ["story", "order", "number", "left", "written", "other", "one"]
theorem sc_may_follow : FnScope N_may_follow ["story", "order", "number"] (defScope s_may_follow) := ⟨rfl, rfl, rfl, by decide +kernel, rfl, by decide +kernel, by decide +kernel⟩
set_option maxHeartbeats 4000000 in
theorem ok_may_follow (T : Txt K mg) : FnOk P w K mg base CX0 2 T.a_may_follow T.fd_may_follow ["story", "order", "number"] (spD K m_may_follow 3) := by
  refine T.F_may_follow.ok sc_may_follow (fun vs H Q E h => h.1) (fun cdv A outer s H vs Q E hr h => ?_)
  refine ⟨_, (pss_cons (ps_setLc (i := 3) (own := [("other", 5), ("one", 6)]) (g := (gTup K 2 (gNames [5, 6]))) (tt := (tTest (tOp (rInA K true) (tVar 5) (tVar 1)))) (te := (tVar 6)) (by rfl) sc_may_follow.nd (by rfl) (by rfl) (sw_true (by rfl) (by rfl) (by rfl) (by decide +kernel)) (pi_enumA (by rfl) T.enumerate (pa_cons (pv 0) pa_nil)) (blkOk_by (N := N_may_follow) (sc := defScope s_may_follow) (by decide +kernel)) (fun _ _ _ _ _ => (pg_tup (by rfl) (pgs_cons (pg_name (i := 5) sc_may_follow.nd (by rfl) (by first | exact Or.inl rfl | exact Or.inr rfl)) (pgs_cons (pg_name (i := 6) sc_may_follow.nd (by rfl) (by first | exact Or.inl rfl | exact Or.inr rfl)) pgs_nil)))) (fun _ _ _ _ _ => (pts_one (pt_cmpR (op_notInA (hu65 hr)) (pv 5) (pv 1) (by rfl)))) (fun _ _ _ _ _ => (pv 6)))
      (pss_cons (ps_if (pt_truth (pe_lc (own := [("one", 6)]) (g := (gName 6)) (tt := (tTruD K (tCall (spD K m_precedes 2) [] E0 (tCons (tVar 6) (tCons (tOp (rIx K) (tVar 0) (tVar 2)) tNil))))) (te := (tVar 6)) (by rfl) sc_may_follow.nd (pi_or (pi_list (pv 3)) (pi_tup (pv 3))) (blkOk_by (N := N_may_follow) (sc := defScope s_may_follow) (by decide +kernel)) (fun _ _ _ _ _ => (pg_name (i := 6) sc_may_follow.nd (by rfl) (by first | exact Or.inl rfl | exact Or.inr rfl))) (fun _ _ _ _ _ => (pts_one (pt_truth (pe_call (ok_precedes T) (hr.mono (by decide)) (by rfl) T.g_precedes T.F_precedes.kp T.b_precedes .nil pass0 (pa_cons (pv 6) (pa_cons (pe_ix ix_seq (pv 0) (pv 2) (by exact fun _ _ => rfl)) pa_nil))) (by intro _; rfl)))) (fun _ _ _ _ _ => (pv 6))) (by intro _; rfl)) (pss_one (ps_ret pe_bl)) pss_nil)
      (pss_cons (ps_setLc (i := 4) (own := [("other", 5)]) (g := (gName 5)) (tt := (tTest (tOp (rEqD K) (tOp (rIx K) (tOp (rIx K) (tVar 0) (tVar 5)) (tC (.int 0))) (tC (.str "write"))))) (te := (tOp (rIx K) (tOp (rIx K) (tVar 0) (tVar 5)) (tC (.int 1)))) (by rfl) sc_may_follow.nd (by rfl) (by rfl) (sw_true (by rfl) (by rfl) (by rfl) (by decide +kernel)) (pi_or (pi_list (pv 1)) (pi_tup (pv 1))) (blkOk_by (N := N_may_follow) (sc := defScope s_may_follow) (by decide +kernel)) (fun _ _ _ _ _ => (pg_name (i := 5) sc_may_follow.nd (by rfl) (by first | exact Or.inl rfl | exact Or.inr rfl))) (fun _ _ _ _ _ => (pts_one (pt_cmpR (op_eqD hr.units) (pe_ix ix_seq (pe_ix ix_seq (pv 0) (pv 5) (by exact fun _ _ => rfl)) pe_int (by exact fun _ _ => rfl)) pe_str (nomark _)))) (fun _ _ _ _ _ => (pe_ix ix_seq (pe_ix ix_seq (pv 0) (pv 5) (by exact fun _ _ => rfl)) pe_int (by exact fun _ _ => rfl))))
      (pss_one (ps_ret (pe_or (pe_cmpR (op_eqD hr.units) (pe_ix ix_seq (pe_ix ix_seq (pv 0) (pv 2) (by exact fun _ _ => rfl)) pe_int (by exact fun _ _ => rfl)) pe_str (nomark _)) (pe_one (pe_cmpR (op_eqD hr.units) (pe_ix ix_seq (pe_ix ix_seq (pv 0) (pv 2) (by exact fun _ _ => rfl)) pe_int (by exact fun _ _ => rfl)) (pe_ifExp (pt_truth (pv 4) (by intro _; rfl)) (pe_ix ix_seq (pv 4) (pe_un un_neg pe_int) (by exact fun _ _ => rfl)) pe_int) (nomark _))))))))), ?_⟩
  refine body_run (cl := fun _ => .none) (F := b_may_follow) (m := m_may_follow) (k := 3) ?_ (fun _ => ?_) h
  · exact (s_seq (s_set (ev_lc (evi_enum (ev_var 0)) (evg_tup [5, 6] 2 rfl) (ev_tTest (ev_op (e2_in true) (ev_var 5) (ev_var 1))) (ev_var 6)))
      (s_seq (s_if (ev_tru (ev_lc (evi_seq (ev_var 3)) (evg_name 6) (ev_tru (ev_call (ev_cons (ev_var 6) (ev_cons (ev_op e2_ix (ev_var 0) (ev_var 2)) ev_nil)) (dCons_len (dCons_len dNil_len)))) (ev_var 6))) (s_ret (ev_bl false)) s_next)
      (s_seq (s_set (ev_lc (evi_seq (ev_var 1)) (evg_name 5) (ev_tTest (ev_op e2_eq (ev_op e2_ix (ev_op e2_ix (ev_var 0) (ev_var 5)) (ev_int 0)) (ev_str "write" (by decide +kernel)))) (ev_op e2_ix (ev_op e2_ix (ev_var 0) (ev_var 5)) (ev_int 1))))
      (s_ret (ev_or (ev_op e2_eq (ev_op e2_ix (ev_op e2_ix (ev_var 0) (ev_var 2)) (ev_int 0)) (ev_str "write" (by decide +kernel))) (ev_op e2_eq (ev_op e2_ix (ev_op e2_ix (ev_var 0) (ev_var 2)) (ev_int 1)) (ev_if (ev_tru (ev_var 4)) (ev_op e2_ix (ev_var 4) (ev_un e1_neg (ev_int 1))) (ev_int 0))))))))
  · rfl
abbrev s_explains_story : Stmt := top 15
abbrev N_explains_story : List Str := ["story", "value", "one", "place", "number"]
theorem sc_explains_story : FnScope N_explains_story ["story", "value"] (defScope s_explains_story) := ⟨rfl, rfl, rfl, by decide +kernel, rfl, by decide +kernel, by decide +kernel⟩
set_option maxHeartbeats 4000000 in
theorem ok_explains_story (T : Txt K mg) : FnOk P w K mg base CX0 3 T.a_explains_story T.fd_explains_story ["story", "value"] (spD K m_explains_story 2) := by
  refine T.F_explains_story.ok sc_explains_story (fun vs H Q E h => h.1) (fun cdv A outer s H vs Q E hr h => ?_)
  refine ⟨_, (pss_cons (ps_if (PW.pt (pw_or (pt_not (pt_truth (pe_callB call_isi (by rfl) T.isinstance boot_isinstance (pa_cons (pv 1) (pa_cons (pe_bltn (v := .ty "tuple") (u := .type "tuple") (by rfl) T.tuple boot_tuple (by rfl)) pa_nil))) (by intro _; rfl))) (pw_or1 (pt_truth (pe_lc (own := [("one", 2)]) (g := (gName 2)) (tt := (tNot (tTruD K (tCall (spD K m_in_range 3) [] E0 (tCons (tVar 2) (tCons (tC (.int 0)) (tCons (tOp rSubD (tCB (rLenD K) (tCons (tVar 0) tNil)) (tC (.int 1))) tNil))))))) (te := (tVar 2)) (by rfl) sc_explains_story.nd (pi_or (pi_list (pv 1)) (pi_tup (pv 1))) (blkOk_by (N := N_explains_story) (sc := defScope s_explains_story) (by decide +kernel)) (fun _ _ _ _ _ => (pg_name (i := 2) sc_explains_story.nd (by rfl) (by first | exact Or.inl rfl | exact Or.inr rfl))) (fun _ _ _ _ _ => (pts_one (pt_not (pt_truth (pe_call (ok_in_range T) (hr.mono (by decide)) (by rfl) T.g_in_range T.F_in_range.kp T.b_in_range .nil pass0 (pa_cons (pv 2) (pa_cons pe_int (pa_cons (pe_op op_sub (pe_callB call_len (by rfl) T.len boot_len (pa_cons (pv 0) pa_nil)) pe_int) pa_nil)))) (by intro _; rfl))))) (fun _ _ _ _ _ => (pv 2))) (by intro _; rfl))))) (pss_one (ps_ret pe_bl)) pss_nil)
      (pss_cons (ps_if (pt_cmpR (op_neD hr.units) (pe_callB (cr_sortD hr) (by rfl) T.sorted boot_sorted (pa_cons (pv 1) pa_nil)) (pe_listRg (by rfl) (by rfl) T.list (prg_1 (by rfl) T.range (pe_callB call_len (by rfl) T.len boot_len (pa_cons (pv 0) pa_nil)))) (nomark _)) (pss_one (ps_ret pe_bl)) pss_nil)
      (pss_one (ps_ret (pe_notT (pe_lc (own := [("place", 3), ("number", 4)]) (g := (gTup K 2 (gNames [3, 4]))) (tt := (tNot (tTruD K (tCall (spD K m_may_follow 3) [] E0 (tCons (tVar 0) (tCons (tSl (rSlD K) (tVar 1) tNoPart (tPart (tVar 3))) (tCons (tVar 4) tNil))))))) (te := (tC (.int 1))) (by rfl) sc_explains_story.nd (pi_enumA (by rfl) T.enumerate (pa_cons (pv 1) pa_nil)) (blkOk_by (N := N_explains_story) (sc := defScope s_explains_story) (by decide +kernel)) (fun _ _ _ _ _ => (pg_tup (by rfl) (pgs_cons (pg_name (i := 3) sc_explains_story.nd (by rfl) (by first | exact Or.inl rfl | exact Or.inr rfl)) (pgs_cons (pg_name (i := 4) sc_explains_story.nd (by rfl) (by first | exact Or.inl rfl | exact Or.inr rfl)) pgs_nil)))) (fun _ _ _ _ _ => (pts_one (pt_not (pt_truth (pe_call (ok_may_follow T) (hr.mono (by decide)) (by rfl) T.g_may_follow T.F_may_follow.kp T.b_may_follow .nil pass0 (pa_cons (pv 0) (pa_cons (pe_slice slAll (pv 1) po_none (po_some (pv 3))) (pa_cons (pv 4) pa_nil)))) (by intro _; rfl))))) (fun _ _ _ _ _ => pe_int))))))), ?_⟩
  refine body_run (cl := fun _ => .none) (F := b_explains_story) (m := m_explains_story) (k := 2) ?_ (fun _ => ?_) h
  · exact (s_seq (s_if (ev_tOr (ev_tNot (ev_tru (ev_isi isiK_tuple (ev_var 1)))) (ev_tru (ev_lc (evi_seq (ev_var 1)) (evg_name 2) (ev_tNot (ev_tru (ev_call (ev_cons (ev_var 2) (ev_cons (ev_int 0) (ev_cons (ev_op e2_sub (ev_B evl_len (ev_cons (ev_var 0) ev_nil)) (ev_int 1)) ev_nil))) (dCons_len (dCons_len (dCons_len dNil_len)))))) (ev_var 2)))) (s_ret (ev_bl false)) s_next)
      (s_seq (s_if (ev_tTest (ev_op e2_ne (ev_B evl_sort (ev_cons (ev_var 1) ev_nil)) (ev_listRg (ev_B evl_len (ev_cons (ev_var 0) ev_nil))))) (s_ret (ev_bl false)) s_next)
      (s_ret (ev_not (ev_lc (evi_enum (ev_var 1)) (evg_tup [3, 4] 2 rfl) (ev_tNot (ev_tru (ev_call (ev_cons (ev_var 0) (ev_cons (ev_sl (ev_var 1) ev_noPart (ev_part (ev_var 3))) (ev_cons (ev_var 4) ev_nil))) (dCons_len (dCons_len (dCons_len dNil_len)))))) (ev_int 1))))))
  · rfl
abbrev s_near_of : Stmt := top 17
abbrev N_near_of : List Str := ["story", "order", "found", "first", "middle", "last", "more"]
theorem sc_near_of : FnScope N_near_of ["story", "order"] (defScope s_near_of) := ⟨rfl, rfl, rfl, by decide +kernel, rfl, by decide +kernel, by decide +kernel⟩
set_option maxHeartbeats 4000000 in
theorem ok_near_of (T : Txt K mg) : FnOk P w K mg base CX0 4 T.a_near_of T.fd_near_of ["story", "order"] (spD K m_near_of 2) := by
  refine T.F_near_of.ok sc_near_of (fun vs H Q E h => h.1) (fun cdv A outer s H vs Q E hr h => ?_)
  refine ⟨_, (pss_cons (ps_set (i := 2) sc_near_of.nd (by rfl) (by first | exact Or.inl rfl | exact Or.inr rfl) pe_dnewI)
      (pss_cons (ps_for PassesOwn.never (by rfl) (pi_range1 (by rfl) T.range (pa_cons (pe_callB call_len (by rfl) T.len boot_len (pa_cons (pv 1) pa_nil)) pa_nil)) (pg_name (i := 3) sc_near_of.nd (by rfl) (by first | exact Or.inl rfl | exact Or.inr rfl)) (pss_one (ps_for PassesOwn.never (by rfl) (pi_range2 (by rfl) T.range (pa_cons (pe_op opAdd (pv 3) pe_int) (pa_cons (pe_callB call_len (by rfl) T.len boot_len (pa_cons (pv 1) pa_nil)) pa_nil))) (pg_name (i := 4) sc_near_of.nd (by rfl) (by first | exact Or.inl rfl | exact Or.inr rfl)) (pss_one (ps_for PassesOwn.never (by rfl) (pi_range2 (by rfl) T.range (pa_cons (pe_op opAdd (pv 4) pe_int) (pa_cons (pe_op opAdd (pe_callB call_len (by rfl) T.len boot_len (pa_cons (pv 1) pa_nil)) pe_int) pa_nil))) (pg_name (i := 5) sc_near_of.nd (by rfl) (by first | exact Or.inl rfl | exact Or.inr rfl)) (pss_cons (ps_set (i := 6) sc_near_of.nd (by rfl) (by first | exact Or.inl rfl | exact Or.inr rfl) (pe_op opAdd (pe_op opAdd (pe_op opAdd (pe_slice slAll (pv 1) po_none (po_some (pv 3))) (pe_slice slAll (pv 1) (po_some (pv 4)) (po_some (pv 5)))) (pe_slice slAll (pv 1) (po_some (pv 3)) (po_some (pv 4)))) (pe_slice slAll (pv 1) (po_some (pv 5)) po_none)))
      (pss_one (ps_if (pt_truth (pe_call (ok_explains_story T) (hr.mono (by decide)) (by rfl) T.g_explains_story T.F_explains_story.kp T.b_explains_story .nil pass0 (pa_cons (pv 0) (pa_cons (pv 6) pa_nil))) (by intro _; rfl)) (pss_one (ps_dputI (hu_of hr) (pv 2) (pv 6) pe_bl (by rfl))) pss_nil))))))))
      (pss_one (ps_ret (pe_callB (cr_sortDc rfl) (by rfl) T.sorted boot_sorted (pa_cons (pv 2) pa_nil)))))), ?_⟩
  refine body_run (cl := fun _ => .none) (F := b_near_of) (m := m_near_of) (k := 2) ?_ (fun _ => ?_) h
  · exact (s_seq s_dnew
      (s_seq (s_for (evi_rng1 (ev_cons (ev_B evl_len (ev_cons (ev_var 1) ev_nil)) ev_nil)) (evg_name 3) (s_for (evi_rng2 (ev_cons (ev_op e2_add (ev_var 3) (ev_int 1)) (ev_cons (ev_B evl_len (ev_cons (ev_var 1) ev_nil)) ev_nil))) (evg_name 4) (s_for (evi_rng2 (ev_cons (ev_op e2_add (ev_var 4) (ev_int 1)) (ev_cons (ev_op e2_add (ev_B evl_len (ev_cons (ev_var 1) ev_nil)) (ev_int 1)) ev_nil))) (evg_name 5) (s_seq (s_set (ev_op e2_add (ev_op e2_add (ev_op e2_add (ev_sl (ev_var 1) ev_noPart (ev_part (ev_var 3))) (ev_sl (ev_var 1) (ev_part (ev_var 4)) (ev_part (ev_var 5)))) (ev_sl (ev_var 1) (ev_part (ev_var 3)) (ev_part (ev_var 4)))) (ev_sl (ev_var 1) (ev_part (ev_var 5)) ev_noPart)))
      (s_if (ev_tru (ev_call (ev_cons (ev_var 0) (ev_cons (ev_var 6) ev_nil)) (dCons_len (dCons_len dNil_len)))) (s_dputK (ev_var 6) (ev_bl true)) s_next)))))
      (s_ret ev_sortDc)))
  · rfl
abbrev s_is_operation : Stmt := top 10
abbrev N_is_operation : List Str := ["value"]
theorem sc_is_operation : FnScope N_is_operation ["value"] (defScope s_is_operation) := ⟨rfl, rfl, rfl, by decide +kernel, rfl, by decide +kernel, by decide +kernel⟩
set_option maxHeartbeats 4000000 in
theorem ok_is_operation (T : Txt K mg) : FnOk P w K mg base CX0 2 T.a_is_operation T.fd_is_operation ["value"] (spD K m_is_operation 1) := by
  refine T.F_is_operation.ok sc_is_operation (fun vs H Q E h => h.1) (fun cdv A outer s H vs Q E hr h => ?_)
  refine ⟨_, (pss_cons (ps_if (PW.pt (pw_or (pt_not (pt_truth (pe_callB call_isi (by rfl) T.isinstance boot_isinstance (pa_cons (pv 0) (pa_cons (pe_bltn (v := .ty "tuple") (u := .type "tuple") (by rfl) T.tuple boot_tuple (by rfl)) pa_nil))) (by intro _; rfl))) (pw_or (pt_cmpR (op_neD hr.units) (pe_callB call_len (by rfl) T.len boot_len (pa_cons (pv 0) pa_nil)) pe_int (nomark _)) (pw_or (pt_not (pt_truth (pe_callB call_isi (by rfl) T.isinstance boot_isinstance (pa_cons (pe_ix ix_seq (pv 0) pe_int (by exact fun _ _ => rfl)) (pa_cons (pe_bltn (v := .ty "str") (u := .type "str") (by rfl) T.str boot_str (by rfl)) pa_nil))) (by intro _; rfl))) (pw_or1 (pt_cmpR (op_notInA (hu65 hr)) (pe_ix ix_seq (pv 0) pe_int (by exact fun _ _ => rfl)) (pe_glob (v := .ref T.a_KINDS) (by rfl) T.c_KINDS (by rfl)) (by rfl))))))) (pss_one (ps_ret pe_bl)) pss_nil)
      (pss_cons (ps_if (pt_not (pt_truth (pe_call (ok_in_range T) (hr.mono (by decide)) (by rfl) T.g_in_range T.F_in_range.kp T.b_in_range .nil pass0 (pa_cons (pe_ix ix_seq (pv 0) pe_int (by exact fun _ _ => rfl)) (pa_cons (pe_ifExp (pt_cmpR (op_eqD hr.units) (pe_ix ix_seq (pv 0) pe_int (by exact fun _ _ => rfl)) pe_str (nomark _)) pe_int pe_int) (pa_cons (pe_glob (v := .int 9) (by rfl) T.c_MAX_VALUE ⟨_, rfl⟩) pa_nil)))) (by intro _; rfl))) (pss_one (ps_ret pe_bl)) pss_nil)
      (pss_one (ps_ret (pe_and (pe_call (ok_in_range T) (hr.mono (by decide)) (by rfl) T.g_in_range T.F_in_range.kp T.b_in_range .nil pass0 (pa_cons (pe_ix ix_seq (pv 0) pe_int (by exact fun _ _ => rfl)) (pa_cons pe_int (pa_cons (pe_glob (v := .int 99) (by rfl) T.c_MAX_TIME ⟨_, rfl⟩) pa_nil)))) (pe_one (pe_call (ok_in_range T) (hr.mono (by decide)) (by rfl) T.g_in_range T.F_in_range.kp T.b_in_range .nil pass0 (pa_cons (pe_ix ix_seq (pv 0) pe_int (by exact fun _ _ => rfl)) (pa_cons (pe_op opAdd (pe_ix ix_seq (pv 0) pe_int (by exact fun _ _ => rfl)) pe_int) (pa_cons (pe_glob (v := .int 99) (by rfl) T.c_MAX_TIME ⟨_, rfl⟩) pa_nil)))))))))), ?_⟩
  refine body_run (cl := fun _ => .none) (F := b_is_operation) (m := m_is_operation) (k := 1) ?_ (fun _ => ?_) h
  · exact (s_seq (s_if (ev_tOr (ev_tNot (ev_tru (ev_isi isiK_tuple (ev_var 0)))) (ev_tOr (ev_tTest (ev_op e2_ne (ev_B evl_len (ev_cons (ev_var 0) ev_nil)) (ev_int 4))) (ev_tOr (ev_tNot (ev_tru (ev_isi isiK_str (ev_op e2_ix (ev_var 0) (ev_int 0))))) (ev_tTest (ev_op (e2_in true) (ev_op e2_ix (ev_var 0) (ev_int 0)) (ev_C T.d_KINDS)))))) (s_ret (ev_bl false)) s_next)
      (s_seq (s_if (ev_tNot (ev_tru (ev_call (ev_cons (ev_op e2_ix (ev_var 0) (ev_int 1)) (ev_cons (ev_if (ev_tTest (ev_op e2_eq (ev_op e2_ix (ev_var 0) (ev_int 0)) (ev_str "read" (by decide +kernel)))) (ev_int 0) (ev_int 1)) (ev_cons (ev_int 9) ev_nil))) (dCons_len (dCons_len (dCons_len dNil_len)))))) (s_ret (ev_bl false)) s_next)
      (s_ret (ev_and (ev_call (ev_cons (ev_op e2_ix (ev_var 0) (ev_int 2)) (ev_cons (ev_int 0) (ev_cons (ev_int 99) ev_nil))) (dCons_len (dCons_len (dCons_len dNil_len)))) (ev_call (ev_cons (ev_op e2_ix (ev_var 0) (ev_int 3)) (ev_cons (ev_op e2_add (ev_op e2_ix (ev_var 0) (ev_int 2)) (ev_int 1)) (ev_cons (ev_int 99) ev_nil))) (dCons_len (dCons_len (dCons_len dNil_len))))))))
  · rfl
abbrev s_is_story : Stmt := top 11
abbrev N_is_story : List Str := ["value", "times", "written", "one", "following"]
theorem sc_is_story : FnScope N_is_story ["value"] (defScope s_is_story) := ⟨rfl, rfl, rfl, by decide +kernel, rfl, by decide +kernel, by decide +kernel⟩
set_option maxHeartbeats 4000000 in
theorem ok_is_story (T : Txt K mg) : FnOk P w K mg base CX0 3 T.a_is_story T.fd_is_story ["value"] (spD K m_is_story 1) := by
  refine T.F_is_story.ok sc_is_story (fun vs H Q E h => h.1) (fun cdv A outer s H vs Q E hr h => ?_)
  refine ⟨_, (pss_cons (ps_if (PW.pt (pw_or (pt_not (pt_truth (pe_callB call_isi (by rfl) T.isinstance boot_isinstance (pa_cons (pv 0) (pa_cons (pe_bltn (v := .ty "tuple") (u := .type "tuple") (by rfl) T.tuple boot_tuple (by rfl)) pa_nil))) (by intro _; rfl))) (pw_or1 (pt_cmpR op_gt (pe_callB call_len (by rfl) T.len boot_len (pa_cons (pv 0) pa_nil)) (pe_glob (v := .int 6) (by rfl) T.c_MAX_OPERATIONS ⟨_, rfl⟩) (nomark _))))) (pss_one (ps_ret pe_bl)) pss_nil)
      (pss_cons (ps_if (pt_truth (pe_lc (own := [("one", 3)]) (g := (gName 3)) (tt := (tNot (tTruD K (tCall (spD K m_is_operation 1) [] E0 (tCons (tVar 3) tNil))))) (te := (tVar 3)) (by rfl) sc_is_story.nd (pi_or (pi_list (pv 0)) (pi_tup (pv 0))) (blkOk_by (N := N_is_story) (sc := defScope s_is_story) (by decide +kernel)) (fun _ _ _ _ _ => (pg_name (i := 3) sc_is_story.nd (by rfl) (by first | exact Or.inl rfl | exact Or.inr rfl))) (fun _ _ _ _ _ => (pts_one (pt_not (pt_truth (pe_call (ok_is_operation T) (hr.mono (by decide)) (by rfl) T.g_is_operation T.F_is_operation.kp T.b_is_operation .nil pass0 (pa_cons (pv 3) pa_nil)) (by intro _; rfl))))) (fun _ _ _ _ _ => (pv 3))) (by intro _; rfl)) (pss_one (ps_ret pe_bl)) pss_nil)
      (pss_cons (ps_if (pt_truth (pe_lc (own := [("one", 3), ("following", 4)]) (g := (gTup K 2 (gNames [3, 4]))) (tt := (tTest (tOp rGeD (tOp (rIx K) (tVar 3) (tC (.int 2))) (tOp (rIx K) (tVar 4) (tC (.int 2)))))) (te := (tC (.int 1))) (by rfl) sc_is_story.nd (RZ.pi_zipA (by rfl) T.zip (pa_cons (pv 0) (pa_cons (pe_slice slAll (pv 0) (po_some pe_int) po_none) pa_nil))) (blkOk_by (N := N_is_story) (sc := defScope s_is_story) (by decide +kernel)) (fun _ _ _ _ _ => (pg_tup (by rfl) (pgs_cons (pg_name (i := 3) sc_is_story.nd (by rfl) (by first | exact Or.inl rfl | exact Or.inr rfl)) (pgs_cons (pg_name (i := 4) sc_is_story.nd (by rfl) (by first | exact Or.inl rfl | exact Or.inr rfl)) pgs_nil)))) (fun _ _ _ _ _ => (pts_one (pt_cmpR op_ge (pe_ix ix_seq (pv 3) pe_int (by exact fun _ _ => rfl)) (pe_ix ix_seq (pv 4) pe_int (by exact fun _ _ => rfl)) (nomark _)))) (fun _ _ _ _ _ => pe_int)) (by intro _; rfl)) (pss_one (ps_ret pe_bl)) pss_nil)
      (pss_cons (ps_set (i := 1) sc_is_story.nd (by rfl) (by first | exact Or.inl rfl | exact Or.inr rfl) (pe_op opAdd (pe_lc (own := [("one", 3)]) (g := (gName 3)) (tt := tYes) (te := (tOp (rIx K) (tVar 3) (tC (.int 2)))) (by rfl) sc_is_story.nd (pi_or (pi_list (pv 0)) (pi_tup (pv 0))) (blkOk_by (N := N_is_story) (sc := defScope s_is_story) (by decide +kernel)) (fun _ _ _ _ _ => (pg_name (i := 3) sc_is_story.nd (by rfl) (by first | exact Or.inl rfl | exact Or.inr rfl))) (fun _ _ _ _ _ => pts_nil) (fun _ _ _ _ _ => (pe_ix ix_seq (pv 3) pe_int (by exact fun _ _ => rfl)))) (pe_lc (own := [("one", 3)]) (g := (gName 3)) (tt := tYes) (te := (tOp (rIx K) (tVar 3) (tC (.int 3)))) (by rfl) sc_is_story.nd (pi_or (pi_list (pv 0)) (pi_tup (pv 0))) (blkOk_by (N := N_is_story) (sc := defScope s_is_story) (by decide +kernel)) (fun _ _ _ _ _ => (pg_name (i := 3) sc_is_story.nd (by rfl) (by first | exact Or.inl rfl | exact Or.inr rfl))) (fun _ _ _ _ _ => pts_nil) (fun _ _ _ _ _ => (pe_ix ix_seq (pv 3) pe_int (by exact fun _ _ => rfl))))))
      (pss_cons (ps_setLc (i := 2) (own := [("one", 3)]) (g := (gName 3)) (tt := (tTest (tOp (rEqD K) (tOp (rIx K) (tVar 3) (tC (.int 0))) (tC (.str "write"))))) (te := (tOp (rIx K) (tVar 3) (tC (.int 1)))) (by rfl) sc_is_story.nd (by rfl) (by rfl) (sw_true (by rfl) (by rfl) (by rfl) (by decide +kernel)) (pi_or (pi_list (pv 0)) (pi_tup (pv 0))) (blkOk_by (N := N_is_story) (sc := defScope s_is_story) (by decide +kernel)) (fun _ _ _ _ _ => (pg_name (i := 3) sc_is_story.nd (by rfl) (by first | exact Or.inl rfl | exact Or.inr rfl))) (fun _ _ _ _ _ => (pts_one (pt_cmpR (op_eqD hr.units) (pe_ix ix_seq (pv 3) pe_int (by exact fun _ _ => rfl)) pe_str (nomark _)))) (fun _ _ _ _ _ => (pe_ix ix_seq (pv 3) pe_int (by exact fun _ _ => rfl))))
      (pss_one (ps_ret (pe_and (pe_cmpR (op_eqD hr.units) (pe_lenSetD (by rfl) T.len (by rfl) T.set (pv 1)) (pe_callB call_len (by rfl) T.len boot_len (pa_cons (pv 1) pa_nil)) (nomark _)) (pe_one (pe_cmpR (op_eqD hr.units) (pe_lenSetD (by rfl) T.len (by rfl) T.set (pv 2)) (pe_callB call_len (by rfl) T.len boot_len (pa_cons (pv 2) pa_nil)) (nomark _))))))))))), ?_⟩
  refine body_run (cl := fun _ => .none) (F := b_is_story) (m := m_is_story) (k := 1) ?_ (fun _ => ?_) h
  · exact (s_seq (s_if (ev_tOr (ev_tNot (ev_tru (ev_isi isiK_tuple (ev_var 0)))) (ev_tTest (ev_op (e2_cmp _) (ev_B evl_len (ev_cons (ev_var 0) ev_nil)) (ev_int 6)))) (s_ret (ev_bl false)) s_next)
      (s_seq (s_if (ev_tru (ev_lc (evi_seq (ev_var 0)) (evg_name 3) (ev_tNot (ev_tru (ev_call (ev_cons (ev_var 3) ev_nil) (dCons_len dNil_len)))) (ev_var 3))) (s_ret (ev_bl false)) s_next)
      (s_seq (s_if (ev_tru (ev_lc (evi_zip (ev_cons (ev_var 0) (ev_cons (ev_sl (ev_var 0) (ev_part (ev_int 1)) ev_noPart) ev_nil))) (evg_tup [3, 4] 2 rfl) (ev_tTest (ev_op (e2_cmp _) (ev_op e2_ix (ev_var 3) (ev_int 2)) (ev_op e2_ix (ev_var 4) (ev_int 2)))) (ev_int 1))) (s_ret (ev_bl false)) s_next)
      (s_seq (s_set (ev_op e2_add (ev_lc (evi_seq (ev_var 0)) (evg_name 3) ev_yes (ev_op e2_ix (ev_var 3) (ev_int 2))) (ev_lc (evi_seq (ev_var 0)) (evg_name 3) ev_yes (ev_op e2_ix (ev_var 3) (ev_int 3)))))
      (s_seq (s_set (ev_lc (evi_seq (ev_var 0)) (evg_name 3) (ev_tTest (ev_op e2_eq (ev_op e2_ix (ev_var 3) (ev_int 0)) (ev_str "write" (by decide +kernel)))) (ev_op e2_ix (ev_var 3) (ev_int 1))))
      (s_ret (ev_and (ev_op e2_eq (ev_lenSet (ev_var 1)) (ev_B evl_len (ev_cons (ev_var 1) ev_nil))) (ev_op e2_eq (ev_lenSet (ev_var 2)) (ev_B evl_len (ev_cons (ev_var 2) ev_nil))))))))))
  · rfl
abbrev s_check_story : Stmt := top 12
abbrev N_check_story : List Str := ["story"]
theorem sc_check_story : FnScope N_check_story ["story"] (defScope s_check_story) := ⟨rfl, rfl, rfl, by decide +kernel, rfl, by decide +kernel, by decide +kernel⟩
set_option maxHeartbeats 4000000 in
theorem ok_check_story (T : Txt K mg) : FnOk P w K mg base (L2.CX P w) 4 T.a_check_story T.fd_check_story ["story"] (spX K (clT T) m_check_story 1) := by
  refine T.F_check_story.okX sc_check_story (fun vs H Q E h => h.1) (fun cdv A outer s H vs Q E hr h => ?_)
  refine ⟨_, (pss_one (ps_if (pt_not (pt_truth (pe_call (ok_is_story T) (hr.mono (by decide)) (by rfl) T.g_is_story T.F_is_story.kp T.b_is_story .nil pass0 (pa_cons (pv 0) pa_nil)) (by intro _; rfl))) (pss_one (ps_raise (by rfl) (takes_of (by rfl) (by rfl) (by rfl) (by rfl)) (pmk_own PySem.F.excBase_ValueError T.x_InvalidStory T.gC_InvalidStory T.kC_InvalidStory (raises_own T.bC_InvalidStory T.tC_InvalidStory) (by rfl)))) pss_nil)), ?_⟩
  refine body_runX (cl := clT T) (F := b_check_story) (m := m_check_story) (k := 1) ?_ (fun _ => ?_) h
  · exact (s_if (ev_tNot (ev_tru (ev_call (ev_cons (ev_var 0) ev_nil) (dCons_len dNil_len)))) (s_raise (C := T.aC_InvalidStory) rfl) s_next)
  · rfl
abbrev s_check_order : Stmt := top 18
abbrev N_check_order : List Str := ["story", "order"]
theorem sc_check_order : FnScope N_check_order ["story", "order"] (defScope s_check_order) := ⟨rfl, rfl, rfl, by decide +kernel, rfl, by decide +kernel, by decide +kernel⟩
set_option maxHeartbeats 4000000 in
theorem ok_check_order (T : Txt K mg) : FnOk P w K mg base (L2.CX P w) 5 T.a_check_order T.fd_check_order ["story", "order"] (spX K (clT T) m_check_order 2) := by
  refine T.F_check_order.okX sc_check_order (fun vs H Q E h => h.1) (fun cdv A outer s H vs Q E hr h => ?_)
  refine ⟨_, (pss_cons (ps_expr (pe_callS (ok_check_story T) (hr.mono (by decide)) (by rfl) T.g_check_story T.F_check_story.kp T.b_check_story (fun σ => passAt (takes_of (by rfl) (by rfl) (by rfl) (by rfl)) σ) (pa_cons (pv 0) pa_nil)))
      (pss_one (ps_if (pt_not (pt_truth (pe_call (ok_explains_story T) (hr.mono (by decide)) (by rfl) T.g_explains_story T.F_explains_story.kp T.b_explains_story .nil pass0 (pa_cons (pv 0) (pa_cons (pv 1) pa_nil))) (by intro _; rfl))) (pss_one (ps_raise (by rfl) (takes_of (by rfl) (by rfl) (by rfl) (by rfl)) (pmk_own PySem.F.excBase_ValueError T.x_InvalidOrder T.gC_InvalidOrder T.kC_InvalidOrder (raises_own T.bC_InvalidOrder T.tC_InvalidOrder) (by rfl)))) pss_nil))), ?_⟩
  refine body_runX (cl := clT T) (F := b_check_order) (m := m_check_order) (k := 2) ?_ (fun _ => ?_) h
  · exact (s_seq (s_exprR (evr_call (ev_cons (ev_var 0) ev_nil) (dCons_len dNil_len)))
      (s_if (ev_tNot (ev_tru (ev_call (ev_cons (ev_var 0) (ev_cons (ev_var 1) ev_nil)) (dCons_len (dCons_len dNil_len))))) (s_raise (C := T.aC_InvalidOrder) rfl) s_next))
  · rfl
abbrev s_near : Stmt := top 19
abbrev N_near : List Str := ["story", "order"]
theorem sc_near : FnScope N_near ["story", "order"] (defScope s_near) := ⟨rfl, rfl, rfl, by decide +kernel, rfl, by decide +kernel, by decide +kernel⟩
set_option maxHeartbeats 4000000 in
theorem ok_near (T : Txt K mg) : FnOk P w K mg base (L2.CX P w) 6 T.a_near T.fd_near ["story", "order"] (spX K (clT T) m_near 2) := by
  refine T.F_near.okX sc_near (fun vs H Q E h => h.1) (fun cdv A outer s H vs Q E hr h => ?_)
  refine ⟨_, (pss_cons (ps_expr (pe_callS (ok_check_order T) (hr.mono (by decide)) (by rfl) T.g_check_order T.F_check_order.kp T.b_check_order (fun σ => passAt (takes_of (by rfl) (by rfl) (by rfl) (by rfl)) σ) (pa_cons (pv 0) (pa_cons (pv 1) pa_nil))))
      (pss_one (ps_ret (pe_call (ok_near_of T) (hr.mono (by decide)) (by rfl) T.g_near_of T.F_near_of.kp T.b_near_of .nil pass0 (pa_cons (pv 0) (pa_cons (pv 1) pa_nil)))))), ?_⟩
  refine body_runX (cl := clT T) (F := b_near) (m := m_near) (k := 2) ?_ (fun _ => ?_) h
  · exact (s_seq (s_exprR (evr_call (ev_cons (ev_var 0) (ev_cons (ev_var 1) ev_nil)) (dCons_len (dCons_len dNil_len))))
      (s_ret (ev_call (ev_cons (ev_var 0) (ev_cons (ev_var 1) ev_nil)) (dCons_len (dCons_len dNil_len)))))
  · rfl
abbrev s_road : Stmt := top 20
abbrev N_road : List Str := ["story", "one", "other", "before", "queue", "order", "more", "result"]
theorem sc_road : FnScope N_road ["story", "one", "other"] (defScope s_road) := ⟨rfl, rfl, rfl, by decide +kernel, rfl, by decide +kernel, by decide +kernel⟩
set_option maxHeartbeats 4000000 in
theorem ok_road (T : Txt K mg) : FnOk P w K mg base (L2.CX P w) 6 T.a_road T.fd_road ["story", "one", "other"] (spX K (clT T) m_road 3) := by
  refine T.F_road.okX sc_road (fun vs H Q E h => h.1) (fun cdv A outer s H vs Q E hr h => ?_)
  refine ⟨_, (pss_cons (ps_expr (pe_callS (ok_check_order T) (hr.mono (by decide)) (by rfl) T.g_check_order T.F_check_order.kp T.b_check_order (fun σ => passAt (takes_of (by rfl) (by rfl) (by rfl) (by rfl)) σ) (pa_cons (pv 0) (pa_cons (pv 1) pa_nil))))
      (pss_cons (ps_expr (pe_callS (ok_check_order T) (hr.mono (by decide)) (by rfl) T.g_check_order T.F_check_order.kp T.b_check_order (fun σ => passAt (takes_of (by rfl) (by rfl) (by rfl) (by rfl)) σ) (pa_cons (pv 0) (pa_cons (pv 2) pa_nil))))
      (pss_cons (ps_set (i := 3) sc_road.nd (by rfl) (by first | exact Or.inl rfl | exact Or.inr rfl) (pe_disp1 (hu_of hr) (pv 1) pe_non))
      (pss_cons (ps_set (i := 4) sc_road.nd (by rfl) (by first | exact Or.inl rfl | exact Or.inr rfl) (pe_lst (pa_cons (pv 1) pa_nil)))
      (pss_cons (ps_while (passes_of (by rfl)) (pt_cmp (pc_dnotinI (hu_of hr) (pv 2) (pv 3))) (pss_cons (ps_set (i := 5) sc_road.nd (by rfl) (by first | exact Or.inl rfl | exact Or.inr rfl) (pe_bm PySem.F.plainAttrs_list PySem.F.slot_list_pop PySem.F.type_list_pop mt_popAt (pv 4) (pa_cons pe_int pa_nil)))
      (pss_one (ps_for (passes_of (by rfl)) (by rfl) (pi_or (pi_list (pe_call (ok_near_of T) (hr.mono (by decide)) (by rfl) T.g_near_of T.F_near_of.kp T.b_near_of .nil pass0 (pa_cons (pv 0) (pa_cons (pv 5) pa_nil)))) (pi_tup (pe_call (ok_near_of T) (hr.mono (by decide)) (by rfl) T.g_near_of T.F_near_of.kp T.b_near_of .nil pass0 (pa_cons (pv 0) (pa_cons (pv 5) pa_nil))))) (pg_name (i := 6) sc_road.nd (by rfl) (by first | exact Or.inl rfl | exact Or.inr rfl)) (pss_one (ps_if (pt_cmp (pc_dnotinI (hu_of hr) (pv 6) (pv 3))) (pss_cons (ps_dputI (hu_of hr) (pv 3) (pv 6) (pv 5) (by rfl))
      (pss_one (ps_expr (pe_bm PySem.F.plainAttrs_list PySem.F.slot_list_append PySem.F.type_list_append mt_append (pv 4) (pa_cons (pv 6) pa_nil))))) pss_nil))))))
      (pss_cons (ps_set (i := 7) sc_road.nd (by rfl) (by first | exact Or.inl rfl | exact Or.inr rfl) (pe_lst (pa_cons (pv 2) pa_nil)))
      (pss_cons (ps_while (passes_of (by rfl)) (pt_cmpR op_notN (pe_dgetI (hu_of hr) (pv 3) (pe_ix ix_seq (pv 7) (pe_un un_neg pe_int) (by exact fun _ _ => rfl)) (by exact fun _ _ => rfl)) pe_non (nomark _)) (pss_one (ps_expr (pe_bm PySem.F.plainAttrs_list PySem.F.slot_list_append PySem.F.type_list_append mt_append (pv 7) (pa_cons (pe_dgetI (hu_of hr) (pv 3) (pe_ix ix_seq (pv 7) (pe_un un_neg pe_int) (by exact fun _ _ => rfl)) (by exact fun _ _ => rfl)) pa_nil)))))
      (pss_one (ps_ret (pe_revL (pv 7))))))))))), ?_⟩
  refine body_runX (cl := clT T) (F := b_road) (m := m_road) (k := 3) ?_ (fun _ => ?_) h
  · exact (s_seq (s_exprR (evr_call (ev_cons (ev_var 0) (ev_cons (ev_var 1) ev_nil)) (dCons_len (dCons_len dNil_len))))
      (s_seq (s_exprR (evr_call (ev_cons (ev_var 0) (ev_cons (ev_var 2) ev_nil)) (dCons_len (dCons_len dNil_len))))
      (s_seq (s_disp1 (ev_var 1) ev_non)
      (s_seq (s_own (f_lst (ev_cons (ev_var 1) ev_nil)))
      (s_seq (s_while 1000 (ev_tB (ev_dnotin (ev_var 2))) (s_seq (s_popAt (ev_int 0))
      (s_for (evi_seq (ev_call (ev_cons (ev_var 0) (ev_cons (ev_var 5) ev_nil)) (dCons_len (dCons_len dNil_len)))) (evg_name 6) (s_if (ev_tB (ev_dnotin (ev_var 6))) (s_seq (s_dputK (ev_var 6) (ev_var 5))
      (s_app (ev_var 6))) s_next))))
      (s_seq (s_own (f_lst (ev_cons (ev_var 2) ev_nil)))
      (s_seq (s_while 1000 (ev_tTest (ev_op e2_isNotN (ev_dgetK (ev_op e2_ix (ev_var 7) (ev_un e1_neg (ev_int 1)))) ev_non)) (s_appV (ev_dgetK (ev_op e2_ix (ev_var 7) (ev_un e1_neg (ev_int 1))))))
      (s_ret (ev_revL (ev_var 7))))))))))
  · rfl
abbrev s__law_cell : Stmt := top 22
abbrev N__law_cell : List Str := ["_law_script", "_law_k"]
theorem sc__law_cell : FnScope N__law_cell ["_law_script", "_law_k"] (defScope s__law_cell) := ⟨rfl, rfl, rfl, by decide +kernel, rfl, by decide +kernel, by decide +kernel⟩
set_option maxHeartbeats 4000000 in
theorem ok__law_cell (T : Txt K mg) : FnOk P w K mg base CX0 1 T.a__law_cell T.fd__law_cell ["_law_script", "_law_k"] (spD K m__law_cell 2) := by
  refine T.F__law_cell.ok sc__law_cell (fun vs H Q E h => h.1) (fun cdv A outer s H vs Q E hr h => ?_)
  refine ⟨_, (pss_cons (ps_if (pt_cmpR op_lt (pv 1) (pe_callB call_len (by rfl) T.len boot_len (pa_cons (pv 0) pa_nil)) (nomark _)) (pss_one (ps_ret (pe_ix ix_seq (pv 0) (pv 1) (by exact fun _ _ => rfl)))) pss_nil)
      (pss_one (ps_ret pe_int))), ?_⟩
  refine body_run (cl := fun _ => .none) (F := b__law_cell) (m := m__law_cell) (k := 2) ?_ (fun _ => ?_) h
  · exact (s_seq (s_if (ev_tTest (ev_op (e2_cmp _) (ev_var 1) (ev_B evl_len (ev_cons (ev_var 0) ev_nil)))) (s_ret (ev_op e2_ix (ev_var 0) (ev_var 1))) s_next)
      (s_ret (ev_int 0)))
  · rfl
abbrev s__law_row : Stmt := top 24
abbrev N__law_row : List Str := ["_law_script", "_law_at", "_law_cell_here", "_law_found", "_law_time"]
theorem sc__law_row : FnScope N__law_row ["_law_script", "_law_at"] (defScope s__law_row) := ⟨rfl, rfl, rfl, by decide +kernel, rfl, by decide +kernel, by decide +kernel⟩
set_option maxHeartbeats 4000000 in
theorem ok__law_row (T : Txt K mg) : FnOk P w K mg base CX0 2 T.a__law_row T.fd__law_row ["_law_script", "_law_at"] (spD K m__law_row 2) := by
  refine T.F__law_row.ok sc__law_row (fun vs H Q E h => h.1) (fun cdv A outer s H vs Q E hr h => ?_)
  refine ⟨_, (pss_cons (ps_set (i := 2) sc__law_row.nd (by rfl) (by first | exact Or.inl rfl | exact Or.inr rfl) (pe_call (ok__law_cell T) (hr.mono (by decide)) (by rfl) T.g__law_cell T.F__law_cell.kp T.b__law_cell .nil pass0 (pa_cons (pv 0) (pa_cons (pv 1) pa_nil))))
      (pss_cons (ps_set (i := 3) sc__law_row.nd (by rfl) (by first | exact Or.inl rfl | exact Or.inr rfl) (pe_lst pa_nil))
      (pss_cons (ps_for PassesOwn.never (by rfl) (pi_range1 (by rfl) T.range (pa_cons pe_int pa_nil)) (pg_name (i := 4) sc__law_row.nd (by rfl) (by first | exact Or.inl rfl | exact Or.inr rfl)) (pss_one (ps_if (pt_cmpR op_lt (pe_call (ok__law_cell T) (hr.mono (by decide)) (by rfl) T.g__law_cell T.F__law_cell.kp T.b__law_cell .nil pass0 (pa_cons (pv 0) (pa_cons (pv 1) pa_nil))) (pe_op op_pow pe_int pe_int) (nomark _)) (pss_cons (ps_set (i := 2) sc__law_row.nd (by rfl) (by first | exact Or.inl rfl | exact Or.inr rfl) (pe_op op_mod (pe_op opAdd (pe_op opAdd (pe_op opAdd (pe_op opMul (pv 2) pe_int) (pe_op opMul pe_int (pv 4))) pe_int) (pe_call (ok__law_cell T) (hr.mono (by decide)) (by rfl) T.g__law_cell T.F__law_cell.kp T.b__law_cell .nil pass0 (pa_cons (pv 0) (pa_cons (pe_op op_mod (pe_op opAdd (pe_op opAdd (pv 1) pe_int) (pv 4)) pe_int) pa_nil)))) pe_int))
      (pss_one (ps_expr (pe_bm PySem.F.plainAttrs_list PySem.F.slot_list_append PySem.F.type_list_append mt_append (pv 3) (pa_cons (pe_op op_mod (pe_op op_fdiv (pv 2) pe_int) pe_int) pa_nil))))) (pss_cons (ps_expr (pe_bm PySem.F.plainAttrs_list PySem.F.slot_list_append PySem.F.type_list_append mt_append (pv 3) (pa_cons (pe_op op_mod (pv 2) pe_int) pa_nil)))
      (pss_one (ps_set (i := 2) sc__law_row.nd (by rfl) (by first | exact Or.inl rfl | exact Or.inr rfl) (pe_op op_fdiv (pv 2) pe_int)))))))
      (pss_one (ps_ret (pv 3)))))), ?_⟩
  refine body_run (cl := fun _ => .none) (F := b__law_row) (m := m__law_row) (k := 2) ?_ (fun _ => ?_) h
  · exact (s_seq (s_set (ev_call (ev_cons (ev_var 0) (ev_cons (ev_var 1) ev_nil)) (dCons_len (dCons_len dNil_len))))
      (s_seq (s_own (f_lst ev_nil))
      (s_seq (s_for (evi_rng1 (ev_cons (ev_int 60) ev_nil)) (evg_name 4) (s_if (ev_tTest (ev_op (e2_cmp _) (ev_call (ev_cons (ev_var 0) (ev_cons (ev_var 1) ev_nil)) (dCons_len (dCons_len dNil_len))) (ev_op e2_pow (ev_int 10) (ev_int 18)))) (s_seq (s_set (ev_op e2_mod (ev_op e2_add (ev_op e2_add (ev_op e2_add (ev_op e2_mul (ev_var 2) (ev_int 48271)) (ev_op e2_mul (ev_int 131) (ev_var 4))) (ev_int 7)) (ev_call (ev_cons (ev_var 0) (ev_cons (ev_op e2_mod (ev_op e2_add (ev_op e2_add (ev_var 1) (ev_int 1)) (ev_var 4)) (ev_int 20)) ev_nil)) (dCons_len (dCons_len dNil_len)))) (ev_int 2147483647)))
      (s_app (ev_op e2_mod (ev_op e2_fdiv (ev_var 2) (ev_int 11)) (ev_int 1000)))) (s_seq (s_app (ev_op e2_mod (ev_var 2) (ev_int 1000)))
      (s_set (ev_op e2_fdiv (ev_var 2) (ev_int 1000))))))
      (s_ret (ev_var 3)))))
  · rfl
abbrev s__law_story : Stmt := top 26
abbrev N__law_story : List Str := ["_law_script", "_law_at", "_law_most", "_law_draws", "_law_many", "_law_marks", "_law_number", "_law_middle", "_law_times", "_law_place", "_law_mark", "_law_found", "_law_last", "_law_written", "_law_kind", "_law_value", "_law_one", "_law_start"]
theorem sc__law_story : FnScope N__law_story ["_law_script", "_law_at", "_law_most"] (defScope s__law_story) := ⟨rfl, rfl, rfl, by decide +kernel, rfl, by decide +kernel, by decide +kernel⟩
set_option maxHeartbeats 4000000 in
theorem ok__law_story (T : Txt K mg) : FnOk P w K mg base CX0 3 T.a__law_story T.fd__law_story ["_law_script", "_law_at", "_law_most"] (spD K m__law_story 3) := by
  refine T.F__law_story.ok sc__law_story (fun vs H Q E h => h.1) (fun cdv A outer s H vs Q E hr h => ?_)
  refine ⟨_, (pss_cons (ps_set (i := 3) sc__law_story.nd (by rfl) (by first | exact Or.inl rfl | exact Or.inr rfl) (pe_call (ok__law_row T) (hr.mono (by decide)) (by rfl) T.g__law_row T.F__law_row.kp T.b__law_row .nil pass0 (pa_cons (pv 0) (pa_cons (pv 1) pa_nil))))
      (pss_cons (ps_set (i := 4) sc__law_story.nd (by rfl) (by first | exact Or.inl rfl | exact Or.inr rfl) (pe_op op_mod (pe_ix ix_seq (pv 3) pe_int (by exact fun _ _ => rfl)) (pe_op opAdd (pv 2) pe_int)))
      (pss_cons (ps_set (i := 5) sc__law_story.nd (by rfl) (by first | exact Or.inl rfl | exact Or.inr rfl) (pe_lst pa_nil))
      (pss_cons (ps_for PassesOwn.never (by rfl) (pi_range1 (by rfl) T.range (pa_cons (pv 4) pa_nil)) (pg_name (i := 6) sc__law_story.nd (by rfl) (by first | exact Or.inl rfl | exact Or.inr rfl)) (pss_cons (ps_set (i := 7) sc__law_story.nd (by rfl) (by first | exact Or.inl rfl | exact Or.inr rfl) (pe_ifExp (pt_cmpR op_gt (pe_op op_mod (pe_ix ix_seq (pv 3) pe_int (by exact fun _ _ => rfl)) pe_int) pe_int (nomark _)) (pe_op opMul pe_int (pv 6)) (pe_op op_mod (pe_ix ix_seq (pv 3) (pe_op opAdd pe_int (pv 6)) (by exact fun _ _ => rfl)) pe_int)))
      (pss_cons (ps_expr (pe_bm PySem.F.plainAttrs_list PySem.F.slot_list_append PySem.F.type_list_append mt_append (pv 5) (pa_cons (pe_tupF (pa_cons (pe_op op_sub (pv 7) (pe_op op_mod (pe_ix ix_seq (pv 3) (pe_op opAdd pe_int (pv 6)) (by exact fun _ _ => rfl)) (pe_op opAdd pe_int (pe_op op_mod (pe_ix ix_seq (pv 3) pe_int (by exact fun _ _ => rfl)) pe_int)))) (pa_cons (pv 6) (pa_cons pe_int pa_nil)))) pa_nil)))
      (pss_one (ps_expr (pe_bm PySem.F.plainAttrs_list PySem.F.slot_list_append PySem.F.type_list_append mt_append (pv 5) (pa_cons (pe_tupF (pa_cons (pe_op opAdd (pe_op opAdd (pv 7) pe_int) (pe_op op_mod (pe_ix ix_seq (pv 3) (pe_op opAdd pe_int (pv 6)) (by exact fun _ _ => rfl)) (pe_op opAdd pe_int (pe_op op_mod (pe_ix ix_seq (pv 3) pe_int (by exact fun _ _ => rfl)) pe_int)))) (pa_cons (pv 6) (pa_cons pe_int pa_nil)))) pa_nil)))))))
      (pss_cons (ps_set (i := 8) sc__law_story.nd (by rfl) (by first | exact Or.inl rfl | exact Or.inr rfl) pe_dnewI)
      (pss_cons (ps_for PassesOwn.never (by rfl) (pi_range1 (by rfl) T.range (pa_cons (pe_callB call_len (by rfl) T.len boot_len (pa_cons (pe_callB (cr_sortD hr) (by rfl) T.sorted boot_sorted (pa_cons (pv 5) pa_nil)) pa_nil)) pa_nil)) (pg_name (i := 9) sc__law_story.nd (by rfl) (by first | exact Or.inl rfl | exact Or.inr rfl)) (pss_cons (ps_set (i := 10) sc__law_story.nd (by rfl) (by first | exact Or.inl rfl | exact Or.inr rfl) (pe_ix ix_seq (pe_callB (cr_sortD hr) (by rfl) T.sorted boot_sorted (pa_cons (pv 5) pa_nil)) (pv 9) (by exact fun _ _ => rfl)))
      (pss_one (ps_dputI (hu_of hr) (pv 8) (pe_tupF (pa_cons (pe_ix ix_seq (pv 10) pe_int (by exact fun _ _ => rfl)) (pa_cons (pe_ix ix_seq (pv 10) pe_int (by exact fun _ _ => rfl)) pa_nil))) (pe_op opAdd (pe_op opMul pe_int (pv 9)) (pe_op op_mod (pe_ix ix_seq (pv 3) (pe_op opAdd pe_int (pv 9)) (by exact fun _ _ => rfl)) pe_int)) (by rfl)))))
      (pss_cons (ps_asg (pe_tupF (pa_cons (pe_lst pa_nil) (pa_cons pe_int (pa_cons (pe_lst pa_nil) pa_nil)))) (pg_tup (by rfl) (pgs_cons (pg_name (i := 11) sc__law_story.nd (by rfl) (by first | exact Or.inl rfl | exact Or.inr rfl)) (pgs_cons (pg_name (i := 12) sc__law_story.nd (by rfl) (by first | exact Or.inl rfl | exact Or.inr rfl)) (pgs_cons (pg_name (i := 13) sc__law_story.nd (by rfl) (by first | exact Or.inl rfl | exact Or.inr rfl)) pgs_nil)))))
      (pss_cons (ps_for PassesOwn.never (by rfl) (pi_range1 (by rfl) T.range (pa_cons (pv 4) pa_nil)) (pg_name (i := 6) sc__law_story.nd (by rfl) (by first | exact Or.inl rfl | exact Or.inr rfl)) (pss_cons (ps_set (i := 14) sc__law_story.nd (by rfl) (by first | exact Or.inl rfl | exact Or.inr rfl) (pe_ifExp (pt_cmpR (op_eqD hr.units) (pe_op op_mod (pe_ix ix_seq (pv 3) (pe_op opAdd pe_int (pv 6)) (by exact fun _ _ => rfl)) pe_int) pe_int (nomark _)) pe_str pe_str))
      (pss_cons (ps_if (pt_cmpR (op_eqD hr.units) (pv 14) pe_str (nomark _)) (pss_cons (ps_set (i := 12) sc__law_story.nd (by rfl) (by first | exact Or.inl rfl | exact Or.inr rfl) (pe_ix ix_seq (pe_lc (own := [("_law_one", 16)]) (g := (gName 16)) (tt := (tTest (tOp (rInA K true) (tVar 16) (tVar 13)))) (te := (tVar 16)) (by rfl) sc__law_story.nd (pi_range2 (by rfl) T.range (pa_cons pe_int (pa_cons pe_int pa_nil))) (blkOk_by (N := N__law_story) (sc := defScope s__law_story) (by decide +kernel)) (fun _ _ _ _ _ => (pg_name (i := 16) sc__law_story.nd (by rfl) (by first | exact Or.inl rfl | exact Or.inr rfl))) (fun _ _ _ _ _ => (pts_one (pt_cmpR (op_notInA (hu65 hr)) (pv 16) (pv 13) (by rfl)))) (fun _ _ _ _ _ => (pv 16))) (pe_op op_mod (pe_ix ix_seq (pv 3) (pe_op opAdd pe_int (pv 6)) (by exact fun _ _ => rfl)) pe_int) (by exact fun _ _ => rfl)))
      (pss_one (ps_expr (pe_bm PySem.F.plainAttrs_list PySem.F.slot_list_append PySem.F.type_list_append mt_append (pv 13) (pa_cons (pv 12) pa_nil))))) pss_nil)
      (pss_cons (ps_set (i := 15) sc__law_story.nd (by rfl) (by first | exact Or.inl rfl | exact Or.inr rfl) (pv 12))
      (pss_cons (ps_if (PW.pt (pw_and (pt_cmpR (op_eqD hr.units) (pv 14) pe_str (nomark _)) (pw_and1 (pt_cmpR (op_eqD hr.units) (pe_op op_mod (pe_ix ix_seq (pv 3) pe_int (by exact fun _ _ => rfl)) pe_int) pe_int (nomark _))))) (pss_one (ps_set (i := 15) sc__law_story.nd (by rfl) (by first | exact Or.inl rfl | exact Or.inr rfl) (pe_ix ix_seq (pe_op opAdd (pe_op opAdd (pe_lst (pa_cons pe_int pa_nil)) (pv 13)) (pe_lst (pa_cons pe_int pa_nil))) (pe_op op_mod (pe_ix ix_seq (pv 3) (pe_op opAdd pe_int (pv 6)) (by exact fun _ _ => rfl)) (pe_op opAdd (pe_callB call_len (by rfl) T.len boot_len (pa_cons (pv 13) pa_nil)) pe_int)) (by exact fun _ _ => rfl)))) pss_nil)
      (pss_one (ps_expr (pe_bm PySem.F.plainAttrs_list PySem.F.slot_list_append PySem.F.type_list_append mt_append (pv 11) (pa_cons (pe_tupF (pa_cons (pv 14) (pa_cons (pv 15) (pa_cons (pe_dgetI (hu_of hr) (pv 8) (pe_tupF (pa_cons (pv 6) (pa_cons pe_int pa_nil))) (by exact fun _ _ => rfl)) (pa_cons (pe_dgetI (hu_of hr) (pv 8) (pe_tupF (pa_cons (pv 6) (pa_cons pe_int pa_nil))) (by exact fun _ _ => rfl)) pa_nil))))) pa_nil)))))))))
      (pss_one (ps_ret (pe_callTy call_tupleF (by rfl) T.tuple boot_tuple (pa_cons (pe_lc (own := [("_law_start", 17), ("_law_one", 16)]) (g := (gTup K 2 (gNames [17, 16]))) (tt := tYes) (te := (tVar 16)) (by rfl) sc__law_story.nd (pi_or (pi_list (pe_callB (cr_sortD hr) (by rfl) T.sorted boot_sorted (pa_cons (pe_lc (own := [("_law_one", 16)]) (g := (gName 16)) (tt := tYes) (te := (tTupF (tCons (tOp (rIx K) (tVar 16) (tC (.int 2))) (tCons (tVar 16) tNil)))) (by rfl) sc__law_story.nd (pi_or (pi_list (pv 11)) (pi_tup (pv 11))) (blkOk_by (N := N__law_story) (sc := defScope s__law_story) (by decide +kernel)) (fun _ _ _ _ _ => (pg_name (i := 16) sc__law_story.nd (by rfl) (by first | exact Or.inl rfl | exact Or.inr rfl))) (fun _ _ _ _ _ => pts_nil) (fun _ _ _ _ _ => (pe_tupF (pa_cons (pe_ix ix_seq (pv 16) pe_int (by exact fun _ _ => rfl)) (pa_cons (pv 16) pa_nil))))) pa_nil))) (pi_tup (pe_callB (cr_sortD hr) (by rfl) T.sorted boot_sorted (pa_cons (pe_lc (own := [("_law_one", 16)]) (g := (gName 16)) (tt := tYes) (te := (tTupF (tCons (tOp (rIx K) (tVar 16) (tC (.int 2))) (tCons (tVar 16) tNil)))) (by rfl) sc__law_story.nd (pi_or (pi_list (pv 11)) (pi_tup (pv 11))) (blkOk_by (N := N__law_story) (sc := defScope s__law_story) (by decide +kernel)) (fun _ _ _ _ _ => (pg_name (i := 16) sc__law_story.nd (by rfl) (by first | exact Or.inl rfl | exact Or.inr rfl))) (fun _ _ _ _ _ => pts_nil) (fun _ _ _ _ _ => (pe_tupF (pa_cons (pe_ix ix_seq (pv 16) pe_int (by exact fun _ _ => rfl)) (pa_cons (pv 16) pa_nil))))) pa_nil)))) (blkOk_by (N := N__law_story) (sc := defScope s__law_story) (by decide +kernel)) (fun _ _ _ _ _ => (pg_tup (by rfl) (pgs_cons (pg_name (i := 17) sc__law_story.nd (by rfl) (by first | exact Or.inl rfl | exact Or.inr rfl)) (pgs_cons (pg_name (i := 16) sc__law_story.nd (by rfl) (by first | exact Or.inl rfl | exact Or.inr rfl)) pgs_nil)))) (fun _ _ _ _ _ => pts_nil) (fun _ _ _ _ _ => (pv 16))) pa_nil)))))))))))), ?_⟩
  refine body_run (cl := fun _ => .none) (F := b__law_story) (m := m__law_story) (k := 3) ?_ (fun _ => ?_) h
  · exact (s_seq (s_set (ev_call (ev_cons (ev_var 0) (ev_cons (ev_var 1) ev_nil)) (dCons_len (dCons_len dNil_len))))
      (s_seq (s_set (ev_op e2_mod (ev_op e2_ix (ev_var 3) (ev_int 0)) (ev_op e2_add (ev_var 2) (ev_int 1))))
      (s_seq (s_own (f_lst ev_nil))
      (s_seq (s_for (evi_rng1 (ev_cons (ev_var 4) ev_nil)) (evg_name 6) (s_seq (s_set (ev_if (ev_tTest (ev_op (e2_cmp _) (ev_op e2_mod (ev_op e2_ix (ev_var 3) (ev_int 1)) (ev_int 4)) (ev_int 0))) (ev_op e2_mul (ev_int 10) (ev_var 6)) (ev_op e2_mod (ev_op e2_ix (ev_var 3) (ev_op e2_add (ev_int 2) (ev_var 6))) (ev_int 60))))
      (s_seq (s_app (ev_tup (ev_cons (ev_op e2_sub (ev_var 7) (ev_op e2_mod (ev_op e2_ix (ev_var 3) (ev_op e2_add (ev_int 10) (ev_var 6))) (ev_op e2_add (ev_int 8) (ev_op e2_mod (ev_op e2_ix (ev_var 3) (ev_int 20)) (ev_int 20))))) (ev_cons (ev_var 6) (ev_cons (ev_int 0) ev_nil)))))
      (s_app (ev_tup (ev_cons (ev_op e2_add (ev_op e2_add (ev_var 7) (ev_int 1)) (ev_op e2_mod (ev_op e2_ix (ev_var 3) (ev_op e2_add (ev_int 30) (ev_var 6))) (ev_op e2_add (ev_int 8) (ev_op e2_mod (ev_op e2_ix (ev_var 3) (ev_int 21)) (ev_int 20))))) (ev_cons (ev_var 6) (ev_cons (ev_int 1) ev_nil))))))))
      (s_seq s_dnew
      (s_seq (s_forV (evi_rng1R (ev_cons (ev_B evl_len (ev_cons (ev_B evl_sort (ev_cons (ev_var 5) ev_nil)) ev_nil)) ev_nil)) (evg_name 9) (s_seq (s_setV (ev_op e2_ix (ev_B evl_sort (ev_cons (ev_var 5) ev_nil)) (ev_var 9)))
      (s_dput (ev_op e2_ix (ev_var 10) (ev_int 1)) (ev_op e2_ix (ev_var 10) (ev_int 2)) (ev_op e2_add (ev_op e2_mul (ev_int 3) (ev_var 9)) (ev_op e2_mod (ev_op e2_ix (ev_var 3) (ev_op e2_add (ev_int 40) (ev_var 9))) (ev_int 3))))))
      (s_seq (s_oio (i := 11) (j := 12) (k := 13) (n := 0))
      (s_seq (s_for (evi_rng1 (ev_cons (ev_var 4) ev_nil)) (evg_name 6) (s_seq (s_set (ev_if (ev_tTest (ev_op e2_eq (ev_op e2_mod (ev_op e2_ix (ev_var 3) (ev_op e2_add (ev_int 22) (ev_var 6))) (ev_int 2)) (ev_int 0))) (ev_str "write" (by decide +kernel)) (ev_str "read" (by decide +kernel))))
      (s_seq (s_if (ev_tTest (ev_op e2_eq (ev_var 14) (ev_str "write" (by decide +kernel)))) (s_seq (s_setV (ev_op e2_ix (ev_lc (evi_rng2 (ev_cons (ev_int 1) (ev_cons (ev_int 10) ev_nil))) (evg_name 16) (ev_tTest (ev_op (e2_in true) (ev_var 16) (ev_var 13))) (ev_var 16)) (ev_op e2_mod (ev_op e2_ix (ev_var 3) (ev_op e2_add (ev_int 50) (ev_var 6))) (ev_int 3))))
      (s_app (ev_var 12))) s_next)
      (s_seq (s_set (ev_var 12))
      (s_seq (s_if (ev_tAnd (ev_tTest (ev_op e2_eq (ev_var 14) (ev_str "read" (by decide +kernel)))) (ev_tTest (ev_op e2_eq (ev_op e2_mod (ev_op e2_ix (ev_var 3) (ev_int 1)) (ev_int 3)) (ev_int 0)))) (s_setV (ev_op e2_ix (ev_op e2_add (ev_op e2_add (ev_lst (ev_cons (ev_int 0) ev_nil)) (ev_var 13)) (ev_lst (ev_cons (ev_int 9) ev_nil))) (ev_op e2_mod (ev_op e2_ix (ev_var 3) (ev_op e2_add (ev_int 50) (ev_var 6))) (ev_op e2_add (ev_B evl_len (ev_cons (ev_var 13) ev_nil)) (ev_int 2))))) s_next)
      (s_app (ev_tup (ev_cons (ev_var 14) (ev_cons (ev_var 15) (ev_cons (ev_dget (ev_var 6) (ev_int 0)) (ev_cons (ev_dget (ev_var 6) (ev_int 1)) ev_nil)))))))))))
      (s_ret (ev_B evl_tuple (ev_cons (ev_lc (evi_seq (ev_B evl_sort (ev_cons (ev_lc (evi_seq (ev_var 11)) (evg_name 16) ev_yes (ev_tup (ev_cons (ev_op e2_ix (ev_var 16) (ev_int 2)) (ev_cons (ev_var 16) ev_nil)))) ev_nil))) (evg_tup [17, 16] 2 rfl) ev_yes (ev_var 16)) ev_nil)))))))))))
  · rfl
abbrev s__law_every : Stmt := top 28
abbrev N__law_every : List Str := ["_law_story_here", "_law_found", "_law_time", "_law_longer", "_law_order", "_law_written", "_law_left", "_law_number", "_law_kind", "_law_value", "_law_start", "_law_end", "_law_one"]
theorem sc__law_every : FnScope N__law_every ["_law_story_here"] (defScope s__law_every) := ⟨rfl, rfl, rfl, by decide +kernel, rfl, by decide +kernel, by decide +kernel⟩
set_option maxHeartbeats 4000000 in
theorem ok__law_every (T : Txt K mg) : FnOk P w K mg base CX0 1 T.a__law_every T.fd__law_every ["_law_story_here"] (spD K m__law_every 1) := by
  refine T.F__law_every.ok sc__law_every (fun vs H Q E h => h.1) (fun cdv A outer s H vs Q E hr h => ?_)
  refine ⟨_, (pss_cons (ps_set (i := 1) sc__law_every.nd (by rfl) (by first | exact Or.inl rfl | exact Or.inr rfl) (pe_lst (pa_cons (pe_tupF pa_nil) pa_nil)))
      (pss_cons (ps_for PassesOwn.never (by rfl) (pi_range1 (by rfl) T.range (pa_cons (pe_callB call_len (by rfl) T.len boot_len (pa_cons (pv 0) pa_nil)) pa_nil)) (pg_name (i := 2) sc__law_every.nd (by rfl) (by first | exact Or.inl rfl | exact Or.inr rfl)) (pss_cons (ps_set (i := 3) sc__law_every.nd (by rfl) (by first | exact Or.inl rfl | exact Or.inr rfl) (pe_lst pa_nil))
      (pss_cons (ps_for PassesOwn.never (by rfl) (pi_or (pi_list (pv 1)) (pi_tup (pv 1))) (pg_name (i := 4) sc__law_every.nd (by rfl) (by first | exact Or.inl rfl | exact Or.inr rfl)) (pss_cons (ps_set (i := 5) sc__law_every.nd (by rfl) (by first | exact Or.inl rfl | exact Or.inr rfl) (pe_op opAdd (pe_lst (pa_cons pe_int pa_nil)) (pe_lc (own := [("_law_number", 7)]) (g := (gName 7)) (tt := (tTest (tOp (rEqD K) (tOp (rIx K) (tOp (rIx K) (tVar 0) (tVar 7)) (tC (.int 0))) (tC (.str "write"))))) (te := (tOp (rIx K) (tOp (rIx K) (tVar 0) (tVar 7)) (tC (.int 1)))) (by rfl) sc__law_every.nd (pi_or (pi_list (pv 4)) (pi_tup (pv 4))) (blkOk_by (N := N__law_every) (sc := defScope s__law_every) (by decide +kernel)) (fun _ _ _ _ _ => (pg_name (i := 7) sc__law_every.nd (by rfl) (by first | exact Or.inl rfl | exact Or.inr rfl))) (fun _ _ _ _ _ => (pts_one (pt_cmpR (op_eqD hr.units) (pe_ix ix_seq (pe_ix ix_seq (pv 0) (pv 7) (by exact fun _ _ => rfl)) pe_int (by exact fun _ _ => rfl)) pe_str (nomark _)))) (fun _ _ _ _ _ => (pe_ix ix_seq (pe_ix ix_seq (pv 0) (pv 7) (by exact fun _ _ => rfl)) pe_int (by exact fun _ _ => rfl))))))
      (pss_cons (ps_setLc (i := 6) (own := [("_law_number", 7)]) (g := (gName 7)) (tt := (tTest (tOp (rInA K true) (tVar 7) (tVar 4)))) (te := (tVar 7)) (by rfl) sc__law_every.nd (by rfl) (by rfl) (sw_true (by rfl) (by rfl) (by rfl) (by decide +kernel)) (pi_range1 (by rfl) T.range (pa_cons (pe_callB call_len (by rfl) T.len boot_len (pa_cons (pv 0) pa_nil)) pa_nil)) (blkOk_by (N := N__law_every) (sc := defScope s__law_every) (by decide +kernel)) (fun _ _ _ _ _ => (pg_name (i := 7) sc__law_every.nd (by rfl) (by first | exact Or.inl rfl | exact Or.inr rfl))) (fun _ _ _ _ _ => (pts_one (pt_cmpR (op_notInA (hu65 hr)) (pv 7) (pv 4) (by rfl)))) (fun _ _ _ _ _ => (pv 7)))
      (pss_one (ps_for PassesOwn.never (by rfl) (pi_or (pi_list (pv 6)) (pi_tup (pv 6))) (pg_name (i := 7) sc__law_every.nd (by rfl) (by first | exact Or.inl rfl | exact Or.inr rfl)) (pss_cons (ps_asg (pe_ix ix_seq (pv 0) (pv 7) (by exact fun _ _ => rfl)) (pg_tup (by rfl) (pgs_cons (pg_name (i := 8) sc__law_every.nd (by rfl) (by first | exact Or.inl rfl | exact Or.inr rfl)) (pgs_cons (pg_name (i := 9) sc__law_every.nd (by rfl) (by first | exact Or.inl rfl | exact Or.inr rfl)) (pgs_cons (pg_name (i := 10) sc__law_every.nd (by rfl) (by first | exact Or.inl rfl | exact Or.inr rfl)) (pgs_cons (pg_name (i := 11) sc__law_every.nd (by rfl) (by first | exact Or.inl rfl | exact Or.inr rfl)) pgs_nil))))))
      (pss_one (ps_if (PW.pt (pw_and (pt_cmpR (op_eqD hr.units) (pe_lc (own := [("_law_one", 12)]) (g := (gName 12)) (tt := (tTest (tOp rLtD (tOp (rIx K) (tOp (rIx K) (tVar 0) (tVar 12)) (tC (.int 3))) (tVar 10)))) (te := (tVar 12)) (by rfl) sc__law_every.nd (pi_or (pi_list (pv 6)) (pi_tup (pv 6))) (blkOk_by (N := N__law_every) (sc := defScope s__law_every) (by decide +kernel)) (fun _ _ _ _ _ => (pg_name (i := 12) sc__law_every.nd (by rfl) (by first | exact Or.inl rfl | exact Or.inr rfl))) (fun _ _ _ _ _ => (pts_one (pt_cmpR op_lt (pe_ix ix_seq (pe_ix ix_seq (pv 0) (pv 12) (by exact fun _ _ => rfl)) pe_int (by exact fun _ _ => rfl)) (pv 10) (nomark _)))) (fun _ _ _ _ _ => (pv 12))) (pe_lst pa_nil) (nomark _)) (pw_and1 (PW.pt (pw_or (pt_cmpR (op_eqD hr.units) (pv 8) pe_str (nomark _)) (pw_or1 (pt_cmpR (op_eqD hr.units) (pv 9) (pe_ix ix_seq (pv 5) (pe_un un_neg pe_int) (by exact fun _ _ => rfl)) (nomark _)))))))) (pss_one (ps_expr (pe_bm PySem.F.plainAttrs_list PySem.F.slot_list_append PySem.F.type_list_append mt_append (pv 3) (pa_cons (pe_op opAdd (pv 4) (pe_tupF (pa_cons (pv 7) pa_nil))) pa_nil)))) pss_nil))))))))
      (pss_one (ps_set (i := 1) sc__law_every.nd (by rfl) (by first | exact Or.inl rfl | exact Or.inr rfl) (pv 3))))))
      (pss_one (ps_ret (pv 1))))), ?_⟩
  refine body_run (cl := fun _ => .none) (F := b__law_every) (m := m__law_every) (k := 1) ?_ (fun _ => ?_) h
  · exact (s_seq (s_set (ev_lst (ev_cons (ev_tup ev_nil) ev_nil)))
      (s_seq (s_for (evi_rng1 (ev_cons (ev_B evl_len (ev_cons (ev_var 0) ev_nil)) ev_nil)) (evg_name 2) (s_seq (s_own (f_lst ev_nil))
      (s_seq (s_for (evi_seq (ev_var 1)) (evg_name 4) (s_seq (s_set (ev_op e2_add (ev_lst (ev_cons (ev_int 0) ev_nil)) (ev_lc (evi_seq (ev_var 4)) (evg_name 7) (ev_tTest (ev_op e2_eq (ev_op e2_ix (ev_op e2_ix (ev_var 0) (ev_var 7)) (ev_int 0)) (ev_str "write" (by decide +kernel)))) (ev_op e2_ix (ev_op e2_ix (ev_var 0) (ev_var 7)) (ev_int 1)))))
      (s_seq (s_set (ev_lc (evi_rng1 (ev_cons (ev_B evl_len (ev_cons (ev_var 0) ev_nil)) ev_nil)) (evg_name 7) (ev_tTest (ev_op (e2_in true) (ev_var 7) (ev_var 4))) (ev_var 7)))
      (s_for (evi_seq (ev_var 6)) (evg_name 7) (s_seq (s_tgt (ev_op e2_ix (ev_var 0) (ev_var 7)) (evg_tup [8, 9, 10, 11] 4 rfl))
      (s_if (ev_tAnd (ev_tTest (ev_op e2_eq (ev_lc (evi_seq (ev_var 6)) (evg_name 12) (ev_tTest (ev_op (e2_cmp _) (ev_op e2_ix (ev_op e2_ix (ev_var 0) (ev_var 12)) (ev_int 3)) (ev_var 10))) (ev_var 12)) (ev_lst ev_nil))) (ev_tOr (ev_tTest (ev_op e2_eq (ev_var 8) (ev_str "write" (by decide +kernel)))) (ev_tTest (ev_op e2_eq (ev_var 9) (ev_op e2_ix (ev_var 5) (ev_un e1_neg (ev_int 1))))))) (s_app (ev_op e2_add (ev_var 4) (ev_tup (ev_cons (ev_var 7) ev_nil)))) s_next))))))
      s_move)))
      (s_ret (ev_var 1))))
  · rfl
abbrev s__law_whole : Stmt := top 23
abbrev N__law_whole : List Str := ["_law_found"]
theorem sc__law_whole : FnScope N__law_whole ["_law_found"] (defScope s__law_whole) := ⟨rfl, rfl, rfl, by decide +kernel, rfl, by decide +kernel, by decide +kernel⟩
set_option maxHeartbeats 4000000 in
theorem ok__law_whole (T : Txt K mg) : FnOk P w K mg base CX0 1 T.a__law_whole T.fd__law_whole ["_law_found"] (spD K m__law_whole 1) := by
  refine T.F__law_whole.ok sc__law_whole (fun vs H Q E h => h.1) (fun cdv A outer s H vs Q E hr h => ?_)
  refine ⟨_, (pss_one (ps_ret (pe_and (pe_callB call_isi (by rfl) T.isinstance boot_isinstance (pa_cons (pv 0) (pa_cons (pe_bltn (v := .ty "int") (u := .type "int") (by rfl) T.int boot_int (by rfl)) pa_nil))) (pe_one (pe_notT (pe_callB call_isi (by rfl) T.isinstance boot_isinstance (pa_cons (pv 0) (pa_cons (pe_bltn (v := .ty "bool") (u := .type "bool") (by rfl) T.bool boot_bool (by rfl)) pa_nil)))))))), ?_⟩
  refine body_run (cl := fun _ => .none) (F := b__law_whole) (m := m__law_whole) (k := 1) ?_ (fun _ => ?_) h
  · exact (s_ret (ev_and (ev_isi isiK_int (ev_var 0)) (ev_not (ev_isi isiK_bool (ev_var 0)))))
  · rfl
abbrev s__law_in : Stmt := top 25
abbrev N__law_in : List Str := ["_law_thing", "_law_low", "_law_high"]
theorem sc__law_in : FnScope N__law_in ["_law_thing", "_law_low", "_law_high"] (defScope s__law_in) := ⟨rfl, rfl, rfl, by decide +kernel, rfl, by decide +kernel, by decide +kernel⟩
set_option maxHeartbeats 4000000 in
theorem ok__law_in (T : Txt K mg) : FnOk P w K mg base CX0 2 T.a__law_in T.fd__law_in ["_law_thing", "_law_low", "_law_high"] (spD K m__law_in 3) := by
  refine T.F__law_in.ok sc__law_in (fun vs H Q E h => h.1) (fun cdv A outer s H vs Q E hr h => ?_)
  refine ⟨_, (pss_one (ps_ret (pe_and (pe_call (ok__law_whole T) (hr.mono (by decide)) (by rfl) T.g__law_whole T.F__law_whole.kp T.b__law_whole .nil pass0 (pa_cons (pv 0) pa_nil)) (pe_one (pe_chain op_le op_le (pv 1) (pv 0) (pv 2)))))), ?_⟩
  refine body_run (cl := fun _ => .none) (F := b__law_in) (m := m__law_in) (k := 3) ?_ (fun _ => ?_) h
  · exact (s_ret (ev_and (ev_call (ev_cons (ev_var 0) ev_nil) (dCons_len dNil_len)) (ev_chain (e2_cmp _) (e2_cmp _) (ev_var 1) (ev_var 0) (ev_var 2))))
  · rfl
abbrev s__law_explains : Stmt := top 27
abbrev N__law_explains : List Str := ["_law_story_here", "_law_order", "_law_last", "_law_place", "_law_here", "_law_one"]
theorem sc__law_explains : FnScope N__law_explains ["_law_story_here", "_law_order"] (defScope s__law_explains) := ⟨rfl, rfl, rfl, by decide +kernel, rfl, by decide +kernel, by decide +kernel⟩
set_option maxHeartbeats 4000000 in
theorem ok__law_explains (T : Txt K mg) : FnOk P w K mg base CX0 3 T.a__law_explains T.fd__law_explains ["_law_story_here", "_law_order"] (spD K m__law_explains 2) := by
  refine T.F__law_explains.ok sc__law_explains (fun vs H Q E h => h.1) (fun cdv A outer s H vs Q E hr h => ?_)
  refine ⟨_, (pss_cons (ps_if (PW.pt (pw_or (pt_not (pt_truth (pe_callB call_isi (by rfl) T.isinstance boot_isinstance (pa_cons (pv 1) (pa_cons (pe_bltn (v := .ty "tuple") (u := .type "tuple") (by rfl) T.tuple boot_tuple (by rfl)) pa_nil))) (by intro _; rfl))) (pw_or1 (pt_cmpR (op_neD hr.units) (pe_lc (own := [("_law_one", 5)]) (g := (gName 5)) (tt := (tNot (tTruD K (tCall (spD K m__law_in 3) [] E0 (tCons (tVar 5) (tCons (tC (.int 0)) (tCons (tOp rSubD (tCB (rLenD K) (tCons (tVar 0) tNil)) (tC (.int 1))) tNil))))))) (te := (tVar 5)) (by rfl) sc__law_explains.nd (pi_or (pi_list (pv 1)) (pi_tup (pv 1))) (blkOk_by (N := N__law_explains) (sc := defScope s__law_explains) (by decide +kernel)) (fun _ _ _ _ _ => (pg_name (i := 5) sc__law_explains.nd (by rfl) (by first | exact Or.inl rfl | exact Or.inr rfl))) (fun _ _ _ _ _ => (pts_one (pt_not (pt_truth (pe_call (ok__law_in T) (hr.mono (by decide)) (by rfl) T.g__law_in T.F__law_in.kp T.b__law_in .nil pass0 (pa_cons (pv 5) (pa_cons pe_int (pa_cons (pe_op op_sub (pe_callB call_len (by rfl) T.len boot_len (pa_cons (pv 0) pa_nil)) pe_int) pa_nil)))) (by intro _; rfl))))) (fun _ _ _ _ _ => (pv 5))) (pe_lst pa_nil) (nomark _))))) (pss_one (ps_ret pe_bl)) pss_nil)
      (pss_cons (ps_if (pt_cmpR (op_neD hr.units) (pe_callB (cr_sortD hr) (by rfl) T.sorted boot_sorted (pa_cons (pv 1) pa_nil)) (pe_listRg (by rfl) (by rfl) T.list (prg_1 (by rfl) T.range (pe_callB call_len (by rfl) T.len boot_len (pa_cons (pv 0) pa_nil)))) (nomark _)) (pss_one (ps_ret pe_bl)) pss_nil)
      (pss_cons (ps_set (i := 2) sc__law_explains.nd (by rfl) (by first | exact Or.inl rfl | exact Or.inr rfl) pe_int)
      (pss_cons (ps_for PassesOwn.never (by rfl) (pi_range1 (by rfl) T.range (pa_cons (pe_callB call_len (by rfl) T.len boot_len (pa_cons (pv 1) pa_nil)) pa_nil)) (pg_name (i := 3) sc__law_explains.nd (by rfl) (by first | exact Or.inl rfl | exact Or.inr rfl)) (pss_cons (ps_set (i := 4) sc__law_explains.nd (by rfl) (by first | exact Or.inl rfl | exact Or.inr rfl) (pe_ix ix_seq (pv 0) (pe_ix ix_seq (pv 1) (pv 3) (by exact fun _ _ => rfl)) (by exact fun _ _ => rfl)))
      (pss_cons (ps_if (pt_cmpR (op_neD hr.units) (pe_lc (own := [("_law_one", 5)]) (g := (gName 5)) (tt := (tTest (tOp rLtD (tOp (rIx K) (tOp (rIx K) (tVar 0) (tVar 5)) (tC (.int 3))) (tOp (rIx K) (tVar 4) (tC (.int 2)))))) (te := (tVar 5)) (by rfl) sc__law_explains.nd (pi_or (pi_list (pe_slice slAll (pv 1) (po_some (pe_op opAdd (pv 3) pe_int)) po_none)) (pi_tup (pe_slice slAll (pv 1) (po_some (pe_op opAdd (pv 3) pe_int)) po_none))) (blkOk_by (N := N__law_explains) (sc := defScope s__law_explains) (by decide +kernel)) (fun _ _ _ _ _ => (pg_name (i := 5) sc__law_explains.nd (by rfl) (by first | exact Or.inl rfl | exact Or.inr rfl))) (fun _ _ _ _ _ => (pts_one (pt_cmpR op_lt (pe_ix ix_seq (pe_ix ix_seq (pv 0) (pv 5) (by exact fun _ _ => rfl)) pe_int (by exact fun _ _ => rfl)) (pe_ix ix_seq (pv 4) pe_int (by exact fun _ _ => rfl)) (nomark _)))) (fun _ _ _ _ _ => (pv 5))) (pe_lst pa_nil) (nomark _)) (pss_one (ps_ret pe_bl)) pss_nil)
      (pss_one (ps_if (pt_cmpR (op_eqD hr.units) (pe_ix ix_seq (pv 4) pe_int (by exact fun _ _ => rfl)) pe_str (nomark _)) (pss_one (ps_set (i := 2) sc__law_explains.nd (by rfl) (by first | exact Or.inl rfl | exact Or.inr rfl) (pe_ix ix_seq (pv 4) pe_int (by exact fun _ _ => rfl)))) (pss_one (ps_if (pt_cmpR (op_neD hr.units) (pe_ix ix_seq (pv 4) pe_int (by exact fun _ _ => rfl)) (pv 2) (nomark _)) (pss_one (ps_ret pe_bl)) pss_nil)))))))
      (pss_one (ps_ret pe_bl)))))), ?_⟩
  refine body_run (cl := fun _ => .none) (F := b__law_explains) (m := m__law_explains) (k := 2) ?_ (fun _ => ?_) h
  · exact (s_seq (s_if (ev_tOr (ev_tNot (ev_tru (ev_isi isiK_tuple (ev_var 1)))) (ev_tTest (ev_op e2_ne (ev_lc (evi_seq (ev_var 1)) (evg_name 5) (ev_tNot (ev_tru (ev_call (ev_cons (ev_var 5) (ev_cons (ev_int 0) (ev_cons (ev_op e2_sub (ev_B evl_len (ev_cons (ev_var 0) ev_nil)) (ev_int 1)) ev_nil))) (dCons_len (dCons_len (dCons_len dNil_len)))))) (ev_var 5)) (ev_lst ev_nil)))) (s_ret (ev_bl false)) s_next)
      (s_seq (s_if (ev_tTest (ev_op e2_ne (ev_B evl_sort (ev_cons (ev_var 1) ev_nil)) (ev_listRg (ev_B evl_len (ev_cons (ev_var 0) ev_nil))))) (s_ret (ev_bl false)) s_next)
      (s_seq (s_set (ev_int 0))
      (s_seq (s_for (evi_rng1 (ev_cons (ev_B evl_len (ev_cons (ev_var 1) ev_nil)) ev_nil)) (evg_name 3) (s_seq (s_set (ev_op e2_ix (ev_var 0) (ev_op e2_ix (ev_var 1) (ev_var 3))))
      (s_seq (s_if (ev_tTest (ev_op e2_ne (ev_lc (evi_seq (ev_sl (ev_var 1) (ev_part (ev_op e2_add (ev_var 3) (ev_int 1))) ev_noPart)) (evg_name 5) (ev_tTest (ev_op (e2_cmp _) (ev_op e2_ix (ev_op e2_ix (ev_var 0) (ev_var 5)) (ev_int 3)) (ev_op e2_ix (ev_var 4) (ev_int 2)))) (ev_var 5)) (ev_lst ev_nil))) (s_ret (ev_bl false)) s_next)
      (s_if (ev_tTest (ev_op e2_eq (ev_op e2_ix (ev_var 4) (ev_int 0)) (ev_str "write" (by decide +kernel)))) (s_set (ev_op e2_ix (ev_var 4) (ev_int 1))) (s_if (ev_tTest (ev_op e2_ne (ev_op e2_ix (ev_var 4) (ev_int 1)) (ev_var 2))) (s_ret (ev_bl false)) s_next)))))
      (s_ret (ev_bl true))))))
  · rfl
abbrev s__law_near : Stmt := top 29
abbrev N__law_near : List Str := ["_law_story_here", "_law_order", "_law_found", "_law_first", "_law_middle", "_law_last", "_law_more"]
theorem sc__law_near : FnScope N__law_near ["_law_story_here", "_law_order"] (defScope s__law_near) := ⟨rfl, rfl, rfl, by decide +kernel, rfl, by decide +kernel, by decide +kernel⟩
set_option maxHeartbeats 4000000 in
theorem ok__law_near (T : Txt K mg) : FnOk P w K mg base CX0 4 T.a__law_near T.fd__law_near ["_law_story_here", "_law_order"] (spD K m__law_near 2) := by
  refine T.F__law_near.ok sc__law_near (fun vs H Q E h => h.1) (fun cdv A outer s H vs Q E hr h => ?_)
  refine ⟨_, (pss_cons (ps_set (i := 2) sc__law_near.nd (by rfl) (by first | exact Or.inl rfl | exact Or.inr rfl) (pe_lst pa_nil))
      (pss_cons (ps_for PassesOwn.never (by rfl) (pi_range1 (by rfl) T.range (pa_cons (pe_callB call_len (by rfl) T.len boot_len (pa_cons (pv 1) pa_nil)) pa_nil)) (pg_name (i := 3) sc__law_near.nd (by rfl) (by first | exact Or.inl rfl | exact Or.inr rfl)) (pss_one (ps_for PassesOwn.never (by rfl) (pi_range2 (by rfl) T.range (pa_cons (pe_op opAdd (pv 3) pe_int) (pa_cons (pe_callB call_len (by rfl) T.len boot_len (pa_cons (pv 1) pa_nil)) pa_nil))) (pg_name (i := 4) sc__law_near.nd (by rfl) (by first | exact Or.inl rfl | exact Or.inr rfl)) (pss_one (ps_for PassesOwn.never (by rfl) (pi_range2 (by rfl) T.range (pa_cons (pe_op opAdd (pv 4) pe_int) (pa_cons (pe_op opAdd (pe_callB call_len (by rfl) T.len boot_len (pa_cons (pv 1) pa_nil)) pe_int) pa_nil))) (pg_name (i := 5) sc__law_near.nd (by rfl) (by first | exact Or.inl rfl | exact Or.inr rfl)) (pss_cons (ps_set (i := 6) sc__law_near.nd (by rfl) (by first | exact Or.inl rfl | exact Or.inr rfl) (pe_op opAdd (pe_slice slAll (pv 1) po_none (po_some (pv 3))) (pe_slice slAll (pv 1) (po_some (pv 4)) (po_some (pv 5)))))
      (pss_cons (ps_set (i := 6) sc__law_near.nd (by rfl) (by first | exact Or.inl rfl | exact Or.inr rfl) (pe_op opAdd (pe_op opAdd (pv 6) (pe_slice slAll (pv 1) (po_some (pv 3)) (po_some (pv 4)))) (pe_slice slAll (pv 1) (po_some (pv 5)) po_none)))
      (pss_one (ps_set (i := 2) sc__law_near.nd (by rfl) (by first | exact Or.inl rfl | exact Or.inr rfl) (pe_op opAdd (pv 2) (pe_op opMul (pe_lst (pa_cons (pv 6) pa_nil)) (pe_callTy call_int1 (by rfl) T.int boot_int (pa_cons (pe_call (ok__law_explains T) (hr.mono (by decide)) (by rfl) T.g__law_explains T.F__law_explains.kp T.b__law_explains .nil pass0 (pa_cons (pv 0) (pa_cons (pv 6) pa_nil))) pa_nil)))))))))))))
      (pss_one (ps_ret (pe_callB (cr_sortedT rfl) (by rfl) T.sorted boot_sorted (pa_cons (pe_callTy (cr_setOfT rfl (Nat.lt_of_succ_lt (hu65 hr))) (by rfl) T.set boot_set (pa_cons (pv 2) pa_nil)) pa_nil)))))), ?_⟩
  refine body_run (cl := fun _ => .none) (F := b__law_near) (m := m__law_near) (k := 2) ?_ (fun _ => ?_) h
  · exact (s_seq (s_set (ev_lst ev_nil))
      (s_seq (s_for (evi_rng1 (ev_cons (ev_B evl_len (ev_cons (ev_var 1) ev_nil)) ev_nil)) (evg_name 3) (s_for (evi_rng2 (ev_cons (ev_op e2_add (ev_var 3) (ev_int 1)) (ev_cons (ev_B evl_len (ev_cons (ev_var 1) ev_nil)) ev_nil))) (evg_name 4) (s_for (evi_rng2 (ev_cons (ev_op e2_add (ev_var 4) (ev_int 1)) (ev_cons (ev_op e2_add (ev_B evl_len (ev_cons (ev_var 1) ev_nil)) (ev_int 1)) ev_nil))) (evg_name 5) (s_seq (s_set (ev_op e2_add (ev_sl (ev_var 1) ev_noPart (ev_part (ev_var 3))) (ev_sl (ev_var 1) (ev_part (ev_var 4)) (ev_part (ev_var 5)))))
      (s_seq (s_set (ev_op e2_add (ev_op e2_add (ev_var 6) (ev_sl (ev_var 1) (ev_part (ev_var 3)) (ev_part (ev_var 4)))) (ev_sl (ev_var 1) (ev_part (ev_var 5)) ev_noPart)))
      (s_set (ev_op e2_add (ev_var 2) (ev_op e2_mul (ev_lst (ev_cons (ev_var 6) ev_nil)) (ev_B evl_int (ev_cons (ev_call (ev_cons (ev_var 0) (ev_cons (ev_var 6) ev_nil)) (dCons_len (dCons_len dNil_len))) ev_nil))))))))))
      (s_ret (ev_sortSetT (ev_var 2)))))
  · rfl
abbrev s__law_led : Stmt := top 30
abbrev N__law_led : List Str := ["_law_mode", "_law_story_here", "_law_one", "_law_other", "e"]
theorem sc__law_led : FnScope N__law_led ["_law_mode", "_law_story_here", "_law_one", "_law_other"] (defScope s__law_led) := ⟨rfl, rfl, rfl, by decide +kernel, rfl, by decide +kernel, by decide +kernel⟩
set_option maxHeartbeats 4000000 in
theorem ok__law_led (T : Txt K mg) : FnOk P w K mg base CX0 7 T.a__law_led T.fd__law_led ["_law_mode", "_law_story_here", "_law_one", "_law_other"] (spD K m__law_led 4) := by
  refine T.F__law_led.ok sc__law_led (fun vs H Q E h => h.1) (fun cdv A outer s H vs Q E hr h => ?_)
  refine ⟨_, (pss_one (ps_try_as (i := 4) (tb := fun W => tRet (tIf (tTest (tOp (rEqD K) (tVar 0) (tC (.int 0)))) (tCallS (spX K (clT T) m_near 2) (WE W) (tCons (tVar 1) (tCons (tVar 2) tNil))) (tCallS (spX K (clT T) m_road 3) (WE W) (tCons (tVar 1) (tCons (tVar 2) (tCons (tVar 3) tNil)))))) (ts := (fun a cls d => tsNo T.aC_InvalidOrder cls d ((fun a => tRet (tIf (tAnd (tIsE K T.aC_InvalidOrder a 4 T.aC_StoryError) (tNot (tIsE K T.aC_InvalidOrder a 4 T.aC_InvalidStory))) (tC (.str "order")) (tC (.str "other")))) a))) (Wout := fun _ _ _ _ => False) (by rfl) (by rfl) sc__law_led.nd (by rfl) (by rfl) ⟨by rfl, by decide, Or.inl T.gC_InvalidOrder⟩ takes0 (fun W pn xe tk _ => pss_one (ps_ret (pe_ifExp (pt_cmpR (op_eqD hr.units) (pv 0) pe_int (nomark _)) (pe_callS (ok_near T) (hr.mono (by decide)) (by rfl) T.g_near T.F_near.kp T.b_near (fun σ => passAt tk σ) (pa_cons (pv 1) (pa_cons (pv 2) pa_nil))) (pe_callS (ok_road T) (hr.mono (by decide)) (by rfl) T.g_road T.F_road.kp T.b_road (fun σ => passAt tk σ) (pa_cons (pv 1) (pa_cons (pv 2) (pa_cons (pv 3) pa_nil))))))) (fun a oe cls d pn hz hf => tsNo_of fun e1 e2 => by subst e1 e2; exact pss_one (ps_ret (pe_ifExp (PW.pt (pw_and (pt_truth (pe_callB (call_isE T.ec_InvalidOrder hz hf) (by rfl) T.isinstance boot_isinstance (pa_cons (pv 4) (pa_cons (pe_glob (v := .ref T.aC_StoryError) (by rfl) T.gC_StoryError (by rfl)) pa_nil))) (by intro _; rfl)) (pw_and1 (pt_not (pt_truth (pe_callB (call_isE T.ec_InvalidOrder hz hf) (by rfl) T.isinstance boot_isinstance (pa_cons (pv 4) (pa_cons (pe_glob (v := .ref T.aC_InvalidStory) (by rfl) T.gC_InvalidStory (by rfl)) pa_nil))) (by intro _; rfl)))))) pe_str pe_str))))), ?_⟩
  refine body_run (t := fun D σ H => (fun W => tRet (tIf (tTest (tOp (rEqD K) (tVar 0) (tC (.int 0)))) (tCallS (spX K (clT T) m_near 2) (WE W) (tCons (tVar 1) (tCons (tVar 2) tNil))) (tCallS (spX K (clT T) m_road 3) (WE W) (tCons (tVar 1) (tCons (tVar 2) (tCons (tVar 3) tNil)))))) (wAs K (.ref T.aC_InvalidOrder) 4 (fun a cls d => tsNo T.aC_InvalidOrder cls d ((fun a => tRet (tIf (tAnd (tIsE K T.aC_InvalidOrder a 4 T.aC_StoryError) (tNot (tIsE K T.aC_InvalidOrder a 4 T.aC_InvalidStory))) (tC (.str "order")) (tC (.str "other")))) a)) (fun _ _ _ _ => False) D) D σ H) (cl := clT T) (F := b__law_led) (m := m__law_led) (k := 4) ?_ (fun _ => ?_) h
  · exact (s_try1 (cl := clT T) (te := fun W => (tIf (tTest (tOp (rEqD K) (tVar 0) (tC (.int 0)))) (tCallS (spX K (clT T) m_near 2) (WE W) (tCons (tVar 1) (tCons (tVar 2) tNil))) (tCallS (spX K (clT T) m_road 3) (WE W) (tCons (tVar 1) (tCons (tVar 2) (tCons (tVar 3) tNil)))))) (c := .ref T.aC_InvalidOrder) (tt := (fun a => tRet (tIf (tAnd (tIsE K T.aC_InvalidOrder a 4 T.aC_StoryError) (tNot (tIsE K T.aC_InvalidOrder a 4 T.aC_InvalidStory))) (tC (.str "order")) (tC (.str "other"))))) (k0 := 6) rfl T.ex_InvalidOrder (by decide +kernel) (fun W => (evr_if (ev_tTest (ev_op e2_eq (ev_var 0) (ev_int 0))) (evr_call (ev_cons (ev_var 1) (ev_cons (ev_var 2) ev_nil)) (dCons_len (dCons_len dNil_len))) (evr_call (ev_cons (ev_var 1) (ev_cons (ev_var 2) (ev_cons (ev_var 3) ev_nil))) (dCons_len (dCons_len (dCons_len dNil_len)))))) (fun a σ H E => suite_no T.kit_InvalidOrder_StoryError T.kit_InvalidOrder_InvalidStory σ H E))
  · rfl
abbrev s_law : Stmt := top 31
abbrev N_law : List Str := ["_law_script", "_law_draws", "_law_story_here", "_law_every_here", "_law_wrong", "_law_one", "_law_other", "_law_found", "_law_level", "_law_seen", "_law_many", "_law_later", "_law_order", "_law_more", "_law_at"]
theorem sc_law : FnScope N_law ["_law_script"] (defScope s_law) := ⟨rfl, rfl, rfl, by decide +kernel, rfl, by decide +kernel, by decide +kernel⟩
set_option maxHeartbeats 4000000 in
theorem ok_law (T : Txt K mg) : FnOk P w K mg base CX0 8 T.a_law T.fd_law ["_law_script"] (spD K m_law 1) := by
  refine T.F_law.ok sc_law (fun vs H Q E h => h.1) (fun cdv A outer s H vs Q E hr h => ?_)
  refine ⟨_, (pss_cons (ps_set (i := 1) sc_law.nd (by rfl) (by first | exact Or.inl rfl | exact Or.inr rfl) (pe_call (ok__law_row T) (hr.mono (by decide)) (by rfl) T.g__law_row T.F__law_row.kp T.b__law_row .nil pass0 (pa_cons (pv 0) (pa_cons pe_int pa_nil))))
      (pss_cons (ps_set (i := 2) sc_law.nd (by rfl) (by first | exact Or.inl rfl | exact Or.inr rfl) (pe_call (ok__law_story T) (hr.mono (by decide)) (by rfl) T.g__law_story T.F__law_story.kp T.b__law_story .nil pass0 (pa_cons (pv 0) (pa_cons pe_int (pa_cons pe_int pa_nil)))))
      (pss_cons (ps_set (i := 3) sc_law.nd (by rfl) (by first | exact Or.inl rfl | exact Or.inr rfl) (pe_call (ok__law_every T) (hr.mono (by decide)) (by rfl) T.g__law_every T.F__law_every.kp T.b__law_every .nil pass0 (pa_cons (pv 2) pa_nil)))
      (pss_cons (ps_set (i := 4) sc_law.nd (by rfl) (by first | exact Or.inl rfl | exact Or.inr rfl) (pe_ix ix_seq (pe_lst (pa_cons pe_non (pa_cons (pe_listRg (by rfl) (by rfl) T.list (prg_1 (by rfl) T.range (pe_callB call_len (by rfl) T.len boot_len (pa_cons (pv 2) pa_nil)))) (pa_cons (pe_op opAdd (pe_op op_repF (pe_tupF (pa_cons pe_int pa_nil)) (pe_callB call_len (by rfl) T.len boot_len (pa_cons (pv 2) pa_nil))) (pe_tupF (pa_cons pe_int pa_nil))) (pa_cons (pe_tupF (pa_cons (pe_callB call_len (by rfl) T.len boot_len (pa_cons (pv 2) pa_nil)) pa_nil)) pa_nil))))) (pe_op op_mod (pe_ix ix_seq (pv 1) pe_int (by exact fun _ _ => rfl)) pe_int) (by exact fun _ _ => rfl)))
      (pss_cons (ps_if (PW.pt (pw_or (pt_cmpR (op_neD hr.units) (pe_call (ok__law_led T) (hr.mono (by decide)) (by rfl) T.g__law_led T.F__law_led.kp T.b__law_led .nil pass0 (pa_cons pe_int (pa_cons (pv 2) (pa_cons (pv 4) (pa_cons pe_non pa_nil))))) pe_str (nomark _)) (pw_or1 (pt_cmpR (op_neD hr.units) (pe_call (ok__law_led T) (hr.mono (by decide)) (by rfl) T.g__law_led T.F__law_led.kp T.b__law_led .nil pass0 (pa_cons pe_int (pa_cons (pv 2) (pa_cons (pv 4) (pa_cons (pv 4) pa_nil))))) pe_str (nomark _))))) (pss_one (ps_ret pe_bl)) pss_nil)
      (pss_cons (ps_if (pt_cmpR (op_eqD hr.units) (pv 3) (pe_lst pa_nil) (nomark _)) (pss_one (ps_ret pe_bl)) pss_nil)
      (pss_cons (ps_set (i := 5) sc_law.nd (by rfl) (by first | exact Or.inl rfl | exact Or.inr rfl) (pe_ix ix_seq (pv 3) (pe_op op_mod (pe_ix ix_seq (pv 1) pe_int (by exact fun _ _ => rfl)) (pe_callB call_len (by rfl) T.len boot_len (pa_cons (pv 3) pa_nil))) (by exact fun _ _ => rfl)))
      (pss_cons (ps_set (i := 6) sc_law.nd (by rfl) (by first | exact Or.inl rfl | exact Or.inr rfl) (pe_ix ix_seq (pv 3) (pe_op op_mod (pe_ix ix_seq (pv 1) pe_int (by exact fun _ _ => rfl)) (pe_callB call_len (by rfl) T.len boot_len (pa_cons (pv 3) pa_nil))) (by exact fun _ _ => rfl)))
      (pss_cons (ps_if (PW.pt (pw_or (pt_cmpR (op_neD hr.units) (pe_call (ok_near T) (hr.mono (by decide)) (by rfl) T.g_near T.F_near.kp T.b_near .nil passL (pa_cons (pv 2) (pa_cons (pv 5) pa_nil))) (pe_call (ok__law_near T) (hr.mono (by decide)) (by rfl) T.g__law_near T.F__law_near.kp T.b__law_near .nil pass0 (pa_cons (pv 2) (pa_cons (pv 5) pa_nil))) (nomark _)) (pw_or1 (pt_cmpR (op_neD hr.units) (pe_call (ok__law_led T) (hr.mono (by decide)) (by rfl) T.g__law_led T.F__law_led.kp T.b__law_led .nil pass0 (pa_cons pe_int (pa_cons (pv 2) (pa_cons (pv 5) (pa_cons (pv 4) pa_nil))))) pe_str (nomark _))))) (pss_one (ps_ret pe_bl)) pss_nil)
      (pss_cons (ps_set (i := 7) sc_law.nd (by rfl) (by first | exact Or.inl rfl | exact Or.inr rfl) (pe_call (ok_road T) (hr.mono (by decide)) (by rfl) T.g_road T.F_road.kp T.b_road .nil passL (pa_cons (pv 2) (pa_cons (pv 5) (pa_cons (pv 6) pa_nil)))))
      (pss_cons (ps_asg (pe_tupF (pa_cons (pe_lst (pa_cons (pv 5) pa_nil)) (pa_cons (pe_lst (pa_cons (pv 5) pa_nil)) (pa_cons pe_int pa_nil)))) (pg_tup (by rfl) (pgs_cons (pg_name (i := 8) sc_law.nd (by rfl) (by first | exact Or.inl rfl | exact Or.inr rfl)) (pgs_cons (pg_name (i := 9) sc_law.nd (by rfl) (by first | exact Or.inl rfl | exact Or.inr rfl)) (pgs_cons (pg_name (i := 10) sc_law.nd (by rfl) (by first | exact Or.inl rfl | exact Or.inr rfl)) pgs_nil)))))
      (pss_cons (ps_while PassesOwn.never (pt_cmpR (op_notInA (hu65 hr)) (pv 6) (pv 9) (by rfl)) (pss_cons (ps_set (i := 11) sc_law.nd (by rfl) (by first | exact Or.inl rfl | exact Or.inr rfl) (pe_lst pa_nil))
      (pss_cons (ps_for PassesOwn.never (by rfl) (pi_or (pi_list (pv 8)) (pi_tup (pv 8))) (pg_name (i := 12) sc_law.nd (by rfl) (by first | exact Or.inl rfl | exact Or.inr rfl)) (pss_one (ps_set (i := 11) sc_law.nd (by rfl) (by first | exact Or.inl rfl | exact Or.inr rfl) (pe_op opAdd (pv 11) (pe_lc (own := [("_law_more", 13)]) (g := (gName 13)) (tt := (tAnd (tTest (tOp (rInA K true) (tVar 13) (tVar 9))) (tTest (tOp (rInA K true) (tVar 13) (tVar 11))))) (te := (tVar 13)) (by rfl) sc_law.nd (pi_or (pi_list (pe_call (ok__law_near T) (hr.mono (by decide)) (by rfl) T.g__law_near T.F__law_near.kp T.b__law_near .nil pass0 (pa_cons (pv 2) (pa_cons (pv 12) pa_nil)))) (pi_tup (pe_call (ok__law_near T) (hr.mono (by decide)) (by rfl) T.g__law_near T.F__law_near.kp T.b__law_near .nil pass0 (pa_cons (pv 2) (pa_cons (pv 12) pa_nil))))) (blkOk_by (N := N_law) (sc := defScope s_law) (by decide +kernel)) (fun _ _ _ _ _ => (pg_name (i := 13) sc_law.nd (by rfl) (by first | exact Or.inl rfl | exact Or.inr rfl))) (fun _ _ _ _ _ => (pts_one (PW.pt (pw_and (pt_cmpR (op_notInA (hu65 hr)) (pv 13) (pv 9) (by rfl)) (pw_and1 (pt_cmpR (op_notInA (hu65 hr)) (pv 13) (pv 11) (by rfl))))))) (fun _ _ _ _ _ => (pv 13)))))))
      (pss_cons (ps_set (i := 9) sc_law.nd (by rfl) (by first | exact Or.inl rfl | exact Or.inr rfl) (pe_op opAdd (pv 9) (pv 11)))
      (pss_cons (ps_set (i := 8) sc_law.nd (by rfl) (by first | exact Or.inl rfl | exact Or.inr rfl) (pv 11))
      (pss_one (ps_set (i := 10) sc_law.nd (by rfl) (by first | exact Or.inl rfl | exact Or.inr rfl) (pe_op opAdd (pv 10) pe_int))))))))
      (pss_cons (ps_if (PW.pt (pw_or (pt_cmpR (op_neD hr.units) (pe_ix ix_seq (pv 7) pe_int (by exact fun _ _ => rfl)) (pv 5) (nomark _)) (pw_or (pt_cmpR (op_neD hr.units) (pe_ix ix_seq (pv 7) (pe_un un_neg pe_int) (by exact fun _ _ => rfl)) (pv 6) (nomark _)) (pw_or1 (pt_cmpR (op_neD hr.units) (pe_callB call_len (by rfl) T.len boot_len (pa_cons (pv 7) pa_nil)) (pe_op opAdd (pv 10) pe_int) (nomark _)))))) (pss_one (ps_ret pe_bl)) pss_nil)
      (pss_one (ps_ret (pe_cmpR (op_eqD hr.units) (pe_lc (own := [("_law_at", 14)]) (g := (gName 14)) (tt := (tTest (tOp (rInA K true) (tOp (rIx K) (tVar 7) (tVar 14)) (tCall (spD K m__law_near 2) [] E0 (tCons (tVar 2) (tCons (tOp (rIx K) (tVar 7) (tOp rSubD (tVar 14) (tC (.int 1)))) tNil)))))) (te := (tVar 14)) (by rfl) sc_law.nd (pi_range2 (by rfl) T.range (pa_cons pe_int (pa_cons (pe_callB call_len (by rfl) T.len boot_len (pa_cons (pv 7) pa_nil)) pa_nil))) (blkOk_by (N := N_law) (sc := defScope s_law) (by decide +kernel)) (fun _ _ _ _ _ => (pg_name (i := 14) sc_law.nd (by rfl) (by first | exact Or.inl rfl | exact Or.inr rfl))) (fun _ _ _ _ _ => (pts_one (pt_cmpR (op_notInA (hu65 hr)) (pe_ix ix_seq (pv 7) (pv 14) (by exact fun _ _ => rfl)) (pe_call (ok__law_near T) (hr.mono (by decide)) (by rfl) T.g__law_near T.F__law_near.kp T.b__law_near .nil pass0 (pa_cons (pv 2) (pa_cons (pe_ix ix_seq (pv 7) (pe_op op_sub (pv 14) pe_int) (by exact fun _ _ => rfl)) pa_nil))) (by rfl)))) (fun _ _ _ _ _ => (pv 14))) (pe_lst pa_nil) (nomark _))))))))))))))))), ?_⟩
  refine body_run (cl := fun _ => .none) (F := b_law) (m := m_law) (k := 1) ?_ (fun _ => ?_) h
  · exact (s_seq (s_set (ev_call (ev_cons (ev_var 0) (ev_cons (ev_int 4) ev_nil)) (dCons_len (dCons_len dNil_len))))
      (s_seq (s_set (ev_call (ev_cons (ev_var 0) (ev_cons (ev_int 2) (ev_cons (ev_int 5) ev_nil))) (dCons_len (dCons_len (dCons_len dNil_len)))))
      (s_seq (s_set (ev_call (ev_cons (ev_var 2) ev_nil) (dCons_len dNil_len)))
      (s_seq (s_set (ev_op e2_ix (ev_lst (ev_cons ev_non (ev_cons (ev_listRg (ev_B evl_len (ev_cons (ev_var 2) ev_nil))) (ev_cons (ev_op e2_add (ev_op e2_repF (ev_tup (ev_cons (ev_int 0) ev_nil)) (ev_B evl_len (ev_cons (ev_var 2) ev_nil))) (ev_tup (ev_cons (ev_int 0) ev_nil))) (ev_cons (ev_tup (ev_cons (ev_B evl_len (ev_cons (ev_var 2) ev_nil)) ev_nil)) ev_nil))))) (ev_op e2_mod (ev_op e2_ix (ev_var 1) (ev_int 0)) (ev_int 4))))
      (s_seq (s_if (ev_tOr (ev_tTest (ev_op e2_ne (ev_call (ev_cons (ev_int 0) (ev_cons (ev_var 2) (ev_cons (ev_var 4) (ev_cons ev_non ev_nil)))) (dCons_len (dCons_len (dCons_len (dCons_len dNil_len))))) (ev_str "order" (by decide +kernel)))) (ev_tTest (ev_op e2_ne (ev_call (ev_cons (ev_int 1) (ev_cons (ev_var 2) (ev_cons (ev_var 4) (ev_cons (ev_var 4) ev_nil)))) (dCons_len (dCons_len (dCons_len (dCons_len dNil_len))))) (ev_str "order" (by decide +kernel))))) (s_ret (ev_bl false)) s_next)
      (s_seq (s_if (ev_tTest (ev_op e2_eq (ev_var 3) (ev_lst ev_nil))) (s_ret (ev_bl true)) s_next)
      (s_seq (s_set (ev_op e2_ix (ev_var 3) (ev_op e2_mod (ev_op e2_ix (ev_var 1) (ev_int 1)) (ev_B evl_len (ev_cons (ev_var 3) ev_nil)))))
      (s_seq (s_set (ev_op e2_ix (ev_var 3) (ev_op e2_mod (ev_op e2_ix (ev_var 1) (ev_int 2)) (ev_B evl_len (ev_cons (ev_var 3) ev_nil)))))
      (s_seq (s_if (ev_tOr (ev_tTest (ev_op e2_ne (ev_callX (ev_cons (ev_var 2) (ev_cons (ev_var 5) ev_nil)) (dCons_len (dCons_len dNil_len))) (ev_call (ev_cons (ev_var 2) (ev_cons (ev_var 5) ev_nil)) (dCons_len (dCons_len dNil_len))))) (ev_tTest (ev_op e2_ne (ev_call (ev_cons (ev_int 1) (ev_cons (ev_var 2) (ev_cons (ev_var 5) (ev_cons (ev_var 4) ev_nil)))) (dCons_len (dCons_len (dCons_len (dCons_len dNil_len))))) (ev_str "order" (by decide +kernel))))) (s_ret (ev_bl false)) s_next)
      (s_seq (s_set (ev_callX (ev_cons (ev_var 2) (ev_cons (ev_var 5) (ev_cons (ev_var 6) ev_nil))) (dCons_len (dCons_len (dCons_len dNil_len)))))
      (s_seq (s_tgt (ev_tup (ev_cons (ev_lst (ev_cons (ev_var 5) ev_nil)) (ev_cons (ev_lst (ev_cons (ev_var 5) ev_nil)) (ev_cons (ev_int 0) ev_nil)))) (evg_tup [8, 9, 10] 3 rfl))
      (s_seq (s_while 1000 (ev_tTest (ev_op (e2_in true) (ev_var 6) (ev_var 9))) (s_seq (s_set (ev_lst ev_nil))
      (s_seq (s_for (evi_seq (ev_var 8)) (evg_name 12) (s_set (ev_op e2_add (ev_var 11) (ev_lc (evi_seq (ev_call (ev_cons (ev_var 2) (ev_cons (ev_var 12) ev_nil)) (dCons_len (dCons_len dNil_len)))) (evg_name 13) (ev_tAnd (ev_tTest (ev_op (e2_in true) (ev_var 13) (ev_var 9))) (ev_tTest (ev_op (e2_in true) (ev_var 13) (ev_var 11)))) (ev_var 13)))))
      (s_seq (s_set (ev_op e2_add (ev_var 9) (ev_var 11)))
      (s_seq (s_set (ev_var 11))
      (s_set (ev_op e2_add (ev_var 10) (ev_int 1))))))))
      (s_seq (s_if (ev_tOr (ev_tTest (ev_op e2_ne (ev_op e2_ix (ev_var 7) (ev_int 0)) (ev_var 5))) (ev_tOr (ev_tTest (ev_op e2_ne (ev_op e2_ix (ev_var 7) (ev_un e1_neg (ev_int 1))) (ev_var 6))) (ev_tTest (ev_op e2_ne (ev_B evl_len (ev_cons (ev_var 7) ev_nil)) (ev_op e2_add (ev_var 10) (ev_int 1)))))) (s_ret (ev_bl false)) s_next)
      (s_ret (ev_op e2_eq (ev_lc (evi_rng2 (ev_cons (ev_int 1) (ev_cons (ev_B evl_len (ev_cons (ev_var 7) ev_nil)) ev_nil))) (evg_name 14) (ev_tTest (ev_op (e2_in true) (ev_op e2_ix (ev_var 7) (ev_var 14)) (ev_call (ev_cons (ev_var 2) (ev_cons (ev_op e2_ix (ev_var 7) (ev_op e2_sub (ev_var 14) (ev_int 1))) ev_nil)) (dCons_len (dCons_len dNil_len))))) (ev_var 14)) (ev_lst ev_nil))))))))))))))))
  · rfl
set_option maxHeartbeats 4000000 in
theorem all_mk {h : Heap} {fa : Addr} (X : K.In h) (G : h.Ns mainGlobals mg) (hfa : mg "law" = some (.ref fa))
    {f_in_range : Addr} {od_in_range an_in_range : Option Addr} {sl_in_range : Array (Option Value)} {oc_in_range kV_in_range dc_in_range pm_in_range cd_in_range ct_in_range : Value}
    {f_precedes : Addr} {od_precedes an_precedes : Option Addr} {sl_precedes : Array (Option Value)} {oc_precedes kV_precedes dc_precedes pm_precedes cd_precedes ct_precedes : Value}
    {f_may_follow : Addr} {od_may_follow an_may_follow : Option Addr} {sl_may_follow : Array (Option Value)} {oc_may_follow kV_may_follow dc_may_follow pm_may_follow cd_may_follow ct_may_follow : Value}
    {f_explains_story : Addr} {od_explains_story an_explains_story : Option Addr} {sl_explains_story : Array (Option Value)} {oc_explains_story kV_explains_story dc_explains_story pm_explains_story cd_explains_story ct_explains_story : Value}
    {f_near_of : Addr} {od_near_of an_near_of : Option Addr} {sl_near_of : Array (Option Value)} {oc_near_of kV_near_of dc_near_of pm_near_of cd_near_of ct_near_of : Value}
    {f_is_operation : Addr} {od_is_operation an_is_operation : Option Addr} {sl_is_operation : Array (Option Value)} {oc_is_operation kV_is_operation dc_is_operation pm_is_operation cd_is_operation ct_is_operation : Value}
    {f_is_story : Addr} {od_is_story an_is_story : Option Addr} {sl_is_story : Array (Option Value)} {oc_is_story kV_is_story dc_is_story pm_is_story cd_is_story ct_is_story : Value}
    {f_check_story : Addr} {od_check_story an_check_story : Option Addr} {sl_check_story : Array (Option Value)} {oc_check_story kV_check_story dc_check_story pm_check_story cd_check_story ct_check_story : Value}
    {f_check_order : Addr} {od_check_order an_check_order : Option Addr} {sl_check_order : Array (Option Value)} {oc_check_order kV_check_order dc_check_order pm_check_order cd_check_order ct_check_order : Value}
    {f_near : Addr} {od_near an_near : Option Addr} {sl_near : Array (Option Value)} {oc_near kV_near dc_near pm_near cd_near ct_near : Value}
    {f_road : Addr} {od_road an_road : Option Addr} {sl_road : Array (Option Value)} {oc_road kV_road dc_road pm_road cd_road ct_road : Value}
    {f__law_cell : Addr} {od__law_cell an__law_cell : Option Addr} {sl__law_cell : Array (Option Value)} {oc__law_cell kV__law_cell dc__law_cell pm__law_cell cd__law_cell ct__law_cell : Value}
    {f__law_row : Addr} {od__law_row an__law_row : Option Addr} {sl__law_row : Array (Option Value)} {oc__law_row kV__law_row dc__law_row pm__law_row cd__law_row ct__law_row : Value}
    {f__law_story : Addr} {od__law_story an__law_story : Option Addr} {sl__law_story : Array (Option Value)} {oc__law_story kV__law_story dc__law_story pm__law_story cd__law_story ct__law_story : Value}
    {f__law_every : Addr} {od__law_every an__law_every : Option Addr} {sl__law_every : Array (Option Value)} {oc__law_every kV__law_every dc__law_every pm__law_every cd__law_every ct__law_every : Value}
    {f__law_whole : Addr} {od__law_whole an__law_whole : Option Addr} {sl__law_whole : Array (Option Value)} {oc__law_whole kV__law_whole dc__law_whole pm__law_whole cd__law_whole ct__law_whole : Value}
    {f__law_in : Addr} {od__law_in an__law_in : Option Addr} {sl__law_in : Array (Option Value)} {oc__law_in kV__law_in dc__law_in pm__law_in cd__law_in ct__law_in : Value}
    {f__law_explains : Addr} {od__law_explains an__law_explains : Option Addr} {sl__law_explains : Array (Option Value)} {oc__law_explains kV__law_explains dc__law_explains pm__law_explains cd__law_explains ct__law_explains : Value}
    {f__law_near : Addr} {od__law_near an__law_near : Option Addr} {sl__law_near : Array (Option Value)} {oc__law_near kV__law_near dc__law_near pm__law_near cd__law_near ct__law_near : Value}
    {f__law_led : Addr} {od__law_led an__law_led : Option Addr} {sl__law_led : Array (Option Value)} {oc__law_led kV__law_led dc__law_led pm__law_led cd__law_led ct__law_led : Value}
    {f_law : Addr} {od_law an_law : Option Addr} {sl_law : Array (Option Value)} {oc_law kV_law dc_law pm_law cd_law ct_law : Value}
    {f_KINDS : Addr} {t_KINDS_0 t_KINDS_1 : Tok} {n_KINDS : Nat} {sl_KINDS : Array (Option Value)}
    {t_MAX_OPERATIONS : Tok}
    {t_MAX_TIME : Tok}
    {t_MAX_VALUE : Tok}
    {e_InvalidStory : Addr}
    {e_InvalidOrder : Addr}
    {e_StoryError : Addr}
    (z1_in_range : PySem.W.nsIn K mainGlobals "in_range" = some (some (.ref f_in_range))) (z2_in_range : K.lookup f_in_range = some ⟨oc_in_range, od_in_range, .func (PySem.W.fnOf "in_range" "in_range" (defArgs (top 9)) (defBody (top 9)) (defScope (top 9)) .none kV_in_range dc_in_range pm_in_range an_in_range cd_in_range ct_in_range), sl_in_range⟩) (z3_in_range : PySem.W.codeIn K cd_in_range "in_range" = true) (z4_in_range : PySem.W.keepIn K (.ref f_in_range) = true)
    (z1_precedes : PySem.W.nsIn K mainGlobals "precedes" = some (some (.ref f_precedes))) (z2_precedes : K.lookup f_precedes = some ⟨oc_precedes, od_precedes, .func (PySem.W.fnOf "precedes" "precedes" (defArgs (top 13)) (defBody (top 13)) (defScope (top 13)) .none kV_precedes dc_precedes pm_precedes an_precedes cd_precedes ct_precedes), sl_precedes⟩) (z3_precedes : PySem.W.codeIn K cd_precedes "precedes" = true) (z4_precedes : PySem.W.keepIn K (.ref f_precedes) = true)
    (z1_may_follow : PySem.W.nsIn K mainGlobals "may_follow" = some (some (.ref f_may_follow))) (z2_may_follow : K.lookup f_may_follow = some ⟨oc_may_follow, od_may_follow, .func (PySem.W.fnOf "may_follow" "may_follow" (defArgs (top 14)) (defBody (top 14)) (defScope (top 14)) .none kV_may_follow dc_may_follow pm_may_follow an_may_follow cd_may_follow ct_may_follow), sl_may_follow⟩) (z3_may_follow : PySem.W.codeIn K cd_may_follow "may_follow" = true) (z4_may_follow : PySem.W.keepIn K (.ref f_may_follow) = true)
    (z1_explains_story : PySem.W.nsIn K mainGlobals "explains_story" = some (some (.ref f_explains_story))) (z2_explains_story : K.lookup f_explains_story = some ⟨oc_explains_story, od_explains_story, .func (PySem.W.fnOf "explains_story" "explains_story" (defArgs (top 15)) (defBody (top 15)) (defScope (top 15)) .none kV_explains_story dc_explains_story pm_explains_story an_explains_story cd_explains_story ct_explains_story), sl_explains_story⟩) (z3_explains_story : PySem.W.codeIn K cd_explains_story "explains_story" = true) (z4_explains_story : PySem.W.keepIn K (.ref f_explains_story) = true)
    (z1_near_of : PySem.W.nsIn K mainGlobals "near_of" = some (some (.ref f_near_of))) (z2_near_of : K.lookup f_near_of = some ⟨oc_near_of, od_near_of, .func (PySem.W.fnOf "near_of" "near_of" (defArgs (top 17)) (defBody (top 17)) (defScope (top 17)) .none kV_near_of dc_near_of pm_near_of an_near_of cd_near_of ct_near_of), sl_near_of⟩) (z3_near_of : PySem.W.codeIn K cd_near_of "near_of" = true) (z4_near_of : PySem.W.keepIn K (.ref f_near_of) = true)
    (z1_is_operation : PySem.W.nsIn K mainGlobals "is_operation" = some (some (.ref f_is_operation))) (z2_is_operation : K.lookup f_is_operation = some ⟨oc_is_operation, od_is_operation, .func (PySem.W.fnOf "is_operation" "is_operation" (defArgs (top 10)) (defBody (top 10)) (defScope (top 10)) .none kV_is_operation dc_is_operation pm_is_operation an_is_operation cd_is_operation ct_is_operation), sl_is_operation⟩) (z3_is_operation : PySem.W.codeIn K cd_is_operation "is_operation" = true) (z4_is_operation : PySem.W.keepIn K (.ref f_is_operation) = true)
    (z1_is_story : PySem.W.nsIn K mainGlobals "is_story" = some (some (.ref f_is_story))) (z2_is_story : K.lookup f_is_story = some ⟨oc_is_story, od_is_story, .func (PySem.W.fnOf "is_story" "is_story" (defArgs (top 11)) (defBody (top 11)) (defScope (top 11)) .none kV_is_story dc_is_story pm_is_story an_is_story cd_is_story ct_is_story), sl_is_story⟩) (z3_is_story : PySem.W.codeIn K cd_is_story "is_story" = true) (z4_is_story : PySem.W.keepIn K (.ref f_is_story) = true)
    (z1_check_story : PySem.W.nsIn K mainGlobals "check_story" = some (some (.ref f_check_story))) (z2_check_story : K.lookup f_check_story = some ⟨oc_check_story, od_check_story, .func (PySem.W.fnOf "check_story" "check_story" (defArgs (top 12)) (defBody (top 12)) (defScope (top 12)) .none kV_check_story dc_check_story pm_check_story an_check_story cd_check_story ct_check_story), sl_check_story⟩) (z3_check_story : PySem.W.codeIn K cd_check_story "check_story" = true) (z4_check_story : PySem.W.keepIn K (.ref f_check_story) = true)
    (z1_check_order : PySem.W.nsIn K mainGlobals "check_order" = some (some (.ref f_check_order))) (z2_check_order : K.lookup f_check_order = some ⟨oc_check_order, od_check_order, .func (PySem.W.fnOf "check_order" "check_order" (defArgs (top 18)) (defBody (top 18)) (defScope (top 18)) .none kV_check_order dc_check_order pm_check_order an_check_order cd_check_order ct_check_order), sl_check_order⟩) (z3_check_order : PySem.W.codeIn K cd_check_order "check_order" = true) (z4_check_order : PySem.W.keepIn K (.ref f_check_order) = true)
    (z1_near : PySem.W.nsIn K mainGlobals "near" = some (some (.ref f_near))) (z2_near : K.lookup f_near = some ⟨oc_near, od_near, .func (PySem.W.fnOf "near" "near" (defArgs (top 19)) (defBody (top 19)) (defScope (top 19)) .none kV_near dc_near pm_near an_near cd_near ct_near), sl_near⟩) (z3_near : PySem.W.codeIn K cd_near "near" = true) (z4_near : PySem.W.keepIn K (.ref f_near) = true)
    (z1_road : PySem.W.nsIn K mainGlobals "road" = some (some (.ref f_road))) (z2_road : K.lookup f_road = some ⟨oc_road, od_road, .func (PySem.W.fnOf "road" "road" (defArgs (top 20)) (defBody (top 20)) (defScope (top 20)) .none kV_road dc_road pm_road an_road cd_road ct_road), sl_road⟩) (z3_road : PySem.W.codeIn K cd_road "road" = true) (z4_road : PySem.W.keepIn K (.ref f_road) = true)
    (z1__law_cell : PySem.W.nsIn K mainGlobals "_law_cell" = some (some (.ref f__law_cell))) (z2__law_cell : K.lookup f__law_cell = some ⟨oc__law_cell, od__law_cell, .func (PySem.W.fnOf "_law_cell" "_law_cell" (defArgs (top 22)) (defBody (top 22)) (defScope (top 22)) .none kV__law_cell dc__law_cell pm__law_cell an__law_cell cd__law_cell ct__law_cell), sl__law_cell⟩) (z3__law_cell : PySem.W.codeIn K cd__law_cell "_law_cell" = true) (z4__law_cell : PySem.W.keepIn K (.ref f__law_cell) = true)
    (z1__law_row : PySem.W.nsIn K mainGlobals "_law_row" = some (some (.ref f__law_row))) (z2__law_row : K.lookup f__law_row = some ⟨oc__law_row, od__law_row, .func (PySem.W.fnOf "_law_row" "_law_row" (defArgs (top 24)) (defBody (top 24)) (defScope (top 24)) .none kV__law_row dc__law_row pm__law_row an__law_row cd__law_row ct__law_row), sl__law_row⟩) (z3__law_row : PySem.W.codeIn K cd__law_row "_law_row" = true) (z4__law_row : PySem.W.keepIn K (.ref f__law_row) = true)
    (z1__law_story : PySem.W.nsIn K mainGlobals "_law_story" = some (some (.ref f__law_story))) (z2__law_story : K.lookup f__law_story = some ⟨oc__law_story, od__law_story, .func (PySem.W.fnOf "_law_story" "_law_story" (defArgs (top 26)) (defBody (top 26)) (defScope (top 26)) .none kV__law_story dc__law_story pm__law_story an__law_story cd__law_story ct__law_story), sl__law_story⟩) (z3__law_story : PySem.W.codeIn K cd__law_story "_law_story" = true) (z4__law_story : PySem.W.keepIn K (.ref f__law_story) = true)
    (z1__law_every : PySem.W.nsIn K mainGlobals "_law_every" = some (some (.ref f__law_every))) (z2__law_every : K.lookup f__law_every = some ⟨oc__law_every, od__law_every, .func (PySem.W.fnOf "_law_every" "_law_every" (defArgs (top 28)) (defBody (top 28)) (defScope (top 28)) .none kV__law_every dc__law_every pm__law_every an__law_every cd__law_every ct__law_every), sl__law_every⟩) (z3__law_every : PySem.W.codeIn K cd__law_every "_law_every" = true) (z4__law_every : PySem.W.keepIn K (.ref f__law_every) = true)
    (z1__law_whole : PySem.W.nsIn K mainGlobals "_law_whole" = some (some (.ref f__law_whole))) (z2__law_whole : K.lookup f__law_whole = some ⟨oc__law_whole, od__law_whole, .func (PySem.W.fnOf "_law_whole" "_law_whole" (defArgs (top 23)) (defBody (top 23)) (defScope (top 23)) .none kV__law_whole dc__law_whole pm__law_whole an__law_whole cd__law_whole ct__law_whole), sl__law_whole⟩) (z3__law_whole : PySem.W.codeIn K cd__law_whole "_law_whole" = true) (z4__law_whole : PySem.W.keepIn K (.ref f__law_whole) = true)
    (z1__law_in : PySem.W.nsIn K mainGlobals "_law_in" = some (some (.ref f__law_in))) (z2__law_in : K.lookup f__law_in = some ⟨oc__law_in, od__law_in, .func (PySem.W.fnOf "_law_in" "_law_in" (defArgs (top 25)) (defBody (top 25)) (defScope (top 25)) .none kV__law_in dc__law_in pm__law_in an__law_in cd__law_in ct__law_in), sl__law_in⟩) (z3__law_in : PySem.W.codeIn K cd__law_in "_law_in" = true) (z4__law_in : PySem.W.keepIn K (.ref f__law_in) = true)
    (z1__law_explains : PySem.W.nsIn K mainGlobals "_law_explains" = some (some (.ref f__law_explains))) (z2__law_explains : K.lookup f__law_explains = some ⟨oc__law_explains, od__law_explains, .func (PySem.W.fnOf "_law_explains" "_law_explains" (defArgs (top 27)) (defBody (top 27)) (defScope (top 27)) .none kV__law_explains dc__law_explains pm__law_explains an__law_explains cd__law_explains ct__law_explains), sl__law_explains⟩) (z3__law_explains : PySem.W.codeIn K cd__law_explains "_law_explains" = true) (z4__law_explains : PySem.W.keepIn K (.ref f__law_explains) = true)
    (z1__law_near : PySem.W.nsIn K mainGlobals "_law_near" = some (some (.ref f__law_near))) (z2__law_near : K.lookup f__law_near = some ⟨oc__law_near, od__law_near, .func (PySem.W.fnOf "_law_near" "_law_near" (defArgs (top 29)) (defBody (top 29)) (defScope (top 29)) .none kV__law_near dc__law_near pm__law_near an__law_near cd__law_near ct__law_near), sl__law_near⟩) (z3__law_near : PySem.W.codeIn K cd__law_near "_law_near" = true) (z4__law_near : PySem.W.keepIn K (.ref f__law_near) = true)
    (z1__law_led : PySem.W.nsIn K mainGlobals "_law_led" = some (some (.ref f__law_led))) (z2__law_led : K.lookup f__law_led = some ⟨oc__law_led, od__law_led, .func (PySem.W.fnOf "_law_led" "_law_led" (defArgs (top 30)) (defBody (top 30)) (defScope (top 30)) .none kV__law_led dc__law_led pm__law_led an__law_led cd__law_led ct__law_led), sl__law_led⟩) (z3__law_led : PySem.W.codeIn K cd__law_led "_law_led" = true) (z4__law_led : PySem.W.keepIn K (.ref f__law_led) = true)
    (z1_law : PySem.W.nsIn K mainGlobals "law" = some (some (.ref f_law))) (z2_law : K.lookup f_law = some ⟨oc_law, od_law, .func (PySem.W.fnOf "law" "law" (defArgs (top 31)) (defBody (top 31)) (defScope (top 31)) .none kV_law dc_law pm_law an_law cd_law ct_law), sl_law⟩) (z3_law : PySem.W.codeIn K cd_law "law" = true) (z4_law : PySem.W.keepIn K (.ref f_law) = true)
    (zb_bool : PySem.W.nsIn K mainGlobals "bool" = some none)
    (zb_enumerate : PySem.W.nsIn K mainGlobals "enumerate" = some none)
    (zb_int : PySem.W.nsIn K mainGlobals "int" = some none)
    (zb_isinstance : PySem.W.nsIn K mainGlobals "isinstance" = some none)
    (zb_len : PySem.W.nsIn K mainGlobals "len" = some none)
    (zb_list : PySem.W.nsIn K mainGlobals "list" = some none)
    (zb_range : PySem.W.nsIn K mainGlobals "range" = some none)
    (zb_set : PySem.W.nsIn K mainGlobals "set" = some none)
    (zb_sorted : PySem.W.nsIn K mainGlobals "sorted" = some none)
    (zb_str : PySem.W.nsIn K mainGlobals "str" = some none)
    (zb_tuple : PySem.W.nsIn K mainGlobals "tuple" = some none)
    (zb_zip : PySem.W.nsIn K mainGlobals "zip" = some none)
    (zc_KINDS : PySem.W.nsIn K mainGlobals "KINDS" = some (some (.ref f_KINDS))) (zd_KINDS : K.lookup f_KINDS = some ⟨.type "tuple", .none, .seq #[.str "write" t_KINDS_0, .str "read" t_KINDS_1] n_KINDS, sl_KINDS⟩)
    (zc_MAX_OPERATIONS : PySem.W.nsIn K mainGlobals "MAX_OPERATIONS" = some (some (.int 6 t_MAX_OPERATIONS)))
    (zc_MAX_TIME : PySem.W.nsIn K mainGlobals "MAX_TIME" = some (some (.int 99 t_MAX_TIME)))
    (zc_MAX_VALUE : PySem.W.nsIn K mainGlobals "MAX_VALUE" = some (some (.int 9 t_MAX_VALUE)))
    (ze1_InvalidStory : PySem.W.nsIn K mainGlobals "InvalidStory" = some (some (.ref e_InvalidStory))) (ze2_InvalidStory : PySem.W.excIn K e_InvalidStory [.type "ValueError", .type "Exception", .type "BaseException", .type "object"] "ValueError.__new__" = true) (ze3_InvalidStory : PySem.W.keepIn K (.ref e_InvalidStory) = true) (ze4_InvalidStory : PySem.W.subIn K (.ref e_InvalidStory) (.type "BaseException") = some true) (ze5_InvalidStory : PySem.W.typeIn K (.ref e_InvalidStory) = some (.type "type"))
    (ze1_InvalidOrder : PySem.W.nsIn K mainGlobals "InvalidOrder" = some (some (.ref e_InvalidOrder))) (ze2_InvalidOrder : PySem.W.excIn K e_InvalidOrder [.type "ValueError", .type "Exception", .type "BaseException", .type "object"] "ValueError.__new__" = true) (ze3_InvalidOrder : PySem.W.keepIn K (.ref e_InvalidOrder) = true) (ze4_InvalidOrder : PySem.W.subIn K (.ref e_InvalidOrder) (.type "BaseException") = some true) (ze5_InvalidOrder : PySem.W.typeIn K (.ref e_InvalidOrder) = some (.type "type"))
    (ze1_StoryError : PySem.W.nsIn K mainGlobals "StoryError" = some (some (.ref e_StoryError)))
    (zxhg_InvalidOrder : PySem.W.findIn K (.ref e_InvalidOrder) "__getattribute__" = some (some (.builtin "BaseException.__getattribute__")))
    (zxhk_InvalidOrder : PySem.W.findIn K (.ref e_InvalidOrder) "__getattr__" = some none)
    (zxhd_InvalidOrder : PySem.W.hasDictIn K e_InvalidOrder = true)
    (zxha_InvalidOrder : PySem.W.findIn K (.ref e_InvalidOrder) "__class__" = some (some (.builtin "object.__class__")))
    (zxhm_InvalidOrder : PySem.W.mroIn K e_InvalidOrder (.type "object") = some true)
    (zxs_InvalidOrder : PySem.W.subIn K (.ref e_InvalidOrder) (.ref e_InvalidOrder) = some true)
    (zyn : PySem.W.specialIn K (.builtin "object.__class__") "__get__" = some (some (.builtin "getset_descriptor.__get__"))) (zyt : PySem.W.takesIn K (.builtin "object.__class__") = some true)
    (zyd_InvalidStory : PySem.W.hasDictIn K e_InvalidStory = true) (zyy_InvalidStory : PySem.W.typeIn K (.ref e_InvalidStory) = some (.type "type"))
    (zyd_StoryError : PySem.W.hasDictIn K e_StoryError = true) (zyy_StoryError : PySem.W.typeIn K (.ref e_StoryError) = some (.type "type"))
    (zk_InvalidOrder_InvalidStory : PySem.W.subIn K (.ref e_InvalidOrder) (.ref e_InvalidStory) = some false)
    (zk_InvalidOrder_StoryError : PySem.W.subIn K (.ref e_InvalidOrder) (.ref e_StoryError) = some true) :
    ∃ fd : FuncData, (∀ (s : Shared) (v : Value), BindsTo s fd ⟨[v], []⟩ [("_law_script", v)]) ∧ ∀ base : Heap, K.In base → base.Ns mainGlobals mg → FnOk P w K mg base CX0 8 fa fd ["_law_script"] (spLaw K) := by
  have e := hfa.symm.trans (PySem.W.mg_of X G z1_law)
  cases e
  have F_in_range := fun_mk (st := top 9) z2_in_range z3_in_range z4_in_range
  have F_precedes := fun_mk (st := top 13) z2_precedes z3_precedes z4_precedes
  have F_may_follow := fun_mk (st := top 14) z2_may_follow z3_may_follow z4_may_follow
  have F_explains_story := fun_mk (st := top 15) z2_explains_story z3_explains_story z4_explains_story
  have F_near_of := fun_mk (st := top 17) z2_near_of z3_near_of z4_near_of
  have F_is_operation := fun_mk (st := top 10) z2_is_operation z3_is_operation z4_is_operation
  have F_is_story := fun_mk (st := top 11) z2_is_story z3_is_story z4_is_story
  have F_check_story := fun_mk (st := top 12) z2_check_story z3_check_story z4_check_story
  have F_check_order := fun_mk (st := top 18) z2_check_order z3_check_order z4_check_order
  have F_near := fun_mk (st := top 19) z2_near z3_near z4_near
  have F_road := fun_mk (st := top 20) z2_road z3_road z4_road
  have F__law_cell := fun_mk (st := top 22) z2__law_cell z3__law_cell z4__law_cell
  have F__law_row := fun_mk (st := top 24) z2__law_row z3__law_row z4__law_row
  have F__law_story := fun_mk (st := top 26) z2__law_story z3__law_story z4__law_story
  have F__law_every := fun_mk (st := top 28) z2__law_every z3__law_every z4__law_every
  have F__law_whole := fun_mk (st := top 23) z2__law_whole z3__law_whole z4__law_whole
  have F__law_in := fun_mk (st := top 25) z2__law_in z3__law_in z4__law_in
  have F__law_explains := fun_mk (st := top 27) z2__law_explains z3__law_explains z4__law_explains
  have F__law_near := fun_mk (st := top 29) z2__law_near z3__law_near z4__law_near
  have F__law_led := fun_mk (st := top 30) z2__law_led z3__law_led z4__law_led
  have F_law := fun_mk (st := top 31) z2_law z3_law z4_law
  have b_in_range := F_in_range.binds (ps := ["value", "low", "high"]) fun _ _ _ _ _ _ us hl => match us, hl with | [_, _, _], _ => rfl
  have b_precedes := F_precedes.binds (ps := ["one", "other"]) fun _ _ _ _ _ _ us hl => match us, hl with | [_, _], _ => rfl
  have b_may_follow := F_may_follow.binds (ps := ["story", "order", "number"]) fun _ _ _ _ _ _ us hl => match us, hl with | [_, _, _], _ => rfl
  have b_explains_story := F_explains_story.binds (ps := ["story", "value"]) fun _ _ _ _ _ _ us hl => match us, hl with | [_, _], _ => rfl
  have b_near_of := F_near_of.binds (ps := ["story", "order"]) fun _ _ _ _ _ _ us hl => match us, hl with | [_, _], _ => rfl
  have b_is_operation := F_is_operation.binds (ps := ["value"]) fun _ _ _ _ _ _ us hl => match us, hl with | [_], _ => rfl
  have b_is_story := F_is_story.binds (ps := ["value"]) fun _ _ _ _ _ _ us hl => match us, hl with | [_], _ => rfl
  have b_check_story := F_check_story.binds (ps := ["story"]) fun _ _ _ _ _ _ us hl => match us, hl with | [_], _ => rfl
  have b_check_order := F_check_order.binds (ps := ["story", "order"]) fun _ _ _ _ _ _ us hl => match us, hl with | [_, _], _ => rfl
  have b_near := F_near.binds (ps := ["story", "order"]) fun _ _ _ _ _ _ us hl => match us, hl with | [_, _], _ => rfl
  have b_road := F_road.binds (ps := ["story", "one", "other"]) fun _ _ _ _ _ _ us hl => match us, hl with | [_, _, _], _ => rfl
  have b__law_cell := F__law_cell.binds (ps := ["_law_script", "_law_k"]) fun _ _ _ _ _ _ us hl => match us, hl with | [_, _], _ => rfl
  have b__law_row := F__law_row.binds (ps := ["_law_script", "_law_at"]) fun _ _ _ _ _ _ us hl => match us, hl with | [_, _], _ => rfl
  have b__law_story := F__law_story.binds (ps := ["_law_script", "_law_at", "_law_most"]) fun _ _ _ _ _ _ us hl => match us, hl with | [_, _, _], _ => rfl
  have b__law_every := F__law_every.binds (ps := ["_law_story_here"]) fun _ _ _ _ _ _ us hl => match us, hl with | [_], _ => rfl
  have b__law_whole := F__law_whole.binds (ps := ["_law_found"]) fun _ _ _ _ _ _ us hl => match us, hl with | [_], _ => rfl
  have b__law_in := F__law_in.binds (ps := ["_law_thing", "_law_low", "_law_high"]) fun _ _ _ _ _ _ us hl => match us, hl with | [_, _, _], _ => rfl
  have b__law_explains := F__law_explains.binds (ps := ["_law_story_here", "_law_order"]) fun _ _ _ _ _ _ us hl => match us, hl with | [_, _], _ => rfl
  have b__law_near := F__law_near.binds (ps := ["_law_story_here", "_law_order"]) fun _ _ _ _ _ _ us hl => match us, hl with | [_, _], _ => rfl
  have b__law_led := F__law_led.binds (ps := ["_law_mode", "_law_story_here", "_law_one", "_law_other"]) fun _ _ _ _ _ _ us hl => match us, hl with | [_, _, _, _], _ => rfl
  have b_law := F_law.binds (ps := ["_law_script"]) fun _ _ _ _ _ _ us hl => match us, hl with | [_], _ => rfl
  let T : Txt K mg := {
    bool := PySem.W.mg_none_of X G zb_bool,
    enumerate := PySem.W.mg_none_of X G zb_enumerate,
    int := PySem.W.mg_none_of X G zb_int,
    isinstance := PySem.W.mg_none_of X G zb_isinstance,
    len := PySem.W.mg_none_of X G zb_len,
    list := PySem.W.mg_none_of X G zb_list,
    range := PySem.W.mg_none_of X G zb_range,
    set := PySem.W.mg_none_of X G zb_set,
    sorted := PySem.W.mg_none_of X G zb_sorted,
    str := PySem.W.mg_none_of X G zb_str,
    tuple := PySem.W.mg_none_of X G zb_tuple,
    zip := PySem.W.mg_none_of X G zb_zip,
    a_KINDS := f_KINDS, c_KINDS := PySem.W.mg_of X G zc_KINDS, d_KINDS := fun H => .tup (xs := [V.str "write", V.str "read"]) (.inr ⟨_, _, _, zd_KINDS, rfl, rfl, by show 2 ≤ sizeLine; decide, (.cons ⟨_, rfl⟩ (.cons ⟨_, rfl⟩ .nil)), rfl⟩) (by show 2 ≤ 65536; decide) (.cons (.str _ (by decide +kernel)) (.cons (.str _ (by decide +kernel)) .nil)),
    t_MAX_OPERATIONS := t_MAX_OPERATIONS, c_MAX_OPERATIONS := PySem.W.mg_of X G zc_MAX_OPERATIONS,
    t_MAX_TIME := t_MAX_TIME, c_MAX_TIME := PySem.W.mg_of X G zc_MAX_TIME,
    t_MAX_VALUE := t_MAX_VALUE, c_MAX_VALUE := PySem.W.mg_of X G zc_MAX_VALUE,
    a_in_range := f_in_range, fd_in_range := _, F_in_range := F_in_range, b_in_range := b_in_range, g_in_range := PySem.W.mg_of X G z1_in_range,
    a_precedes := f_precedes, fd_precedes := _, F_precedes := F_precedes, b_precedes := b_precedes, g_precedes := PySem.W.mg_of X G z1_precedes,
    a_may_follow := f_may_follow, fd_may_follow := _, F_may_follow := F_may_follow, b_may_follow := b_may_follow, g_may_follow := PySem.W.mg_of X G z1_may_follow,
    a_explains_story := f_explains_story, fd_explains_story := _, F_explains_story := F_explains_story, b_explains_story := b_explains_story, g_explains_story := PySem.W.mg_of X G z1_explains_story,
    a_near_of := f_near_of, fd_near_of := _, F_near_of := F_near_of, b_near_of := b_near_of, g_near_of := PySem.W.mg_of X G z1_near_of,
    a_is_operation := f_is_operation, fd_is_operation := _, F_is_operation := F_is_operation, b_is_operation := b_is_operation, g_is_operation := PySem.W.mg_of X G z1_is_operation,
    a_is_story := f_is_story, fd_is_story := _, F_is_story := F_is_story, b_is_story := b_is_story, g_is_story := PySem.W.mg_of X G z1_is_story,
    a_check_story := f_check_story, fd_check_story := _, F_check_story := F_check_story, b_check_story := b_check_story, g_check_story := PySem.W.mg_of X G z1_check_story,
    a_check_order := f_check_order, fd_check_order := _, F_check_order := F_check_order, b_check_order := b_check_order, g_check_order := PySem.W.mg_of X G z1_check_order,
    a_near := f_near, fd_near := _, F_near := F_near, b_near := b_near, g_near := PySem.W.mg_of X G z1_near,
    a_road := f_road, fd_road := _, F_road := F_road, b_road := b_road, g_road := PySem.W.mg_of X G z1_road,
    a__law_cell := f__law_cell, fd__law_cell := _, F__law_cell := F__law_cell, b__law_cell := b__law_cell, g__law_cell := PySem.W.mg_of X G z1__law_cell,
    a__law_row := f__law_row, fd__law_row := _, F__law_row := F__law_row, b__law_row := b__law_row, g__law_row := PySem.W.mg_of X G z1__law_row,
    a__law_story := f__law_story, fd__law_story := _, F__law_story := F__law_story, b__law_story := b__law_story, g__law_story := PySem.W.mg_of X G z1__law_story,
    a__law_every := f__law_every, fd__law_every := _, F__law_every := F__law_every, b__law_every := b__law_every, g__law_every := PySem.W.mg_of X G z1__law_every,
    a__law_whole := f__law_whole, fd__law_whole := _, F__law_whole := F__law_whole, b__law_whole := b__law_whole, g__law_whole := PySem.W.mg_of X G z1__law_whole,
    a__law_in := f__law_in, fd__law_in := _, F__law_in := F__law_in, b__law_in := b__law_in, g__law_in := PySem.W.mg_of X G z1__law_in,
    a__law_explains := f__law_explains, fd__law_explains := _, F__law_explains := F__law_explains, b__law_explains := b__law_explains, g__law_explains := PySem.W.mg_of X G z1__law_explains,
    a__law_near := f__law_near, fd__law_near := _, F__law_near := F__law_near, b__law_near := b__law_near, g__law_near := PySem.W.mg_of X G z1__law_near,
    a__law_led := f__law_led, fd__law_led := _, F__law_led := F__law_led, b__law_led := b__law_led, g__law_led := PySem.W.mg_of X G z1__law_led,
    a_law := fa, fd_law := _, F_law := F_law, b_law := b_law, g_law := PySem.W.mg_of X G z1_law,
    aC_InvalidStory := e_InvalidStory, x_InvalidStory := ze2_InvalidStory, gC_InvalidStory := PySem.W.mg_of X G ze1_InvalidStory, kC_InvalidStory := ze3_InvalidStory, bC_InvalidStory := ze4_InvalidStory, tC_InvalidStory := ze5_InvalidStory,
    aC_InvalidOrder := e_InvalidOrder, x_InvalidOrder := ze2_InvalidOrder, gC_InvalidOrder := PySem.W.mg_of X G ze1_InvalidOrder, kC_InvalidOrder := ze3_InvalidOrder, bC_InvalidOrder := ze4_InvalidOrder, tC_InvalidOrder := ze5_InvalidOrder,
    aC_StoryError := e_StoryError, gC_StoryError := PySem.W.mg_of X G ze1_StoryError,
    ec_InvalidOrder := ⟨zxhg_InvalidOrder, zxhk_InvalidOrder, ze4_InvalidOrder, zxhd_InvalidOrder, zxha_InvalidOrder, zyn, zyt, zxhm_InvalidOrder⟩, ex_InvalidOrder := PySem.W.exm_ref ze4_InvalidOrder zxhd_InvalidOrder ze5_InvalidOrder zxs_InvalidOrder,
    kit_InvalidOrder_InvalidStory := kit_of zxs_InvalidOrder zyd_InvalidStory zyy_InvalidStory zk_InvalidOrder_InvalidStory,
    kit_InvalidOrder_StoryError := kit_of zxs_InvalidOrder zyd_StoryError zyy_StoryError zk_InvalidOrder_StoryError }
  exact ⟨_, fun s v => .of_eq rfl, fun base _ _ => FnOk.imp (ok_law T) (fun vs H Q E h => law_imp (m := m_law) law_k06 vs H Q E h)⟩
end
theorem walk {l : PySem.W.OpenLaw} {q : Program} {loose : List Str} {XP : (Str → Option Value) → Heap → Prop} {YP : World → Heap → Prop} {d : DefRec} {K : Params → PySem.W.Frag} (hn : l.most = some 63) (hdf : d.params.defaults = [])
    (hY : ∀ (w : World) (h : Heap), YP w h → (K w.params).In h)
    (F : ∀ (w : World) (mg : Str → Option Value) (fa : Addr) (h : Heap), (K w.params).In h → h.Ns mainGlobals mg → mg d.name = some (.ref fa) →
      ∃ fd : FuncData, (∀ (s : Shared) (u : Value), BindsTo s fd ⟨[u], []⟩ [("_law_script", u)]) ∧ ∀ base : Heap, (K w.params).In base → base.Ns mainGlobals mg → FnOk l.prog w (K w.params) mg base CX0 8 fa fd ["_law_script"] (spLaw (K w.params))) :
    PySem.W.WalkO q loose XP YP l.row.toRowW d [] (fun f vs => PySem.call f vs) :=
  L2.walk_of (n := 63) (k := 8) (x := "_law_script") (CX := fun _ => CX0) (sp := fun w => spLaw (K w.params)) hn (by decide) hdf ⟨rfl, by decide, by decide⟩ hY F (fun _ _ a ns hl _ hS => ⟨a, ns, rfl, hS, hl, fun _ => rfl⟩) fun _ _ _ _ _ z => z
end CS
open PySem PySem.W PyProof.Rows
set_option maxRecDepth 100000 in
set_option maxHeartbeats 0 in
theorem PySem.Challenge.cw_cellstories_k06_whole_roads_holds : PySem.Challenge.rw_cellstories_k06_whole_roads.Holds := by
  w_on; o_law; k_head; (case hw => w_witness2)
  k_fill
  refine CS.walk (l := PySem.Challenge.rw_cellstories_k06_whole_roads) rfl rfl (fun w h Y => PySem.W.kIn_of Y) ?F
  case F =>
    intro w mg fa h KX G hmg
    refine' CS.all_mk KX G hmg ?z1_in_range ?z2_in_range ?z3_in_range ?z4_in_range ?z1_precedes ?z2_precedes ?z3_precedes ?z4_precedes ?z1_may_follow ?z2_may_follow ?z3_may_follow ?z4_may_follow ?z1_explains_story ?z2_explains_story ?z3_explains_story ?z4_explains_story ?z1_near_of ?z2_near_of ?z3_near_of ?z4_near_of ?z1_is_operation ?z2_is_operation ?z3_is_operation ?z4_is_operation ?z1_is_story ?z2_is_story ?z3_is_story ?z4_is_story ?z1_check_story ?z2_check_story ?z3_check_story ?z4_check_story ?z1_check_order ?z2_check_order ?z3_check_order ?z4_check_order ?z1_near ?z2_near ?z3_near ?z4_near ?z1_road ?z2_road ?z3_road ?z4_road ?z1__law_cell ?z2__law_cell ?z3__law_cell ?z4__law_cell ?z1__law_row ?z2__law_row ?z3__law_row ?z4__law_row ?z1__law_story ?z2__law_story ?z3__law_story ?z4__law_story ?z1__law_every ?z2__law_every ?z3__law_every ?z4__law_every ?z1__law_whole ?z2__law_whole ?z3__law_whole ?z4__law_whole ?z1__law_in ?z2__law_in ?z3__law_in ?z4__law_in ?z1__law_explains ?z2__law_explains ?z3__law_explains ?z4__law_explains ?z1__law_near ?z2__law_near ?z3__law_near ?z4__law_near ?z1__law_led ?z2__law_led ?z3__law_led ?z4__law_led ?z1_law ?z2_law ?z3_law ?z4_law ?zb_bool ?zb_enumerate ?zb_int ?zb_isinstance ?zb_len ?zb_list ?zb_range ?zb_set ?zb_sorted ?zb_str ?zb_tuple ?zb_zip ?zc_KINDS ?zd_KINDS ?zc_MAX_OPERATIONS ?zc_MAX_TIME ?zc_MAX_VALUE ?ze1_InvalidStory ?ze2_InvalidStory ?ze3_InvalidStory ?ze4_InvalidStory ?ze5_InvalidStory ?ze1_InvalidOrder ?ze2_InvalidOrder ?ze3_InvalidOrder ?ze4_InvalidOrder ?ze5_InvalidOrder ?ze1_StoryError ?zxhg_InvalidOrder ?zxhk_InvalidOrder ?zxhd_InvalidOrder ?zxha_InvalidOrder ?zxhm_InvalidOrder ?zxs_InvalidOrder ?zyn ?zyt ?zyd_InvalidStory ?zyy_InvalidStory ?zyd_StoryError ?zyy_StoryError ?zk_InvalidOrder_InvalidStory ?zk_InvalidOrder_StoryError
    (case z1_in_range => k_is)
    (case z2_in_range => k_is)
    (case z3_in_range => k_is)
    (case z4_in_range => k_is)
    (case z1_precedes => k_is)
    (case z2_precedes => k_is)
    (case z3_precedes => k_is)
    (case z4_precedes => k_is)
    (case z1_may_follow => k_is)
    (case z2_may_follow => k_is)
    (case z3_may_follow => k_is)
    (case z4_may_follow => k_is)
    (case z1_explains_story => k_is)
    (case z2_explains_story => k_is)
    (case z3_explains_story => k_is)
    (case z4_explains_story => k_is)
    (case z1_near_of => k_is)
    (case z2_near_of => k_is)
    (case z3_near_of => k_is)
    (case z4_near_of => k_is)
    (case z1_is_operation => k_is)
    (case z2_is_operation => k_is)
    (case z3_is_operation => k_is)
    (case z4_is_operation => k_is)
    (case z1_is_story => k_is)
    (case z2_is_story => k_is)
    (case z3_is_story => k_is)
    (case z4_is_story => k_is)
    (case z1_check_story => k_is)
    (case z2_check_story => k_is)
    (case z3_check_story => k_is)
    (case z4_check_story => k_is)
    (case z1_check_order => k_is)
    (case z2_check_order => k_is)
    (case z3_check_order => k_is)
    (case z4_check_order => k_is)
    (case z1_near => k_is)
    (case z2_near => k_is)
    (case z3_near => k_is)
    (case z4_near => k_is)
    (case z1_road => k_is)
    (case z2_road => k_is)
    (case z3_road => k_is)
    (case z4_road => k_is)
    (case z1__law_cell => k_is)
    (case z2__law_cell => k_is)
    (case z3__law_cell => k_is)
    (case z4__law_cell => k_is)
    (case z1__law_row => k_is)
    (case z2__law_row => k_is)
    (case z3__law_row => k_is)
    (case z4__law_row => k_is)
    (case z1__law_story => k_is)
    (case z2__law_story => k_is)
    (case z3__law_story => k_is)
    (case z4__law_story => k_is)
    (case z1__law_every => k_is)
    (case z2__law_every => k_is)
    (case z3__law_every => k_is)
    (case z4__law_every => k_is)
    (case z1__law_whole => k_is)
    (case z2__law_whole => k_is)
    (case z3__law_whole => k_is)
    (case z4__law_whole => k_is)
    (case z1__law_in => k_is)
    (case z2__law_in => k_is)
    (case z3__law_in => k_is)
    (case z4__law_in => k_is)
    (case z1__law_explains => k_is)
    (case z2__law_explains => k_is)
    (case z3__law_explains => k_is)
    (case z4__law_explains => k_is)
    (case z1__law_near => k_is)
    (case z2__law_near => k_is)
    (case z3__law_near => k_is)
    (case z4__law_near => k_is)
    (case z1__law_led => k_is)
    (case z2__law_led => k_is)
    (case z3__law_led => k_is)
    (case z4__law_led => k_is)
    (case z1_law => k_is)
    (case z2_law => k_is)
    (case z3_law => k_is)
    (case z4_law => k_is)
    (case zb_bool => k_is)
    (case zb_enumerate => k_is)
    (case zb_int => k_is)
    (case zb_isinstance => k_is)
    (case zb_len => k_is)
    (case zb_list => k_is)
    (case zb_range => k_is)
    (case zb_set => k_is)
    (case zb_sorted => k_is)
    (case zb_str => k_is)
    (case zb_tuple => k_is)
    (case zb_zip => k_is)
    (case zc_KINDS => k_is)
    (case zd_KINDS => k_is)
    (case zc_MAX_OPERATIONS => k_is)
    (case zc_MAX_TIME => k_is)
    (case zc_MAX_VALUE => k_is)
    (case ze1_InvalidStory => k_is)
    (case ze2_InvalidStory => k_exc)
    (case ze3_InvalidStory => k_is)
    (case ze4_InvalidStory => k_is)
    (case ze5_InvalidStory => k_is)
    (case ze1_InvalidOrder => k_is)
    (case ze2_InvalidOrder => k_exc)
    (case ze3_InvalidOrder => k_is)
    (case ze4_InvalidOrder => k_is)
    (case ze5_InvalidOrder => k_is)
    (case ze1_StoryError => k_is)
    (case zxhg_InvalidOrder => k_is)
    (case zxhk_InvalidOrder => k_is)
    (case zxhd_InvalidOrder => k_is)
    (case zxha_InvalidOrder => k_is)
    (case zxhm_InvalidOrder => k_is)
    (case zxs_InvalidOrder => first | rfl | k_is)
    (case zyn => k_is)
    (case zyt => k_is)
    (case zyd_InvalidStory => k_is)
    (case zyy_InvalidStory => k_is)
    (case zyd_StoryError => k_is)
    (case zyy_StoryError => k_is)
    (case zk_InvalidOrder_InvalidStory => k_is)
    (case zk_InvalidOrder_StoryError => k_is)
