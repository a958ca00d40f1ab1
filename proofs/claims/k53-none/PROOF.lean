import PyProof.Rows.All
import HandS.ForMost
import HandS.Evl
import HandS.TupAny
import HandS.Conv
import HandS.Strs
import KE.KeyNested
import KE.KDictKeyed
import KE.KDictWalk
import HandS.Exc
import HandS.Wide
import HandS.Flow
import HandS.SortInts
import HandS.Zip
import HandS.TupLen
import HandS.IsInst
import KE.KDictSum
import KE.KDictCopyH
import PyProof.ListStr
import HandS.ForDict
import KE.KDictZip
import KE.GoesZip
import KE.GoesMore
import PyProof.Draws
import PyProof.EnumMake
import PyProof.EnumFor
import HandS.SetFor
import HandS.Set
import PyProof.Rows.SetFrom
import HandS.Style
import KE.KRevSl
import HandS.Iter
import KE.KDictDisplayH
import HandS.Deep
import HandS.TryOnly
import KE.KDictPairs
import HandS.Text
import HandS.ExcInit
import HandS.ExcOwn
import HandS.ExcIs
import HandS.RaiseMore
import HandS.WordsExc
import KE.KExcIs
import HandS.ClsMeth
import KE.KExcStr
import HandS.ExcValue
import PySem.Challenge.RW_walksago_k53_states_that_are_none
set_option Elab.async false
set_option linter.all false
set_option maxRecDepth 100000
set_option maxHeartbeats 4000000
/-! Wk: new tuples are kept with their object (it has no dict of its own: a method of theirs may be called). -/
namespace Wk
open PySem PySem.Spec PyProof.Rows L2 Evl
/-- a plain tuple -/
def PTu (G : Hp) (a : Addr) (vs : List V) : Prop := ∃ o : Obj, G a = some (.frz o (.tup vs)) ∧ o.cls = .type "tuple" ∧ o.dict = none
theorem PTu.sq {K : PySem.W.Frag} {G : Hp} {a : Addr} {vs : List V} (h : PTu G a vs) : SqT K G a vs := let ⟨o, h, _⟩ := h; .inl (.inr ⟨o, h⟩)
theorem PTu.mono {G G' : Hp} {a : Addr} {vs : List V} (h : PTu G a vs) (e : ∀ a u, G a = some u → G' a = some u) : PTu G' a vs := let ⟨o, h, c⟩ := h; ⟨o, e _ _ h, c⟩
def NewT (H : Hp) (xs : List V) (Q : VK) : Prop := ∀ (p : Addr) (o : Obj), o.cls = .type "tuple" → o.dict = none → H p = none → Q (.ref p) (upd H p (.frz o (.tup xs)))
section
variable {X : Cx} {pins : List (Addr × Obj)} {σ : L2.St} {H : Hp} {s : Shared} {Q : VK} {xs : List V} {es : List Expr} {t : TA} {pos : Pos}
theorem new_tup {h' : Heap} {tk : Nat} {its : List Value} (I : Inv X pins σ H { s with heap := h', toks := tk }) (rv : Vals xs its) (hz : xs.length ≤ sizeLine) (q : NewT H xs Q) :
    EP X pins σ Q (.ref h'.objs.size) { s with heap := h'.push { cls := .type "tuple", data := .seq its.toArray }, toks := tk } := by
  refine ⟨.ref h'.objs.size, upd H h'.objs.size (.frz { cls := .type "tuple", data := .seq its.toArray } (.tup xs)), ?_, rfl, q _ _ rfl rfl (I.hok.fresh (Nat.le_refl _))⟩
  exact I.laid (t' := tk) (fun b o e => Heap.get?_push_of_some _ e) (Nat.le_refl _) ⟨Heap.get?_push_size _ rfl, hz, its, rv, IsTup.new _ _⟩
theorem pe_tupF {x1} (h : PA X es t) : PE X (.Tuple es x1 pos) (fun σ H Q => t σ H fun xs H1 => xs.length ≤ sizeLine ∧ NewT H1 xs Q) := by
  refine ⟨fun pins s σ H Q I hq => ?_⟩
  refine wpAny_Tuple_spliced (thn (h.run pos pins s σ H _ I hq) fun us s1 ⟨xs, H1, I1, r, z, q⟩ => ⟨by rw [← r.length]; exact z, ?_⟩)
  exact new_tup (h' := s1.heap) (tk := s1.toks) (s := s1) I1 r z q
def rCatF (K : PySem.W.Frag) : R2 := fun x y H Q => ∃ a b xs ys, x = .ref a ∧ y = .ref b ∧ SqT K H a xs ∧ SqT K H b ys ∧ xs.length + ys.length ≤ sizeLine ∧
  (xs = [] → Q (.ref b) H) ∧ (xs ≠ [] → ys = [] → Q (.ref a) H) ∧ (xs ≠ [] → ys ≠ [] → NewT H (xs ++ ys) Q)
theorem op_catF : OpR X (binaryOp .Add) (rCatF X.K) := by
  intro pins s σ H x y v u Q I rx ry h
  obtain ⟨a, b, xs, ys, rfl, rfl, ha, hb, hz, q0, q1, q2⟩ := h
  cases rx
  cases ry
  obtain ⟨its, r1, p1, _⟩ := I.tuple ha
  obtain ⟨its2, r2, p2, _⟩ := I.tuple hb
  by_cases hx : xs = []
  · subst hx
    cases r1
    exact cat_tup0 p1 p2 ⟨.ref b, H, I, rfl, q0 rfl⟩
  · refine HT.cat_tup p1 p2 (fun z => hx (r1.nil_iff.mp z)) (fun z => ⟨.ref a, H, I, rfl, q1 hx (r2.nil_iff.mp z)⟩) (fun z => ?_) (by rw [← r1.length, ← r2.length]; exact hz)
    have := new_tup (h' := s.heap) (tk := s.toks) (s := s) (xs := xs ++ ys) (Q := Q) I (r1.append r2) (by rw [List.length_append]; exact hz) (q2 hx (fun w => z (r2.nil_iff.mpr w)))
    simpa using this
def rSlF (K : PySem.W.Frag) : V → Option Int → Option Int → Hp → VK → Prop := fun x lo hi H Q => ∃ a xs, x = .ref a ∧ SqT K H a xs ∧
  (HT.sIx xs.length 0 lo = 0 ∧ HT.sIx xs.length xs.length hi = xs.length → Q (.ref a) H) ∧ (¬ (HT.sIx xs.length 0 lo = 0 ∧ HT.sIx xs.length xs.length hi = xs.length) → NewT H (cutV xs lo hi) Q)
theorem sl_tupF : SlR X (rSlF X.K) := by
  intro pins s σ H x v vl vu lo hi sl Q I rx hs pl pu h
  obtain ⟨a, xs, rfl, hx, q1, q2⟩ := h
  cases rx
  obtain ⟨its, r, ht, hz⟩ := I.tuple hx
  have hlen : its.toArray.size = xs.length := by rw [List.size_toArray]; exact r.length.symm
  refine ⟨"tuple", _, PyProof.Rows.slot_tuple_getitem.lookup, ht.typeIs, ?_⟩
  by_cases hw : HT.sIx xs.length 0 lo = 0 ∧ HT.sIx xs.length xs.length hi = xs.length
  · exact getItem_tuple_whole ht hs pl pu (by rw [hlen]; exact hw) ⟨.ref a, H, I, rfl, q1 hw⟩
  · refine HT.getItem_tuple_cut ht hs pl pu (by rw [hlen]; exact hw) ?_ (by rw [hlen]; exact hz)
    rw [hlen]
    exact new_tup (h' := s.heap) (tk := s.toks) (s := s) (xs := cutV xs lo hi) (Q := Q) I ((r.drop (HT.sIx xs.length 0 lo)).take (HT.sIx xs.length xs.length hi - HT.sIx xs.length 0 lo)) (Nat.le_trans (cutV_length xs lo hi) hz) (q2 hw)
theorem call_tuple_ofF : CallR X (.type "tuple") (fun xs H Q => ∃ p ys, xs = [.ref p] ∧ ((SqL X.K H p ys ∧ NewT H ys Q) ∨ (SqT X.K H p ys ∧ Q (.ref p) H))) := by
  intro pins s σ H xs us Q I r h
  obtain ⟨p, ys, rfl, h⟩ := h
  obtain ⟨u, rfl, rx⟩ := vals1 r
  cases rx
  rcases h with ⟨hq, q⟩ | ⟨hq, q⟩
  · obtain ⟨its, r', pl, hz⟩ := I.list hq
    have hlen := r'.length
    refine call_tuple_list pl.isList (fun h' kp => ?_) (by simp only [List.size_toArray] <;> omega)
    have I1 : Inv X pins σ H { s with heap := h' } := I.kept (t' := s.toks) kp
    exact new_tup (h' := h') (tk := s.toks) (s := s) I1 r' hz q
  · obtain ⟨its, r', pl, hz⟩ := I.tuple hq
    exact call_tuple_same pl ⟨.ref p, H, I, rfl, q⟩
theorem pe_tupRgF {p : Pos} {e : Expr} {te : L2.St → Hp → (Int → Int → Hp → Prop) → Prop} (hc : X.calm = true) (hg : Gl X "tuple") (hm : X.mg "tuple" = none) (he : PRg X e te) (na : starEach [e] X.env = (false, eval e X.env) :: starEach [] X.env := by rfl) :
    PE X (.Call (.Name "tuple" p) [e] [] pos) (fun σ H Q => te σ H fun a b H1 => RgOk a b ∧ NewT H1 (rgV a b) Q) := by
  refine ⟨fun pins s σ H Q I h => ?_⟩
  refine Call_ (ld_blt I hg hm boot_tuple (PyProof.Rows.callWith_type1 (args_cons (thn (he pins s σ H _ I h) fun x s1 ⟨r, a, b, t, u, v, H1, ex, hr, I1, ok, q⟩ => args_nil ?_) na) na))
  subst ex
  obtain ⟨b1, b2, b3, b4, b5⟩ := ok
  refine call_tuple_range (n := (b - a).toNat) (I1.ok.hd hc) hr (small_one b1 b2 b3 b4) (rangeSize_nat a b) b5 fun h' tk acc hk hi => ?_
  have I2 : Inv X pins σ H1 { s1 with heap := h', toks := tk } := I1.kept hk
  have := new_tup (h' := h') (tk := tk) (s := s1) (xs := rgV a b) (Q := Q) I2 (vals_rg hi) (by rw [rgV_length, sizeLine_eq]; omega) q
  simpa using this
/-- t.index(x) -/
def tIdx (to : TE) (t : TA) : TE := fun σ H Q => to σ H fun x H1 => (∃ p xs, x = .ref p ∧ PTu H1 p xs) ∧ t σ H1 fun zs H2 => ∃ p, ∃ ys : List Str, ∃ z j, x = .ref p ∧ zs = [.str z] ∧ SqT X.K H2 p (ys.map V.str) ∧ ys[j]? = some z ∧ (∀ m, m < j → ys[m]? ≠ some z) ∧ Q (.int (j : Nat)) H2
theorem pe_tupIdx {o e : Expr} {apos cpos : Pos} {to : TE} {t : TA} (ho : PE X o to) (ha : PA X (e :: es) t)
    (hbase : attributeBase o "index" X.env (eval o X.env) = eval o X.env)
    (hfew : ((backTo cpos (starEach (e :: es) X.env)).all (fun x => !x.1) && (backToKw cpos (keywordEach [] X.env)).all (fun x => x.1.isSome)
      && decide ((e :: es).length + ([] : List Keyword).length + (if ([] : List Keyword).isEmpty then 0 else 1) < 30)) = true)
    (hline : (apos.endLine == cpos.line) = true) (hs : starEach (e :: es) X.env = (false, eval e X.env) :: starEach es X.env) (hplain : (backTo cpos (starEach es X.env)).any (·.1) = false) :
    PE X (.Call (.Attribute o "index" apos) (e :: es) [] cpos) (tIdx (X := X) to t) := by
  refine ⟨fun pins s σ H Q I h => ?_⟩
  refine wpAny_Call_method_late hbase hfew hline rfl (thn (ho.run pins s σ H _ I h) fun v s1 ⟨x, H1, I1, r1, ty, q1⟩ => ?_)
  obtain ⟨p, xs, rfl, ob, hp, hc, hd⟩ := ty
  obtain rfl : v = Value.ref p := r1
  have hg : s1.heap.get? p = some ob := (I1.hok p _ hp).1
  refine ⟨"tuple", "tuple.index", PySem.F.plainAttrs_tuple, PySem.F.slot_tuple_index, PySem.F.type_tuple_index, ⟨ob, hg, hc⟩, fun a ea => ?_, ?_⟩
  · cases ea; exact ⟨ob, hg, hd⟩
  have hA := ha.run cpos pins s1 σ H1 _ I1 q1
  rw [hs] at hA ⊢
  refine Calls.callWith_builtin (by show (false || (backTo cpos (starEach es X.env)).any (·.1)) = false; rw [hplain] <;> rfl) (Calls.evalArgs_plain ?_)
  exact thn hA fun us s2 ⟨vs, H2, I2, r2, q2⟩ => mt_tup_index pins s2 σ H2 (.ref p) vs (.ref p) us Q I2 rfl r2 q2
end
end Wk

/-! Wk: data, frozen and owned; judgements over them. -/
namespace Wk
open PySem PySem.Spec PyProof.Rows L2 Evl

/-! dicts whose keys are tuples of numbers, texts, tuples .. -/
mutual
/-- the value is the key k: its tuples stand in G -/
def KRep (G : Hp) : NestedKey → V → Prop
  | .none, v => v = .non
  | .num i, v => v = .int i
  | .text s, v => v = .str s
  | .tup ks, v => ∃ a vs, v = .ref a ∧ PTu G a vs ∧ KRepL G ks vs
def KRepL (G : Hp) : List NestedKey → List V → Prop
  | [], vs => vs = []
  | k :: ks, vs => ∃ v r, vs = v :: r ∧ KRep G k v ∧ KRepL G ks r
end
mutual
theorem KRep.mono {G G' : Hp} (e : Ex G G') : ∀ (k : NestedKey) {v : V}, KRep G k v → KRep G' k v
  | .none, _, h => h
  | .num _, _, h => h
  | .text _, _, h => h
  | .tup ks, _, h => by
    unfold KRep at h ⊢
    obtain ⟨a, vs, rfl, s, r⟩ := h
    exact ⟨a, vs, rfl, s.mono e, KRepL.mono e ks r⟩
theorem KRepL.mono {G G' : Hp} (e : Ex G G') : ∀ (ks : List NestedKey) {vs : List V}, KRepL G ks vs → KRepL G' ks vs
  | [], _, h => h
  | k :: ks, _, h => by
    unfold KRepL at h ⊢
    obtain ⟨v, r, rfl, a, b⟩ := h
    exact ⟨v, r, rfl, KRep.mono e k a, KRepL.mono e ks b⟩
end
/-- what such a dict holds: key, where the key's tuple stands, value -/
abbrev NEnts := List (NestedKey × Addr × V)
def NPair (p : NestedKey × Addr × V) (q : NestedKey × Addr × Value) : Prop := p.1 = q.1 ∧ p.2.1 = q.2.1 ∧ RelV p.2.2 q.2.2
def nEnt (w : World) (x : NestedKey × Addr × Value) : DictEntry := ⟨x.1.hash w, .ref x.2.1, x.2.2⟩
def NDictOk (w : World) (a : Addr) (kvs : NEnts) (h : Heap) : Prop := kvs.length ≤ sizeLine ∧ (a == sysModules) = false ∧ ∃ xs : List (NestedKey × Addr × Value), Paired NPair kvs xs ∧
  ∃ o es ep, h.get? a = some o ∧ o.ExactDict ∧ o.data = .dict es ep ∧ es.toList = xs.map (nEnt w) ∧ (xs.map (·.1)).Nodup
def NDict (w : World) (a : Addr) (kvs : NEnts) : HO := .ext (NDictOk w a kvs)
def NKeys (G : Hp) (kvs : NEnts) : Prop := ∀ p ∈ kvs, KRep G p.1 (.ref p.2.1) ∧ p.1.depth ≤ 8
theorem NKeys.mono {G G' : Hp} {kvs : NEnts} (h : NKeys G kvs) (e : Ex G G') : NKeys G' kvs := fun p hp => ⟨KRep.mono e _ (h p hp).1, (h p hp).2⟩

/-- an own exception that was caught: at a, of the class cls, its dict d -/
def exV (a : Addr) (cls : Value) (d : Option Addr) : HO := .ext fun h => ∃ (oe : Obj) (vs : Array Value), h.get? a = some oe ∧ Zc cls d oe ∧ oe.data = .fields vs
/-- .. made of one text: its arguments' tuple at t -/
def exVT (a : Addr) (cls : Value) (t : Addr) : HO := .ext fun h => ∃ (oe : Obj) (vs : Array Value), h.get? a = some oe ∧ Zc cls none oe ∧ oe.data = .fields vs ∧ vs[0]? = some (.ref t)
def ExAt (G : Hp) (a : Addr) (cls : Value) (d : Option Addr) : Prop := G a = some (exV a cls d) ∨ (d = none ∧ ∃ t, G a = some (exVT a cls t))
theorem ExAt.mono {G G' : Hp} {a : Addr} {cls : Value} {d : Option Addr} (h : ExAt G a cls d) (e : Ex G G') : ExAt G' a cls d := h.elim (fun a => .inl (e _ _ a)) fun ⟨x, t, b⟩ => .inr ⟨x, t, e _ _ b⟩
/-- what it keeps -/
def XdAt (G : Hp) (d : Option Addr) (fs : List (Str × V)) : Prop := (fs = [] ∧ d = none) ∨ ∃ dd, d = some dd ∧ G dd = some (.xd fs)
theorem XdAt.mono {G G' : Hp} {d : Option Addr} {fs : List (Str × V)} (h : XdAt G d fs) (e : Ex G G') : XdAt G' d fs := h.elim .inl fun ⟨dd, a, b⟩ => .inr ⟨dd, a, e _ _ b⟩
/-- plain data -/
inductive D where
  | non | bl (b : Bool) | int (i : Int) | str (s : Str)
  | tup (xs : List D) | ktup (xs : List D) | lst (xs : List D) | rlst (xs : List D)
  | dK (ks : List Key) (xs : List D) | dT (ks : List (List Key)) (xs : List D) | dN (w : World) (ks : List NestedKey) (xs : List D)
  | adr (a : Addr) | ty (n : String) | exc (C : Addr) (fs : List (Str × V)) | exs (a : Addr) (d : Option Addr) (fs : List (Str × V)) | exm (C : Addr) (m : Str)

mutual
def Rep (K : PySem.W.Frag) (G : Hp) : D → V → Prop
  | .non, v => v = .non
  | .bl b, v => v = .bl b
  | .int i, v => v = .int i
  | .str s, v => v = .str s
  | .tup ds, v => ∃ a vs, v = .ref a ∧ PTu G a vs ∧ RepL K G ds vs
  | .ktup ds, v => ∃ a vs, v = .ref a ∧ G a = some (.tup vs) ∧ RepL K G ds vs
  | .lst ds, v => ∃ a vs, v = .ref a ∧ G a = some (.lst vs) ∧ RepL K G ds vs
  | .rlst ds, v => ∃ a vs, v = .ref a ∧ SqL K G a vs ∧ RepL K G ds vs
  | .dK ks ds, v => ∃ a kvs, v = .ref a ∧ G a = some (.dK kvs) ∧ kvs.map (·.1) = ks ∧ RepL K G ds (kvs.map (·.2))
  | .dT ks ds, v => ∃ a kvs, v = .ref a ∧ G a = some (.dT kvs) ∧ kvs.map (·.1) = ks ∧ RepL K G ds (kvs.map (·.2))
  | .dN w ks ds, v => ∃ a o kvs, v = .ref a ∧ G a = some (.frz o (NDict w a kvs)) ∧ kvs.map (·.1) = ks ∧ NKeys G kvs ∧ RepL K G ds (kvs.map (·.2.2))
  | .adr a, v => v = .ref a
  | .ty n, v => v = .ty n
  | .exc C fs, v => ∃ a d, v = .ref a ∧ ExAt G a (.ref C) d ∧ XdAt G d fs
  | .exm C m, v => ∃ a t, v = .ref a ∧ G a = some (exVT a (.ref C) t) ∧ G t = some (.tup [.str m])
  | .exs a d fs, v => v = .ref a ∧ XdAt G d fs
def RepL (K : PySem.W.Frag) (G : Hp) : List D → List V → Prop
  | [], vs => vs = []
  | d :: ds, vs => ∃ v r, vs = v :: r ∧ Rep K G d v ∧ RepL K G ds r
end

section
variable {K : PySem.W.Frag} {G G' H H' : Hp}
mutual
theorem Rep.mono (e : Ex G G') : ∀ (d : D) {v : V}, Rep K G d v → Rep K G' d v
  | .non, _, h => by unfold Rep at h ⊢; exact h
  | .bl _, _, h => by unfold Rep at h ⊢; exact h
  | .int _, _, h => by unfold Rep at h ⊢; exact h
  | .str _, _, h => by unfold Rep at h ⊢; exact h
  | .tup ds, _, h => by
    unfold Rep at h ⊢
    obtain ⟨a, vs, rfl, s, r⟩ := h
    exact ⟨a, vs, rfl, s.mono e, RepL.mono e ds r⟩
  | .ktup ds, _, h => by
    unfold Rep at h ⊢
    obtain ⟨a, vs, rfl, s, r⟩ := h
    exact ⟨a, vs, rfl, e _ _ s, RepL.mono e ds r⟩
  | .lst ds, _, h => by
    unfold Rep at h ⊢
    obtain ⟨a, vs, rfl, s, r⟩ := h
    exact ⟨a, vs, rfl, e _ _ s, RepL.mono e ds r⟩
  | .rlst ds, _, h => by
    unfold Rep at h ⊢
    obtain ⟨a, vs, rfl, s, r⟩ := h
    exact ⟨a, vs, rfl, ex_l e s, RepL.mono e ds r⟩
  | .dK ks ds, _, h => by
    unfold Rep at h ⊢
    obtain ⟨a, vs, rfl, s, k, r⟩ := h
    exact ⟨a, vs, rfl, e _ _ s, k, RepL.mono e ds r⟩
  | .dT ks ds, _, h => by
    unfold Rep at h ⊢
    obtain ⟨a, vs, rfl, s, k, r⟩ := h
    exact ⟨a, vs, rfl, e _ _ s, k, RepL.mono e ds r⟩
  | .dN w ks ds, _, h => by
    unfold Rep at h ⊢
    obtain ⟨a, o, kvs, rfl, s, k, q, r⟩ := h
    exact ⟨a, o, kvs, rfl, e _ _ s, k, q.mono e, RepL.mono e ds r⟩
  | .adr _, _, h => by unfold Rep at h ⊢; exact h
  | .ty _, _, h => by unfold Rep at h ⊢; exact h
  | .exc _ _, _, h => by
    unfold Rep at h ⊢
    obtain ⟨a, d, rfl, s, x⟩ := h
    exact ⟨a, d, rfl, s.mono e, x.mono e⟩
  | .exm _ _, _, h => by
    unfold Rep at h ⊢
    obtain ⟨a, d, rfl, s, x⟩ := h
    exact ⟨a, d, rfl, e _ _ s, e _ _ x⟩
  | .exs _ _ _, _, h => by
    unfold Rep at h ⊢
    exact ⟨h.1, h.2.mono e⟩
theorem RepL.mono (e : Ex G G') : ∀ (ds : List D) {vs : List V}, RepL K G ds vs → RepL K G' ds vs
  | [], _, h => by unfold RepL at h ⊢; exact h
  | d :: ds, _, h => by
    unfold RepL at h ⊢
    obtain ⟨v, r, rfl, a, b⟩ := h
    exact ⟨v, r, rfl, Rep.mono e d a, RepL.mono e ds b⟩
end
theorem RepL.length : ∀ {ds : List D} {vs : List V}, RepL K G ds vs → vs.length = ds.length
  | [], _, h => by unfold RepL at h; subst h; rfl
  | _ :: ds, _, h => by
    unfold RepL at h
    obtain ⟨v, r, rfl, _, b⟩ := h
    rw [List.length_cons, List.length_cons, RepL.length b]
theorem RepL.get : ∀ {ds : List D} {vs : List V} {i : Nat} {d : D}, RepL K G ds vs → ds[i]? = some d → ∃ v, vs[i]? = some v ∧ Rep K G d v
  | [], _, _, _, _, e => by simp at e
  | _ :: _, _, 0, _, h, e => by
    unfold RepL at h
    obtain ⟨v, r, rfl, a, b⟩ := h
    simp at e; subst e
    exact ⟨v, rfl, a⟩
  | _ :: ds, _, i + 1, d, h, e => by
    unfold RepL at h
    obtain ⟨v, r, rfl, a, b⟩ := h
    obtain ⟨w, h1, h2⟩ := RepL.get (i := i) (d := d) b (by simpa using e)
    exact ⟨w, by simpa using h1, h2⟩
theorem RepL.getv : ∀ {ds : List D} {vs : List V} {i : Nat} {v : V}, RepL K G ds vs → vs[i]? = some v → ∃ d, ds[i]? = some d ∧ Rep K G d v
  | [], _, _, _, h, e => by unfold RepL at h; subst h; simp at e
  | _ :: _, _, 0, _, h, e => by
    unfold RepL at h
    obtain ⟨v, r, rfl, a, b⟩ := h
    simp at e; subst e
    exact ⟨_, rfl, a⟩
  | _ :: ds, _, i + 1, d, h, e => by
    unfold RepL at h
    obtain ⟨v, r, rfl, a, b⟩ := h
    obtain ⟨w, h1, h2⟩ := RepL.getv (i := i) b (by simpa using e)
    exact ⟨w, by simpa using h1, h2⟩
theorem RepL.nil : RepL K G [] [] := by unfold RepL; rfl
theorem RepL.cons {d : D} {v : V} {ds : List D} {vs : List V} (a : Rep K G d v) (b : RepL K G ds vs) : RepL K G (d :: ds) (v :: vs) := by
  unfold RepL; exact ⟨v, vs, rfl, a, b⟩
theorem RepL.append : ∀ {ds es : List D} {vs ws : List V}, RepL K G ds vs → RepL K G es ws → RepL K G (ds ++ es) (vs ++ ws)
  | [], _, _, _, h, h' => by unfold RepL at h; subst h; exact h'
  | _ :: ds, _, _, _, h, h' => by
    unfold RepL at h
    obtain ⟨v, r, rfl, a, b⟩ := h
    exact RepL.cons a (RepL.append b h')
theorem RepL.take : ∀ {ds : List D} {vs : List V} (n : Nat), RepL K G ds vs → RepL K G (ds.take n) (vs.take n)
  | [], _, n, h => by unfold RepL at h; subst h; simp; exact RepL.nil
  | _ :: ds, _, 0, _ => by simp; exact RepL.nil
  | _ :: ds, _, n + 1, h => by
    unfold RepL at h
    obtain ⟨v, r, rfl, a, b⟩ := h
    exact RepL.cons a (RepL.take n b)
theorem RepL.drop : ∀ {ds : List D} {vs : List V} (n : Nat), RepL K G ds vs → RepL K G (ds.drop n) (vs.drop n)
  | [], _, n, h => by unfold RepL at h; subst h; simp; exact RepL.nil
  | _ :: ds, _, 0, h => h
  | _ :: ds, _, n + 1, h => by
    unfold RepL at h
    obtain ⟨v, r, rfl, a, b⟩ := h
    exact RepL.drop n b
theorem RepL.set {d : D} {v : V} (q : Rep K G d v) : ∀ {ds : List D} {vs : List V} (n : Nat), RepL K G ds vs → RepL K G (ds.set n d) (vs.set n v)
  | [], _, n, h => by unfold RepL at h; subst h; simp; exact RepL.nil
  | _ :: ds, _, 0, h => by
    unfold RepL at h
    obtain ⟨w, r, rfl, a, b⟩ := h
    exact RepL.cons q b
  | _ :: ds, _, n + 1, h => by
    unfold RepL at h
    obtain ⟨w, r, rfl, a, b⟩ := h
    exact RepL.cons a (RepL.set q n b)
theorem RepL.eraseIdx : ∀ {ds : List D} {vs : List V} (n : Nat), RepL K G ds vs → RepL K G (ds.eraseIdx n) (vs.eraseIdx n)
  | [], _, n, h => by unfold RepL at h; subst h; simp; exact RepL.nil
  | _ :: ds, _, 0, h => by
    unfold RepL at h
    obtain ⟨w, r, rfl, a, b⟩ := h
    exact b
  | _ :: ds, _, n + 1, h => by
    unfold RepL at h
    obtain ⟨w, r, rfl, a, b⟩ := h
    exact RepL.cons a (RepL.eraseIdx n b)
theorem RepL.reverse : ∀ {ds : List D} {vs : List V}, RepL K G ds vs → RepL K G ds.reverse vs.reverse
  | [], _, h => by unfold RepL at h; subst h; exact RepL.nil
  | _ :: ds, _, h => by
    unfold RepL at h
    obtain ⟨w, r, rfl, a, b⟩ := h
    rw [List.reverse_cons, List.reverse_cons]
    exact RepL.append (RepL.reverse b) (RepL.cons a RepL.nil)
/-- lists of plain things, as values -/
theorem RepL.ints : ∀ {ns : List Int} {vs : List V}, RepL K G (ns.map D.int) vs → vs = ns.map V.int
  | [], _, h => by unfold RepL at h; exact h
  | n :: ns, _, h => by
    rw [List.map_cons] at h
    unfold RepL at h
    obtain ⟨w, r, rfl, a, b⟩ := h
    unfold Rep at a
    rw [a, RepL.ints b, List.map_cons]
theorem RepL.of_ints : ∀ {ns : List Int}, RepL K G (ns.map D.int) (ns.map V.int)
  | [] => RepL.nil
  | n :: ns => RepL.cons (by unfold Rep; rfl) RepL.of_ints
theorem RepL.strs : ∀ {ns : List Str} {vs : List V}, RepL K G (ns.map D.str) vs → vs = ns.map V.str
  | [], _, h => by unfold RepL at h; exact h
  | n :: ns, _, h => by
    rw [List.map_cons] at h
    unfold RepL at h
    obtain ⟨w, r, rfl, a, b⟩ := h
    unfold Rep at a
    rw [a, RepL.strs b, List.map_cons]
theorem RepL.of_strs : ∀ {ns : List Str}, RepL K G (ns.map D.str) (ns.map V.str)
  | [] => RepL.nil
  | n :: ns => RepL.cons (by unfold Rep; rfl) RepL.of_strs
theorem RepL.bls : ∀ {ns : List Bool} {vs : List V}, RepL K G (ns.map D.bl) vs → vs = ns.map V.bl
  | [], _, h => by unfold RepL at h; exact h
  | n :: ns, _, h => by
    rw [List.map_cons] at h
    unfold RepL at h
    obtain ⟨w, r, rfl, a, b⟩ := h
    unfold Rep at a
    rw [a, RepL.bls b, List.map_cons]
theorem rep_int {i : Int} : Rep K G (.int i) (.int i) := by unfold Rep; rfl
theorem rep_bl {i : Bool} : Rep K G (.bl i) (.bl i) := by unfold Rep; rfl
theorem rep_str {i : Str} : Rep K G (.str i) (.str i) := by unfold Rep; rfl
theorem rep_non : Rep K G .non .non := by unfold Rep; rfl
theorem rep_adr {a : Addr} : Rep K G (.adr a) (.ref a) := by unfold Rep; rfl
theorem rep_tup {a : Addr} {ds : List D} {vs : List V} (h : PTu G a vs) (r : RepL K G ds vs) : Rep K G (.tup ds) (.ref a) := by
  unfold Rep; exact ⟨a, vs, rfl, h, r⟩
theorem rep_lst {a : Addr} {ds : List D} {vs : List V} (h : G a = some (.lst vs)) (r : RepL K G ds vs) : Rep K G (.lst ds) (.ref a) := by
  unfold Rep; exact ⟨a, vs, rfl, h, r⟩
end

/-- what is owned -/
inductive MO where
  | lst (ds : List D)
  | dK (ks : List Key) (ds : List D)
  | dT (ks : List (List Key)) (ds : List D)
  | dN (w : World) (ks : List NestedKey) (ds : List D)
  | ins (C : Addr) (fs : List Str) (ds : List D)
  | gone
abbrev Mem := List (Addr × MO)
def MRep (K : PySem.W.Frag) (G H : Hp) (a : Addr) : MO → Prop
  | .lst ds => ∃ vs, H a = some (.lst vs) ∧ RepL K G ds vs
  | .dK ks ds => ∃ kvs, H a = some (.dK kvs) ∧ kvs.map (·.1) = ks ∧ RepL K G ds (kvs.map (·.2))
  | .dT ks ds => ∃ kvs, H a = some (.dT kvs) ∧ kvs.map (·.1) = ks ∧ RepL K G ds (kvs.map (·.2))
  | .dN w ks ds => ∃ kvs, H a = some (NDict w a kvs) ∧ kvs.map (·.1) = ks ∧ NKeys G kvs ∧ RepL K G ds (kvs.map (·.2.2))
  | .ins C fs ds => ∃ dx kvs, H a = some (.ins C dx kvs) ∧ kvs.map (·.1) = fs ∧ RepL K G ds (kvs.map (·.2))
  | .gone => ∃ o, H a = some o
theorem MRep.there {K : PySem.W.Frag} {G H : Hp} {a : Addr} : ∀ {o : MO}, MRep K G H a o → ∃ u, H a = some u
  | .lst _, ⟨_, h, _⟩ => ⟨_, h⟩
  | .dK _ _, ⟨_, h, _⟩ => ⟨_, h⟩
  | .dT _ _, ⟨_, h, _⟩ => ⟨_, h⟩
  | .dN _ _ _, ⟨_, h, _⟩ => ⟨_, h⟩
  | .ins _ _ _, ⟨_, _, h, _⟩ => ⟨_, h⟩
  | .gone, h => h
theorem MRep.keep {K : PySem.W.Frag} {G G' H H' : Hp} {a : Addr} (e : Ex G G') (k : H' a = H a) : ∀ {o : MO}, MRep K G H a o → MRep K G' H' a o
  | .lst _, ⟨_, h, r⟩ => ⟨_, k.trans h, RepL.mono e _ r⟩
  | .dK _ _, ⟨_, h, q, r⟩ => ⟨_, k.trans h, q, RepL.mono e _ r⟩
  | .dT _ _, ⟨_, h, q, r⟩ => ⟨_, k.trans h, q, RepL.mono e _ r⟩
  | .dN _ _ _, ⟨_, h, q, z, r⟩ => ⟨_, k.trans h, q, z.mono e, RepL.mono e _ r⟩
  | .ins _ _ _, ⟨_, _, h, q, r⟩ => ⟨_, _, k.trans h, q, RepL.mono e _ r⟩
  | .gone, ⟨_, h⟩ => ⟨_, k.trans h⟩
structure Wd (K : PySem.W.Frag) (G : Hp) (M : Mem) (H : Hp) : Prop where
  ex : Ex G H
  own : ∀ p ∈ M, G p.1 = none ∧ MRep K G H p.1 p.2
  nd : (M.map (·.1)).Nodup
theorem nd_ix {α : Type} {N : List α} (hN : N.Nodup) {i j : Nat} {x : α} (a : N[i]? = some x) (b : N[j]? = some x) : i = j := by
  obtain ⟨h1, e1⟩ := List.getElem?_eq_some_iff.mp a
  obtain ⟨h2, e2⟩ := List.getElem?_eq_some_iff.mp b
  exact (List.getElem_inj hN).mp (e1.trans e2.symm)
section
variable {K : PySem.W.Frag} {G G' H H' : Hp} {M : Mem} {q : Addr} {o : HO} {mo mo' : MO}
theorem Wd.gfresh (w : Wd K G M H) (h : H q = none) : G q = none := by
  cases e : G q with
  | none => rfl
  | some u => rw [w.ex q u e] at h; cases h
theorem Wd.mfresh (w : Wd K G M H) (h : H q = none) : ∀ p ∈ M, p.1 ≠ q := fun p hp e => by
  obtain ⟨u, hu⟩ := (w.own p hp).2.there
  rw [e, h] at hu; cases hu
/-- a new object, frozen -/
theorem Wd.newF (w : Wd K G M H) (h : H q = none) (o : HO) : Wd K (upd G q o) M (upd H q o) where
  ex := fun a u e => by
    by_cases hq : a = q
    · subst hq; rw [upd_same] at e ⊢; exact e
    · rw [upd_ne hq] at e ⊢; exact w.ex a u e
  own := fun p hp => by
    have ne := w.mfresh h p hp
    obtain ⟨a, b⟩ := w.own p hp
    exact ⟨by rw [upd_ne ne]; exact a, b.keep (Ex.new (w.gfresh h)) (upd_ne ne)⟩
  nd := w.nd
theorem Wd.exF (w : Wd K G M H) (h : H q = none) (o : HO) : Ex G (upd G q o) := Ex.new (w.gfresh h)
/-- a new object, owned -/
theorem Wd.newO (w : Wd K G M H) (h : H q = none) (r : MRep K G (upd H q o) q mo) : Wd K G ((q, mo) :: M) (upd H q o) where
  ex := w.ex.trans (Ex.new h)
  own := fun p hp => by
    rcases List.mem_cons.mp hp with rfl | hp
    · exact ⟨w.gfresh h, r⟩
    · have ne := w.mfresh h p hp
      obtain ⟨a, b⟩ := w.own p hp
      exact ⟨a, b.keep (Ex.refl G) (upd_ne ne)⟩
  nd := by
    rw [List.map_cons, List.nodup_cons]
    refine ⟨fun hm => ?_, w.nd⟩
    obtain ⟨p, hp, e⟩ := List.mem_map.mp hm
    exact w.mfresh h p hp e
theorem Wd.perm {M' : Mem} (w : Wd K G M H) (p : M'.Perm M) : Wd K G M' H :=
  ⟨w.ex, fun x hx => w.own x (p.mem_iff.mp hx), (p.map (·.1)).nodup_iff.mpr w.nd⟩
theorem Wd.sub {M' : Mem} (w : Wd K G M H) (p : M'.Sublist M) : Wd K G M' H :=
  ⟨w.ex, fun x hx => w.own x (p.subset hx), w.nd.sublist (p.map _)⟩
/-- an owned object at place i is changed -/
theorem Wd.set {i : Nat} (w : Wd K G M H) (hi : M[i]? = some (q, mo)) (r : MRep K G (upd H q o) q mo') : Wd K G (M.set i (q, mo')) (upd H q o) where
  ex := by
    have hm : (q, mo) ∈ M := List.mem_of_getElem? hi
    exact w.ex.mut (w.own _ hm).1
  own := fun p hp => by
    have hm : (q, mo) ∈ M := List.mem_of_getElem? hi
    obtain ⟨j, hj⟩ := List.getElem?_of_mem hp
    by_cases hji : i = j
    · subst hji
      have hl : i < M.length := (List.getElem?_eq_some_iff.mp hi).1
      rw [List.getElem?_set_self hl] at hj
      cases hj
      exact ⟨(w.own _ hm).1, r⟩
    · rw [List.getElem?_set_ne hji] at hj
      have hpM : p ∈ M := List.mem_of_getElem? hj
      have ne : p.1 ≠ q := fun e => by
        have h1 : (M.map (·.1))[j]? = some q := by rw [List.getElem?_map, hj]; simp [e]
        have h2 : (M.map (·.1))[i]? = some q := by rw [List.getElem?_map, hi]; rfl
        have := nd_ix w.nd h1 h2
        exact hji this.symm
      obtain ⟨a, b⟩ := w.own p hpM
      exact ⟨a, b.keep (Ex.refl G) (upd_ne ne)⟩
  nd := by
    have : (M.set i (q, mo')).map (·.1) = M.map (·.1) := by
      rw [List.map_set]
      refine List.ext_getElem? fun j => ?_
      by_cases hji : i = j
      · subst hji
        have hl : i < M.length := (List.getElem?_eq_some_iff.mp hi).1
        rw [List.getElem?_set_self (by rw [List.length_map]; exact hl), List.getElem?_map, hi]; rfl
      · rw [List.getElem?_set_ne hji]
    rw [this]; exact w.nd
theorem Wd.at {i : Nat} (w : Wd K G M H) (hi : M[i]? = some (q, mo)) : G q = none ∧ MRep K G H q mo := w.own _ (List.mem_of_getElem? hi)
/-- an owned object at place i becomes frozen -/
theorem Wd.freeze {i : Nat} (w : Wd K G M H) (hi : M[i]? = some (q, mo)) (ho : H q = some o) : Wd K (upd G q o) (M.eraseIdx i) H where
  ex := fun a u e => by
    by_cases hq : a = q
    · subst hq; rw [upd_same] at e; cases e; exact ho
    · rw [upd_ne hq] at e; exact w.ex a u e
  own := fun p hp => by
    have hpM : p ∈ M := List.mem_of_mem_eraseIdx hp
    have ne : p.1 ≠ q := fun e => by
      obtain ⟨j, hj, e2⟩ := List.mem_eraseIdx_iff_getElem?.mp hp
      have h1 : (M.map (·.1))[j]? = some q := by rw [List.getElem?_map, e2]; simp [e]
      have h2 : (M.map (·.1))[i]? = some q := by rw [List.getElem?_map, hi]; rfl
      exact hj (nd_ix w.nd h1 h2)
    obtain ⟨a, b⟩ := w.own p hpM
    exact ⟨by rw [upd_ne ne]; exact a, b.keep (Ex.new (w.at hi).1) rfl⟩
  nd := w.nd.sublist ((List.eraseIdx_sublist M i).map _)
theorem Wd.exFreeze {i : Nat} (w : Wd K G M H) (hi : M[i]? = some (q, mo)) : Ex G (upd G q o) := Ex.new (w.at hi).1
end

abbrev Env := List (Option D)
structure Sl (K : PySem.W.Frag) (G : Hp) (ρ : Env) (σ : L2.St) : Prop where
  len : σ.length = ρ.length
  get : ∀ (i : Nat) (d : D), ρ[i]? = some (some d) → ∃ v, σ[i]? = some (some v) ∧ Rep K G d v
section
variable {K : PySem.W.Frag} {G G' H : Hp} {ρ : Env} {σ : L2.St}
theorem Sl.mono (h : Sl K G ρ σ) (e : Ex G G') : Sl K G' ρ σ := ⟨h.len, fun i d q => let ⟨v, a, b⟩ := h.get i d q; ⟨v, a, b.mono e⟩⟩
theorem Sl.set (h : Sl K G ρ σ) (i : Nat) {d : D} {v : V} (r : Rep K G d v) : Sl K G (ρ.set i (some d)) (σ.set i (some v)) :=
  ⟨by rw [List.length_set, List.length_set, h.len], fun j e q => by
    by_cases hj : i = j
    · subst hj
      by_cases hl : i < ρ.length
      · rw [List.getElem?_set_self hl] at q
        cases q
        rw [List.getElem?_set_self (by rw [h.len]; exact hl)]
        exact ⟨v, rfl, r⟩
      · rw [List.getElem?_eq_none (by rw [List.length_set]; omega)] at q
        cases q
    · rw [List.getElem?_set_ne hj] at q ⊢
      exact h.get j e q⟩
/-- forgetting -/
theorem Sl.weak {ρ' : Env} (h : Sl K G ρ σ) (hl : ρ'.length = ρ.length) (w : ∀ (i : Nat) d, ρ'[i]? = some (some d) → ρ[i]? = some (some d)) : Sl K G ρ' σ :=
  ⟨by rw [h.len, hl], fun i d q => h.get i d (w i d q)⟩
end
end Wk

/-! Wk: side conditions on the text, once for all. -/
namespace Wk
open PySem PySem.Spec PyProof.Rows L2
def plainE : Expr → Bool
  | .Starred _ _ => false
  | _ => true
def plainEs : List Expr → Bool
  | [] => true
  | e :: es => plainE e && plainEs es
theorem star_of {e : Expr} {es : List Expr} {env : PySem.Env} (h : plainE e = true) : starEach (e :: es) env = (false, eval e env) :: starEach es env := by
  cases e <;> first | (simp only [starEach]; done) | (simp [plainE] at h)
theorem star_one {e : Expr} {env : PySem.Env} (h : plainE e = true) : starEach [e] env = [(false, eval e env)] := by rw [star_of h, starEach]
theorem star_two {e f : Expr} {env : PySem.Env} (h : plainE e = true) (h2 : plainE f = true) : starEach [e, f] env = [(false, eval e env), (false, eval f env)] := by rw [star_of h, star_one h2]
theorem nostars {env : PySem.Env} {pos : Pos} : ∀ {es : List Expr}, plainEs es = true → (backTo pos (starEach es env)).any (·.1) = false
  | [], _ => by simp [starEach, backTo]
  | e :: es, h => by
    unfold plainEs at h
    rw [Bool.and_eq_true] at h
    have ih := nostars (env := env) (pos := pos) h.2
    unfold backTo at ih ⊢
    rw [star_of h.1, List.map_cons, List.any_cons, ih]
    rfl
theorem fewargs {env : PySem.Env} {pos : Pos} {es : List Expr} (h : plainEs es = true) (hl : es.length < 29) :
    ((backTo pos (starEach es env)).all (fun x => !x.1) && (backToKw pos (keywordEach [] env)).all (fun x => x.1.isSome)
      && decide (es.length + ([] : List Keyword).length + (if ([] : List Keyword).isEmpty then 0 else 1) < 30)) = true := by
  have h1 : (backTo pos (starEach es env)).all (fun x => !x.1) = true := by
    have := nostars (env := env) (pos := pos) h
    rw [List.any_eq_false] at this
    rw [List.all_eq_true]
    intro x hx
    have := this x hx
    simpa using this
  have h2 : (backToKw pos (keywordEach [] env)).all (fun x => x.1.isSome) = true := by simp [keywordEach, backToKw]
  rw [h1, h2]
  simp
  omega
def calls0 : Expr → Bool
  | .Call (.Name _ _) [] [] _ => false
  | _ => true
theorem base_of {o : Expr} {attr : Str} {env : PySem.Env} {whole : PySem.Sem Value} (h : calls0 o = true) : attributeBase o attr env whole = whole := by
  unfold attributeBase
  split
  · simp [calls0] at h
  · rfl
theorem asg_of {e : Expr} {es : List Expr} {env : PySem.Env} (h : plainE e = true) : (assignEach (e :: es) env).map (·.2) = assign e env :: (assignEach es env).map (·.2) := by
  cases e <;> first | (simp only [assignEach, List.map_cons]; done) | (simp [plainE] at h)
theorem asg_one {e : Expr} {env : PySem.Env} (h : plainE e = true) : (assignEach [e] env).map (·.2) = [assign e env] := by rw [asg_of h]; simp [assignEach]
theorem asg_len {env : PySem.Env} : ∀ {es : List Expr}, (assignEach es env).length = es.length
  | [] => by simp [assignEach]
  | e :: es => by
    have ih := asg_len (env := env) (es := es)
    cases e <;> simp [assignEach, ih]
theorem asg_none {env : PySem.Env} : ∀ {es : List Expr}, plainEs es = true → (assignEach es env).findIdx? (·.1) = none
  | [], _ => by simp [assignEach]
  | e :: es, h => by
    unfold plainEs at h
    rw [Bool.and_eq_true] at h
    have ih := asg_none (env := env) h.2
    cases e <;> first | (simp [plainE] at h; done) | (simp [assignEach, ih, List.findIdx?_cons])
def plainIxE : Expr → Bool
  | .Slice _ _ _ _ => false
  | _ => true
theorem plainIx_of {b : Expr} (h : plainIxE b = true) : ∀ o i, subscripted b false o i = operate [o, i] (getItem o i) := fun o i => by
  cases b <;> first | rfl | (simp [plainIxE] at h)
theorem asg_sub {o i : Expr} {p : Pos} {env : PySem.Env} (h : plainIxE i = true) : ∀ v, assign (.Subscript o i p) env v = (do
      let ov ← holding [v] (eval o env)
      let iv ← holding [v, ov] (eval i env)
      standAt p
      holding [v, ov, iv] (setItem ov iv v)
      release [v, ov, iv] []) := fun v => by
  cases i <;> first | (simp only [assign]; done) | (simp [plainIxE] at h)
def plainV : Expr → Bool
  | .ListComp _ _ _ _ => false
  | .SetComp _ _ _ _ => false
  | .DictComp _ _ _ _ _ => false
  | _ => true
theorem sw_of {e : Expr} {t : Option Expr} {l : Nat} {env : PySem.Env} (h : plainV e = true) : swapsWith e t l env = pure false := by
  unfold swapsWith
  cases e <;> first | rfl | (simp [plainV] at h)
theorem sws_of {e t : Expr} {l : Nat} {env : PySem.Env} (h : plainV e = true) : swapsWithSole [t] e l env = pure false := sw_of h
def notTup : Expr → Bool
  | .Tuple _ _ _ => false
  | _ => true
theorem sst_of {e t : Expr} {env : PySem.Env} (h : notTup e = true) : swappedStores [t] e env = pure none := by
  unfold swappedStores
  cases e <;> first | (simp [notTup] at h; done) | (cases t <;> rfl)
theorem sst_of1 {e t : Expr} {env : PySem.Env} (h : notTup t = true) (h2 : (match t with | .List _ _ => false | _ => true) = true) : swappedStores [t] e env = pure none := by
  unfold swappedStores
  cases t <;> first | (simp [notTup] at h; done) | (simp at h2; done) | (cases e <;> rfl)
def plainIt : Expr → Bool
  | .Set _ _ _ => false
  | _ => true
theorem fs_of {e : Expr} {env : PySem.Env} (h : plainIt e = true) : ∀ x, foldedSetIterable e env x = pure x := fun x => by
  unfold foldedSetIterable
  cases e <;> first | rfl | (simp [plainIt] at h)
def plainT : Expr → Bool
  | .Name _ _ => true
  | .Call _ _ _ _ => true
  | .Subscript _ _ _ => true
  | .Attribute _ _ _ => true
  | .Constant _ _ _ => true
  | _ => false
theorem tr_of {e : Expr} {env : PySem.Env} (h : plainT e = true) : ∀ whole, isTrue e env whole = (do let v ← whole; standAt e.pos; holding [v] (truthy v)) := fun whole => by
  cases e <;> first | (rfl) | (simp only [PySem.isTrue]; done) | (simp [plainT] at h; done)
end Wk

/-! Wk: expressions. -/
namespace Wk
open PySem PySem.Spec PyProof.Rows L2 Evl

def Sem (X : Cx) (e : Expr) : TE := fun σ H Q => ∀ (pins : List (Addr × Obj)) (s : Shared), Inv X pins σ H s → wpAny (model X.prog X.w) X.A (eval e X.env) (EP X pins σ Q) X.xe s
def SemT (X : Cx) (e : Expr) : TT := fun σ H Q => ∀ (pins : List (Addr × Obj)) (s : Shared), Inv X pins σ H s → wpAny (model X.prog X.w) X.A (isTrue e X.env (eval e X.env)) (TP X pins σ Q) X.xe s
def SemW (X : Cx) (e : Expr) : TT := fun σ H Q => ∀ (whole : PySem.Sem Value) (pins : List (Addr × Obj)) (s : Shared), Inv X pins σ H s → wpAny (model X.prog X.w) X.A (isTrue e X.env whole) (TP X pins σ Q) X.xe s
def SemA (X : Cx) (es : List Expr) : TA := fun σ H Q => ∀ (pos : Pos) (pins : List (Addr × Obj)) (s : Shared), Inv X pins σ H s → wpAny (model X.prog X.w) X.A (spliced (backTo pos (starEach es X.env))) (AP X pins σ Q) X.xe s
def SemC (X : Cx) (op : CmpOp) (a b : Expr) : TE := fun σ H Q => ∀ (pins : List (Addr × Obj)) (s : Shared), Inv X pins σ H s →
    wpAny (model X.prog X.w) X.A (eval a X.env) (fun v s₁ => wpAny (model X.prog X.w) X.A (eval b X.env) (fun u s₂ => wpAny (model X.prog X.w) X.A (compareOp op v u) (EP X pins σ Q) X.xe s₂) X.xe s₁) X.xe s
section
variable {X : Cx} {e a b : Expr} {es : List Expr} {σ : L2.St} {H : Hp} {op : CmpOp}
theorem pe_sem : PE X e (Sem X e) := ⟨fun pins s _ _ _ I h => h pins s I⟩
theorem pt_sem : PT X e (SemT X e) := ⟨fun pins s _ _ _ I h => h pins s I⟩
theorem pw_sem : PW X e (SemW X e) := ⟨fun wh pins s _ _ _ I h => h wh pins s I⟩
theorem pa_sem : PA X es (SemA X es) := ⟨fun pos pins s _ _ _ I h => h pos pins s I⟩
theorem pc_sem : PC X op a b (SemC X op a b) := ⟨fun pins s _ _ _ I h => h pins s I⟩
theorem Sem.of {t : TE} {Q : VK} (h : PE X e t) (r : t σ H Q) : Sem X e σ H Q := fun pins s I => h.run pins s σ H Q I r
theorem SemT.of {t : TT} {Q : Bool → Hp → Prop} (h : PT X e t) (r : t σ H Q) : SemT X e σ H Q := fun pins s I => h.run pins s σ H Q I r
theorem SemW.of {t : TT} {Q : Bool → Hp → Prop} (h : PW X e t) (r : t σ H Q) : SemW X e σ H Q := fun wh pins s I => h.run wh pins s σ H Q I r
theorem SemA.of {t : TA} {Q : List V → Hp → Prop} (h : PA X es t) (r : t σ H Q) : SemA X es σ H Q := fun pos pins s I => h.run pos pins s σ H Q I r
theorem SemC.of {t : TE} {Q : VK} (h : PC X op a b t) (r : t σ H Q) : SemC X op a b σ H Q := fun pins s I => h.run pins s σ H Q I r
end

/-- what is wanted of a value d, left M -/
def Wish (K : PySem.W.Frag) (G : Hp) (M : Mem) (d : D) (Q : VK) : Prop := ∀ v G' H', Ex G G' → Wd K G' M H' → Rep K G' d v → Q v H'
structure XE (X : Cx) (e : Expr) (ρ : Env) (M : Mem) (d : D) (M' : Mem) : Prop where
  run : ∀ (G : Hp) (σ : L2.St) (H : Hp) (Q : VK), Sl X.K G ρ σ → Wd X.K G M H → Wish X.K G M' d Q → Sem X e σ H Q
/-- a new object, owned -/
structure XN (X : Cx) (e : Expr) (ρ : Env) (M : Mem) (o : MO) (M' : Mem) : Prop where
  run : ∀ (G : Hp) (σ : L2.St) (H : Hp) (Q : VK), Sl X.K G ρ σ → Wd X.K G M H → (∀ p G' H', Ex G G' → Wd X.K G' ((p, o) :: M') H' → Q (.ref p) H') → Sem X e σ H Q
structure XT (X : Cx) (e : Expr) (ρ : Env) (M : Mem) (c : Bool) (M' : Mem) : Prop where
  run : ∀ (G : Hp) (σ : L2.St) (H : Hp) (Q : Bool → Hp → Prop), Sl X.K G ρ σ → Wd X.K G M H → (∀ G' H', Ex G G' → Wd X.K G' M' H' → Q c H') → SemT X e σ H Q
structure XW (X : Cx) (e : Expr) (ρ : Env) (M : Mem) (c : Bool) (M' : Mem) : Prop where
  run : ∀ (G : Hp) (σ : L2.St) (H : Hp) (Q : Bool → Hp → Prop), Sl X.K G ρ σ → Wd X.K G M H → (∀ G' H', Ex G G' → Wd X.K G' M' H' → Q c H') → SemW X e σ H Q
structure XA (X : Cx) (es : List Expr) (ρ : Env) (M : Mem) (ds : List D) (M' : Mem) : Prop where
  run : ∀ (G : Hp) (σ : L2.St) (H : Hp) (Q : List V → Hp → Prop), Sl X.K G ρ σ → Wd X.K G M H → (∀ vs G' H', Ex G G' → Wd X.K G' M' H' → RepL X.K G' ds vs → Q vs H') → SemA X es σ H Q
structure XC (X : Cx) (op : CmpOp) (a b : Expr) (ρ : Env) (M : Mem) (d : D) (M' : Mem) : Prop where
  run : ∀ (G : Hp) (σ : L2.St) (H : Hp) (Q : VK), Sl X.K G ρ σ → Wd X.K G M H → Wish X.K G M' d Q → SemC X op a b σ H Q

section
variable {X : Cx} {e a b c : Expr} {es : List Expr} {ρ : Env} {M M1 M2 M3 : Mem} {d d1 d2 d3 : D} {ds ds1 ds2 : List D} {pos : Pos} {i j : Int} {r : R2}

theorem Wish.use {K : PySem.W.Frag} {G G1 H : Hp} {Q : VK} (q : Wish K G M d Q) (e : Ex G G1) (w : Wd K G1 M H) {v : V} (r : Rep K G1 d v) : Q v H := q v G1 H e w r
theorem Wish.up {K : PySem.W.Frag} {G G1 : Hp} {Q : VK} (q : Wish K G M d Q) (e : Ex G G1) : Wish K G1 M d Q := fun v G' H' e' w r => q v G' H' (e.trans e') w r

/-- from a rule of two operands -/
theorem XE.bin {e : Expr} (ho : PE X e (tOp r (Sem X a) (Sem X b))) (ha : XE X a ρ M d1 M1) (hb : XE X b ρ M1 d2 M2)
    (k : ∀ G H x y Q, Wd X.K G M2 H → Rep X.K G d1 x → Rep X.K G d2 y → Wish X.K G M3 d Q → r x y H Q) : XE X e ρ M d M3 := .mk fun G σ H Q sl w q =>
  Sem.of ho (ha.run G σ H _ sl w fun x G1 H1 e1 w1 r1 => hb.run G1 σ H1 _ (sl.mono e1) w1 fun y G2 H2 e2 w2 r2 => k G2 H2 x y Q w2 (r1.mono e2) r2 (q.up (e1.trans e2)))
theorem XN.bin {e : Expr} {o : MO} (ho : PE X e (tOp r (Sem X a) (Sem X b))) (ha : XE X a ρ M d1 M1) (hb : XE X b ρ M1 d2 M2)
    (k : ∀ G H x y Q, Wd X.K G M2 H → Rep X.K G d1 x → Rep X.K G d2 y → (∀ p G' H', Ex G G' → Wd X.K G' ((p, o) :: M3) H' → Q (.ref p) H') → r x y H Q) : XN X e ρ M o M3 := .mk fun G σ H Q sl w q =>
  Sem.of ho (ha.run G σ H _ sl w fun x G1 H1 e1 w1 r1 => hb.run G1 σ H1 _ (sl.mono e1) w1 fun y G2 H2 e2 w2 r2 => k G2 H2 x y Q w2 (r1.mono e2) r2 (fun p G' H' e3 w3 => q p G' H' ((e1.trans e2).trans e3) w3))
theorem XC.bin {op : CmpOp} (ho : OpR X (compareOp op) r) (ha : XE X a ρ M d1 M1) (hb : XE X b ρ M1 d2 M2)
    (k : ∀ G H x y Q, Wd X.K G M2 H → Rep X.K G d1 x → Rep X.K G d2 y → Wish X.K G M3 d Q → r x y H Q) : XC X op a b ρ M d M3 := .mk fun G σ H Q sl w q => by
  refine SemC.of (t := tOp r (Sem X a) (Sem X b)) ⟨fun pins s σ H Q I h => ?_⟩ (ha.run G σ H _ sl w fun x G1 H1 e1 w1 r1 => hb.run G1 σ H1 _ (sl.mono e1) w1 fun y G2 H2 e2 w2 r2 => k G2 H2 x y Q w2 (r1.mono e2) r2 (q.up (e1.trans e2)))
  exact binT pe_sem pe_sem I h fun v u s2 x y H2 I2 rx ry q => ho pins s2 σ H2 x y v u Q I2 rx ry q
theorem XE.un {e : Expr} {r : V → Hp → VK → Prop} (ho : PE X e (tUn r (Sem X a))) (ha : XE X a ρ M d1 M1)
    (k : ∀ G H x Q, Wd X.K G M1 H → Rep X.K G d1 x → Wish X.K G M2 d Q → r x H Q) : XE X e ρ M d M2 := .mk fun G σ H Q sl w q =>
  Sem.of ho (ha.run G σ H _ sl w fun x G1 H1 e1 w1 r1 => k G1 H1 x Q w1 r1 (q.up e1))

theorem of_int {K : PySem.W.Frag} {G : Hp} {x : V} (h : Rep K G (.int i) x) : x = .int i := by unfold Rep at h; exact h
theorem of_str {K : PySem.W.Frag} {G : Hp} {x : V} {s : Str} (h : Rep K G (.str s) x) : x = .str s := by unfold Rep at h; exact h
theorem of_bl {K : PySem.W.Frag} {G : Hp} {x : V} {s : Bool} (h : Rep K G (.bl s) x) : x = .bl s := by unfold Rep at h; exact h
theorem of_non {K : PySem.W.Frag} {G : Hp} {x : V} (h : Rep K G .non x) : x = .non := by unfold Rep at h; exact h
theorem of_adr {K : PySem.W.Frag} {G : Hp} {x : V} {p : Addr} (h : Rep K G (.adr p) x) : x = .ref p := by unfold Rep at h; exact h
theorem of_ty {K : PySem.W.Frag} {G : Hp} {x : V} {p : String} (h : Rep K G (.ty p) x) : x = .ty p := by unfold Rep at h; exact h
theorem of_tup {K : PySem.W.Frag} {G : Hp} {x : V} (h : Rep K G (.tup ds) x) : ∃ a vs, x = .ref a ∧ PTu G a vs ∧ RepL K G ds vs := by unfold Rep at h; exact h
theorem of_ktup {K : PySem.W.Frag} {G : Hp} {x : V} (h : Rep K G (.ktup ds) x) : ∃ a vs, x = .ref a ∧ G a = some (.tup vs) ∧ RepL K G ds vs := by unfold Rep at h; exact h
theorem pt_new {G : Hp} {p : Addr} {o : Obj} {vs : List V} (h1 : o.cls = .type "tuple") (h2 : o.dict = none) : PTu (upd G p (.frz o (.tup vs))) p vs := ⟨o, upd_same, h1, h2⟩
theorem of_lst {K : PySem.W.Frag} {G : Hp} {x : V} (h : Rep K G (.lst ds) x) : ∃ a vs, x = .ref a ∧ G a = some (.lst vs) ∧ RepL K G ds vs := by unfold Rep at h; exact h
theorem of_rlst {K : PySem.W.Frag} {G : Hp} {x : V} (h : Rep K G (.rlst ds) x) : ∃ a vs, x = .ref a ∧ SqL K G a vs ∧ RepL K G ds vs := by unfold Rep at h; exact h
theorem of_dK {K : PySem.W.Frag} {G : Hp} {x : V} {ks : List Key} (h : Rep K G (.dK ks ds) x) : ∃ a kvs, x = .ref a ∧ G a = some (.dK kvs) ∧ kvs.map (·.1) = ks ∧ RepL K G ds (kvs.map (·.2)) := by unfold Rep at h; exact h
theorem of_dT {K : PySem.W.Frag} {G : Hp} {x : V} {ks : List (List Key)} (h : Rep K G (.dT ks ds) x) : ∃ a kvs, x = .ref a ∧ G a = some (.dT kvs) ∧ kvs.map (·.1) = ks ∧ RepL K G ds (kvs.map (·.2)) := by unfold Rep at h; exact h

/-! names, constants -/
theorem x_var (n : Nat) {x : Str} (h : ρ[n]? = some (some d)) (hN : X.N[n]? = some x := by rfl) (hv : Vis X.env.scope x := by first | exact Or.inl rfl | exact Or.inr (Or.inl rfl) | exact Or.inr (Or.inr rfl)) (hd : (x == ("__debug__" : Str)) = false := by decide)
    (hcd : (x == ("__classdict__" : Str)) = false := by decide) : XE X (.Name x pos) ρ M d M := .mk fun G σ H Q sl w q => by
  obtain ⟨v, hv', r⟩ := sl.get n d h
  exact Sem.of (pe_var hN hv hd hcd) ⟨v, hv', q.use (Ex.refl G) w r⟩
theorem x_c {e : Expr} {v : V} (h : PE X e (tC v)) (hd : ∀ G, Rep X.K G d v) : XE X e ρ M d M := .mk fun G σ H Q sl w q => Sem.of h (q.use (Ex.refl G) w (hd G))
theorem x_int {k} : XE X (.Constant (.int i) k pos) ρ M (.int i) M := x_c pe_int fun _ => rep_int
theorem x_bl {k c} : XE X (.Constant (.bool c) k pos) ρ M (.bl c) M := x_c pe_bl fun _ => rep_bl
theorem x_non {k} : XE X (.Constant .none k pos) ρ M .non M := x_c pe_non fun _ => rep_non
theorem x_str {k s} : XE X (.Constant (.str s) k pos) ρ M (.str s) M := x_c pe_str fun _ => rep_str
/-- a module's constant, a text or a number -/
theorem x_gS {x s : Str} {t : Tok} (hm : X.mg x = some (.str s t)) (hg : Gl X x := by rfl) (hd : (x == ("__debug__" : Str)) = false := by decide) : XE X (.Name x pos) ρ M (.str s) M := x_c (v := .str s) (pe_glob hg hm ⟨t, rfl⟩ hd) fun _ => rep_str
theorem x_gI {x : Str} {t : Tok} (hm : X.mg x = some (.int i t)) (hg : Gl X x := by rfl) (hd : (x == ("__debug__" : Str)) = false := by decide) : XE X (.Name x pos) ρ M (.int i) M := x_c (v := .int i) (pe_glob hg hm ⟨t, rfl⟩ hd) fun _ => rep_int

/-! numbers -/
theorem x_add (ha : XE X a ρ M (.int i) M1) (hb : XE X b ρ M1 (.int j) M2) : XE X (.BinOp a .Add b pos) ρ M (.int (i + j)) M2 :=
  XE.bin (pe_op op_add pe_sem pe_sem) ha hb fun _ _ _ _ _ w r1 r2 q => ⟨i, j, of_int r1, of_int r2, q.use (Ex.refl _) w rep_int⟩
theorem x_sub (ha : XE X a ρ M (.int i) M1) (hb : XE X b ρ M1 (.int j) M2) : XE X (.BinOp a .Sub b pos) ρ M (.int (i - j)) M2 :=
  XE.bin (pe_op op_sub pe_sem pe_sem) ha hb fun _ _ _ _ _ w r1 r2 q => ⟨i, j, of_int r1, of_int r2, q.use (Ex.refl _) w rep_int⟩
theorem x_mul (ha : XE X a ρ M (.int i) M1) (hb : XE X b ρ M1 (.int j) M2) (h : CMul i j ∨ CMulW i j) : XE X (.BinOp a .Mult b pos) ρ M (.int (i * j)) M2 :=
  XE.bin (pe_op (OpR.or op_mul op_mulW) pe_sem pe_sem) ha hb fun _ _ _ _ _ w r1 r2 q => h.elim (fun h => .inl ⟨i, j, of_int r1, of_int r2, h, q.use (Ex.refl _) w rep_int⟩) fun h => .inr ⟨i, j, of_int r1, of_int r2, h, q.use (Ex.refl _) w rep_int⟩
theorem x_mod (ha : XE X a ρ M (.int i) M1) (hb : XE X b ρ M1 (.int j) M2) (h : 0 < j) : XE X (.BinOp a .Mod b pos) ρ M (.int (i % j)) M2 :=
  XE.bin (pe_op op_mod pe_sem pe_sem) ha hb fun _ _ _ _ _ w r1 r2 q => ⟨i, j, of_int r1, of_int r2, h, q.use (Ex.refl _) w rep_int⟩
theorem x_fdiv (ha : XE X a ρ M (.int i) M1) (hb : XE X b ρ M1 (.int j) M2) (h : CDiv i j ∨ CDivW i j) : XE X (.BinOp a .FloorDiv b pos) ρ M (.int (i / j)) M2 :=
  XE.bin (pe_op (OpR.or op_fdiv op_fdivW) pe_sem pe_sem) ha hb fun _ _ _ _ _ w r1 r2 q => h.elim (fun h => .inl ⟨i, j, of_int r1, of_int r2, h, q.use (Ex.refl _) w rep_int⟩) fun h => .inr ⟨i, j, of_int r1, of_int r2, h, q.use (Ex.refl _) w rep_int⟩
theorem x_pow (ha : XE X a ρ M (.int i) M1) (hb : XE X b ρ M1 (.int j) M2) (h : CPow i j) : XE X (.BinOp a .Pow b pos) ρ M (.int (i ^ j.toNat)) M2 :=
  XE.bin (pe_op op_pow pe_sem pe_sem) ha hb fun _ _ _ _ _ w r1 r2 q => ⟨i, j, of_int r1, of_int r2, h, q.use (Ex.refl _) w rep_int⟩
theorem x_neg (ha : XE X a ρ M (.int i) M1) : XE X (.UnaryOp .USub a pos) ρ M (.int (-i)) M1 :=
  XE.un (pe_un un_neg pe_sem) ha fun _ _ _ _ w r1 q => ⟨i, of_int r1, q.use (Ex.refl _) w rep_int⟩
/-! texts, sequences -/
theorem x_addS {s t : Str} (ha : XE X a ρ M (.str s) M1) (hb : XE X b ρ M1 (.str t) M2) (h : s.length + t.length ≤ sizeLine) : XE X (.BinOp a .Add b pos) ρ M (.str (s ++ t)) M2 :=
  XE.bin (pe_op op_add_str pe_sem pe_sem) ha hb fun _ _ _ _ _ w r1 r2 q => ⟨s, t, of_str r1, of_str r2, h, q.use (Ex.refl _) w rep_str⟩
theorem wd_newL {K : PySem.W.Frag} {G H : Hp} {p : Addr} {vs : List V} (w : Wd K G M H) (hp : H p = none) (r : RepL K G ds vs) : Wd K G ((p, .lst ds) :: M) (upd H p (.lst vs)) := w.newO hp ⟨vs, upd_same, r⟩
theorem n_cat (ha : XE X a ρ M (.lst ds1) M1) (hb : XE X b ρ M1 (.lst ds2) M2) (h : ds1.length + ds2.length ≤ sizeLine) : XN X (.BinOp a .Add b pos) ρ M (.lst (ds1 ++ ds2)) M2 :=
  XN.bin (pe_op op_cat pe_sem pe_sem) ha hb fun G H x y Q w r1 r2 q => by
    obtain ⟨p, vs, rfl, hp, rv⟩ := of_lst r1
    obtain ⟨p2, vs2, rfl, hp2, rv2⟩ := of_lst r2
    exact ⟨p, p2, vs, vs2, rfl, rfl, w.ex _ _ hp, w.ex _ _ hp2, by rw [rv.length, rv2.length]; exact h, fun z hz => q z G _ (Ex.refl G) (wd_newL w hz (rv.append rv2))⟩
theorem x_catT (ha : XE X a ρ M (.tup ds1) M1) (hb : XE X b ρ M1 (.tup ds2) M2) (h : ds1.length + ds2.length ≤ sizeLine) : XE X (.BinOp a .Add b pos) ρ M (.tup (ds1 ++ ds2)) M2 :=
  XE.bin (pe_op op_catF pe_sem pe_sem) ha hb fun G H x y Q w r1 r2 q => by
    obtain ⟨p, vs, rfl, hp, rv⟩ := of_tup r1
    obtain ⟨p2, vs2, rfl, hp2, rv2⟩ := of_tup r2
    refine ⟨p, p2, vs, vs2, rfl, rfl, (hp.mono w.ex).sq, (hp2.mono w.ex).sq, by rw [rv.length, rv2.length]; exact h, fun e => ?_, fun _ e => ?_, fun _ _ z o h1 h2 hz => ?_⟩
    · subst e
      have : ds1 = [] := List.length_eq_zero_iff.mp (by rw [← rv.length]; rfl)
      subst this
      exact q.use (Ex.refl G) w (rep_tup hp2 rv2)
    · subst e
      have : ds2 = [] := List.length_eq_zero_iff.mp (by rw [← rv2.length]; rfl)
      subst this
      exact q.use (Ex.refl G) w (by rw [List.append_nil]; exact rep_tup hp rv)
    · exact q.use (w.exF hz _) (w.newF hz _) (rep_tup (pt_new h1 h2) ((rv.append rv2).mono (w.exF hz _) _))
theorem n_rep {k : Int} (ha : XE X a ρ M (.lst ds) M1) (hb : XE X b ρ M1 (.int k) M2) (h1 : -(2 ^ 63) ≤ k) (h2 : k < 2 ^ 63) (h : ds.length * k.toNat ≤ sizeLine) : XN X (.BinOp a .Mult b pos) ρ M (.lst (List.replicate k.toNat ds).flatten) M2 :=
  XN.bin (pe_op op_rep pe_sem pe_sem) ha hb fun G H x y Q w r1 r2 q => by
    obtain ⟨p, vs, rfl, hp, rv⟩ := of_lst r1
    have rr : ∀ n : Nat, RepL X.K G (List.replicate n ds).flatten (List.replicate n vs).flatten := fun n => by
      induction n with
      | zero => exact RepL.nil
      | succ n ih => rw [List.replicate_succ, List.replicate_succ, List.flatten_cons, List.flatten_cons]; exact rv.append ih
    exact ⟨p, k, vs, rfl, of_int r2, w.ex _ _ hp, h1, h2, by rw [rv.length]; exact h, fun z hz => q z G _ (Ex.refl G) (wd_newL w hz (rr _))⟩
/-- a new list is frozen -/
theorem x_frz (h : XN X e ρ M (.lst ds) M1) : XE X e ρ M (.lst ds) M1 := .mk fun G σ H Q sl w q =>
  h.run G σ H Q sl w fun p G' H' e' w' => by
    obtain ⟨vs, hv, r⟩ := (w'.at (i := 0) rfl).2
    have e2 := w'.exFreeze (i := 0) (o := .lst vs) rfl
    exact q.use (e'.trans e2) (w'.freeze (i := 0) rfl hv) (rep_lst upd_same (r.mono e2 _))
theorem x_frzK {ks : List Key} (h : XN X e ρ M (.dK ks ds) M1) : XE X e ρ M (.dK ks ds) M1 := .mk fun G σ H Q sl w q =>
  h.run G σ H Q sl w fun p G' H' e' w' => by
    obtain ⟨kvs, hv, hk, r⟩ := (w'.at (i := 0) rfl).2
    have e2 := w'.exFreeze (i := 0) (o := .dK kvs) rfl
    exact q.use (e'.trans e2) (w'.freeze (i := 0) rfl hv) (by unfold Rep; exact ⟨p, kvs, rfl, upd_same, hk, r.mono e2 _⟩)

/-! arguments, displays -/
theorem a_nil : XA X [] ρ M [] M := .mk fun G σ H Q sl w q => SemA.of pa_nil (q [] G H (Ex.refl G) w RepL.nil)
theorem a_cons (ha : XE X e ρ M d M1) (hr : XA X es ρ M1 ds M2) (hs : starEach (e :: es) X.env = (false, eval e X.env) :: starEach es X.env := by exact star_of rfl) : XA X (e :: es) ρ M (d :: ds) M2 := .mk fun G σ H Q sl w q =>
  SemA.of (pa_cons pe_sem pa_sem hs) (ha.run G σ H _ sl w fun v G1 H1 e1 w1 r1 => hr.run G1 σ H1 _ (sl.mono e1) w1 fun vs G2 H2 e2 w2 r2 => q _ G2 H2 (e1.trans e2) w2 (RepL.cons (r1.mono e2) r2))
theorem x_tup {k} (h : XA X es ρ M ds M1) (hl : ds.length ≤ sizeLine) : XE X (.Tuple es k pos) ρ M (.tup ds) M1 := .mk fun G σ H Q sl w q =>
  Sem.of (pe_tupF pa_sem) (h.run G σ H _ sl w fun vs G1 H1 e1 w1 r1 => ⟨by rw [r1.length]; exact hl, fun p o h1 h2 hp => q.use (e1.trans (w1.exF hp _)) (w1.newF hp _) (rep_tup (pt_new h1 h2) (r1.mono (w1.exF hp _) _))⟩)
/-- a tuple that is asked as a key -/
theorem x_ktup {k} (h : XA X es ρ M ds M1) (hl : ds.length ≤ sizeLine) : XE X (.Tuple es k pos) ρ M (.ktup ds) M1 := .mk fun G σ H Q sl w q =>
  Sem.of (pe_tup pa_sem) (h.run G σ H _ sl w fun vs G1 H1 e1 w1 r1 => ⟨by rw [r1.length]; exact hl, fun p hp => q.use (e1.trans (w1.exF hp _)) (w1.newF hp _) (by unfold Rep; exact ⟨p, vs, rfl, upd_same, r1.mono (w1.exF hp _) _⟩)⟩)
theorem n_lst (h : XA X es ρ M ds M1) (hl : ds.length ≤ sizeLine) : XN X (.List es pos) ρ M (.lst ds) M1 := .mk fun G σ H Q sl w q =>
  Sem.of (pe_lst pa_sem) (h.run G σ H _ sl w fun vs G1 H1 e1 w1 r1 => ⟨by rw [r1.length]; exact hl, fun p hp => q p G1 _ e1 (wd_newL w1 hp r1)⟩)
end
end Wk

/-! Wk: subscripts, comparisons, tests, calls of builtins. -/
namespace Wk
open PySem PySem.Spec PyProof.Rows L2 Evl

section
variable {X : Cx} {e a b c : Expr} {es : List Expr} {ρ : Env} {M M1 M2 M3 : Mem} {d d1 d2 d3 : D} {ds ds1 ds2 : List D} {pos : Pos} {i j : Int} {r : R2} {p : Addr}

theorem atI_len {α β : Type} {xs : List α} {ys : List β} {d : β} (hl : xs.length = ys.length) (f : ∀ (k : Nat) (v : β), ys[k]? = some v → ∃ u, xs[k]? = some u) (h : atI ys i = some d) : ∃ (k : Nat) (u : α), ys[k]? = some d ∧ xs[k]? = some u ∧ atI xs i = some u := by
  unfold atI at h ⊢
  rw [hl]
  cases e : ixN ys.length i with
  | none => rw [e] at h; cases h
  | some k =>
    rw [e] at h
    obtain ⟨u, hu⟩ := f k d h
    exact ⟨k, u, h, hu, hu⟩
theorem RepL.atI {K : PySem.W.Frag} {G : Hp} {vs : List V} (r : RepL K G ds vs) (h : atI ds i = some d) : ∃ v, L2.atI vs i = some v ∧ Rep K G d v := by
  obtain ⟨k, u, h1, h2, h3⟩ := atI_len (i := i) r.length (fun k v hv => let ⟨w, a, _⟩ := r.get hv; ⟨w, a⟩) h
  obtain ⟨w, hw, rw'⟩ := r.get h1
  rw [h2] at hw; cases hw
  exact ⟨u, h3, rw'⟩
/-! subscripts -/
theorem x_ixL (ha : XE X a ρ M (.lst ds) M1) (hb : XE X b ρ M1 (.int i) M2) (h : L2.atI ds i = some d) (hs : PlainIx b := by exact plainIx_of rfl) : XE X (.Subscript a b pos) ρ M d M2 :=
  XE.bin (pe_ix ix_list pe_sem pe_sem hs) ha hb fun G H x y Q w r1 r2 q => by
    obtain ⟨p, vs, rfl, hp, rv⟩ := of_lst r1
    obtain ⟨v, hv, rv'⟩ := rv.atI h
    exact ⟨p, vs, i, v, rfl, of_int r2, SqL.of (w.ex _ _ hp), hv, q.use (Ex.refl G) w rv'⟩
theorem x_ixR (ha : XE X a ρ M (.rlst ds) M1) (hb : XE X b ρ M1 (.int i) M2) (h : L2.atI ds i = some d) (hs : PlainIx b := by exact plainIx_of rfl) : XE X (.Subscript a b pos) ρ M d M2 :=
  XE.bin (pe_ix ix_list pe_sem pe_sem hs) ha hb fun G H x y Q w r1 r2 q => by
    obtain ⟨p, vs, rfl, hp, rv⟩ := of_rlst r1
    obtain ⟨v, hv, rv'⟩ := rv.atI h
    exact ⟨p, vs, i, v, rfl, of_int r2, ex_l w.ex hp, hv, q.use (Ex.refl G) w rv'⟩
theorem x_ixT (ha : XE X a ρ M (.tup ds) M1) (hb : XE X b ρ M1 (.int i) M2) (h : L2.atI ds i = some d) (hs : PlainIx b := by exact plainIx_of rfl) : XE X (.Subscript a b pos) ρ M d M2 :=
  XE.bin (pe_ix ix_tup pe_sem pe_sem hs) ha hb fun G H x y Q w r1 r2 q => by
    obtain ⟨p, vs, rfl, hp, rv⟩ := of_tup r1
    obtain ⟨v, hv, rv'⟩ := rv.atI h
    exact ⟨p, vs, i, v, rfl, of_int r2, (hp.mono w.ex).sq, hv, q.use (Ex.refl G) w rv'⟩
/-- of an owned list at place k -/
theorem x_ixO (k : Nat) (ha : XE X a ρ M (.adr p) M1) (hb : XE X b ρ M1 (.int i) M2) (hk : M2[k]? = some (p, .lst ds)) (h : L2.atI ds i = some d) (hs : PlainIx b := by exact plainIx_of rfl) : XE X (.Subscript a b pos) ρ M d M2 :=
  XE.bin (pe_ix ix_list pe_sem pe_sem hs) ha hb fun G H x y Q w r1 r2 q => by
    obtain ⟨vs, hv, rv⟩ := (w.at hk).2
    obtain ⟨v, hv', rv'⟩ := rv.atI h
    exact ⟨p, vs, i, v, of_adr r1, of_int r2, SqL.of hv, hv', q.use (Ex.refl G) w rv'⟩
theorem x_ixS {s : Str} {n : Nat} (ha : XE X a ρ M (.str s) M1) (hb : XE X b ρ M1 (.int i) M2) (h : L2.atI s.cps.toList i = some n) (hl : s.length ≤ sizeLine) (hs : PlainIx b := by exact plainIx_of rfl) : XE X (.Subscript a b pos) ρ M (.str ⟨#[n]⟩) M2 :=
  XE.bin (pe_ix ix_str pe_sem pe_sem hs) ha hb fun G H x y Q w r1 r2 q => ⟨s, i, n, of_str r1, of_int r2, hl, h, q.use (Ex.refl G) w rep_str⟩

/-! slices -/
def SemO (X : Cx) (e : Option Expr) : TO := fun σ H Q => ∀ (pins : List (Addr × Obj)) (s : Shared), Inv X pins σ H s →
    wpAny (model X.prog X.w) X.A (evalPart e X.env) (fun u s' => ∃ o H', Inv X pins σ H' s' ∧ IsPart u o ∧ Q o H') X.xe s
theorem po_sem {e : Option Expr} : PO X e (SemO X e) := ⟨fun pins s _ _ _ I h => h pins s I⟩
structure XO (X : Cx) (e : Option Expr) (ρ : Env) (M : Mem) (o : Option Int) (M' : Mem) : Prop where
  run : ∀ (G : Hp) (σ : L2.St) (H : Hp) (Q : Option Int → Hp → Prop), Sl X.K G ρ σ → Wd X.K G M H → (∀ G' H', Ex G G' → Wd X.K G' M' H' → Q o H') → SemO X e σ H Q
theorem o_none : XO X none ρ M none M := .mk fun G σ H Q sl w q pins s I => po_none.run pins s σ H Q I (q G H (Ex.refl G) w)
theorem o_some (h : XE X e ρ M (.int i) M1) : XO X (some e) ρ M (some i) M1 := .mk fun G σ H Q sl w q pins s I =>
  (po_some pe_sem).run pins s σ H Q I (h.run G σ H _ sl w fun v G' H' e' w' r' => ⟨i, of_int r', q G' H' e' w'⟩)
variable {lo hi : Option Expr} {l u : Option Int} {p2 : Pos}
theorem sl_gen {r : V → Option Int → Option Int → Hp → VK → Prop} {W : Hp → VK → Prop} (hr : SlR X r) (ha : XE X a ρ M d1 M1) (hlo : XO X lo ρ M1 l M2) (hhi : XO X hi ρ M2 u M3)
    (k : ∀ G G0 H x Q, Ex G0 G → Wd X.K G M3 H → Rep X.K G d1 x → W G0 Q → r x l u H Q) : ∀ (G : Hp) (σ : L2.St) (H : Hp) (Q : VK), Sl X.K G ρ σ → Wd X.K G M H → W G Q → Sem X (.Subscript a (.Slice lo hi none p2) pos) σ H Q := fun G σ H Q sl w q =>
  Sem.of (pe_slice hr pe_sem po_sem po_sem) (ha.run G σ H _ sl w fun x G1 H1 e1 w1 r1 => hlo.run G1 σ H1 _ (sl.mono e1) w1 fun G2 H2 e2 w2 => hhi.run G2 σ H2 _ (sl.mono (e1.trans e2)) w2 fun G3 H3 e3 w3 =>
    k G3 G H3 x Q ((e1.trans e2).trans e3) w3 (r1.mono (e2.trans e3)) q)
def cutD {α : Type} (xs : List α) (lo hi : Option Int) : List α := (xs.drop (HT.sIx xs.length 0 lo)).take (HT.sIx xs.length xs.length hi - HT.sIx xs.length 0 lo)
theorem RepL.cut {K : PySem.W.Frag} {G : Hp} {vs : List V} (r : RepL K G ds vs) (l u : Option Int) : RepL K G (cutD ds l u) (cutV vs l u) := by
  unfold cutD cutV
  rw [r.length]
  exact (r.drop _).take _
theorem n_slL (ha : XE X a ρ M (.lst ds) M1) (hlo : XO X lo ρ M1 l M2) (hhi : XO X hi ρ M2 u M3) : XN X (.Subscript a (.Slice lo hi none p2) pos) ρ M (.lst (cutD ds l u)) M3 := .mk <|
  sl_gen (W := fun G Q => ∀ p G' H', Ex G G' → Wd X.K G' ((p, .lst (cutD ds l u)) :: M3) H' → Q (.ref p) H') sl_list ha hlo hhi fun G G0 H x Q e w r1 q => by
    obtain ⟨p, vs, rfl, hp, rv⟩ := of_lst r1
    exact ⟨p, vs, rfl, SqL.of (w.ex _ _ hp), fun z hz => q z G _ e (wd_newL w hz (rv.cut l u))⟩
theorem n_slR (ha : XE X a ρ M (.rlst ds) M1) (hlo : XO X lo ρ M1 l M2) (hhi : XO X hi ρ M2 u M3) : XN X (.Subscript a (.Slice lo hi none p2) pos) ρ M (.lst (cutD ds l u)) M3 := .mk <|
  sl_gen (W := fun G Q => ∀ p G' H', Ex G G' → Wd X.K G' ((p, .lst (cutD ds l u)) :: M3) H' → Q (.ref p) H') sl_list ha hlo hhi fun G G0 H x Q e w r1 q => by
    obtain ⟨p, vs, rfl, hp, rv⟩ := of_rlst r1
    exact ⟨p, vs, rfl, ex_l w.ex hp, fun z hz => q z G _ e (wd_newL w hz (rv.cut l u))⟩
theorem n_slO (k : Nat) (ha : XE X a ρ M (.adr p) M1) (hlo : XO X lo ρ M1 l M2) (hhi : XO X hi ρ M2 u M3) (hk : M3[k]? = some (p, .lst ds)) : XN X (.Subscript a (.Slice lo hi none p2) pos) ρ M (.lst (cutD ds l u)) M3 := .mk <|
  sl_gen (W := fun G Q => ∀ p G' H', Ex G G' → Wd X.K G' ((p, .lst (cutD ds l u)) :: M3) H' → Q (.ref p) H') sl_list ha hlo hhi fun G G0 H x Q e w r1 q => by
    obtain ⟨vs, hv, rv⟩ := (w.at hk).2
    exact ⟨p, vs, of_adr r1, SqL.of hv, fun z hz => q z G _ e (wd_newL w hz (rv.cut l u))⟩
theorem cutD_whole {α : Type} {xs : List α} (h : HT.sIx xs.length 0 l = 0 ∧ HT.sIx xs.length xs.length u = xs.length) : cutD xs l u = xs := by
  unfold cutD
  rw [h.1, h.2]
  simp
theorem x_slT (ha : XE X a ρ M (.tup ds) M1) (hlo : XO X lo ρ M1 l M2) (hhi : XO X hi ρ M2 u M3) : XE X (.Subscript a (.Slice lo hi none p2) pos) ρ M (.tup (cutD ds l u)) M3 := .mk <|
  sl_gen (W := fun G Q => Wish X.K G M3 (.tup (cutD ds l u)) Q) sl_tupF ha hlo hhi fun G G0 H x Q e w r1 q => by
    obtain ⟨p, vs, rfl, hp, rv⟩ := of_tup r1
    refine ⟨p, vs, rfl, (hp.mono w.ex).sq, fun hw => ?_, fun _ z o h1 h2 hz => ?_⟩
    · rw [rv.length] at hw
      exact q.use e w (by rw [cutD_whole hw]; exact rep_tup hp rv)
    · exact q.use (e.trans (w.exF hz _)) (w.newF hz _) (rep_tup (pt_new h1 h2) ((rv.cut l u).mono (w.exF hz _) _))
theorem x_slS {s : Str} (ha : XE X a ρ M (.str s) M1) (hlo : XO X lo ρ M1 l M2) (hhi : XO X hi ρ M2 u M3) (hl : s.length ≤ sizeLine) : XE X (.Subscript a (.Slice lo hi none p2) pos) ρ M (.str (cutS s l u)) M3 := .mk <|
  sl_gen (W := fun G Q => Wish X.K G M3 (.str (cutS s l u)) Q) sl_str ha hlo hhi fun G G0 H x Q e w r1 q => ⟨s, of_str r1, hl, q.use e w rep_str⟩

/-! comparisons -/
theorem c_lt (ha : XE X a ρ M (.int i) M1) (hb : XE X b ρ M1 (.int j) M2) : XC X .Lt a b ρ M (.bl (decide (i < j))) M2 := XC.bin op_lt ha hb fun _ _ _ _ _ w r1 r2 q => ⟨i, j, of_int r1, of_int r2, q.use (Ex.refl _) w rep_bl⟩
theorem c_le (ha : XE X a ρ M (.int i) M1) (hb : XE X b ρ M1 (.int j) M2) : XC X .LtE a b ρ M (.bl (decide (i ≤ j))) M2 := XC.bin op_le ha hb fun _ _ _ _ _ w r1 r2 q => ⟨i, j, of_int r1, of_int r2, q.use (Ex.refl _) w rep_bl⟩
theorem c_gt (ha : XE X a ρ M (.int i) M1) (hb : XE X b ρ M1 (.int j) M2) : XC X .Gt a b ρ M (.bl (decide (j < i))) M2 := XC.bin op_gt ha hb fun _ _ _ _ _ w r1 r2 q => ⟨i, j, of_int r1, of_int r2, q.use (Ex.refl _) w rep_bl⟩
theorem c_ge (ha : XE X a ρ M (.int i) M1) (hb : XE X b ρ M1 (.int j) M2) : XC X .GtE a b ρ M (.bl (decide (j ≤ i))) M2 := XC.bin op_ge ha hb fun _ _ _ _ _ w r1 r2 q => ⟨i, j, of_int r1, of_int r2, q.use (Ex.refl _) w rep_bl⟩
theorem dV_int {i j : Int} : decide (V.int i = V.int j) = decide (i = j) := by
  by_cases h : i = j
  · rw [decide_eq_true h, h]; simp
  · rw [decide_eq_false h]; simp [h]
theorem dV_str {i j : Str} : decide (V.str i = V.str j) = decide (i = j) := by
  by_cases h : i = j
  · rw [decide_eq_true h, h]; simp
  · rw [decide_eq_false h]; simp [h]
theorem dV_bl {i j : Bool} : decide (V.bl i = V.bl j) = decide (i = j) := by cases i <;> cases j <;> decide
theorem c_eqI (ha : XE X a ρ M (.int i) M1) (hb : XE X b ρ M1 (.int j) M2) : XC X .Eq a b ρ M (.bl (decide (i = j))) M2 := XC.bin op_eq ha hb fun _ _ _ _ _ w r1 r2 q => by
  rw [of_int r1, of_int r2]; exact ⟨rfl, by rw [dV_int]; exact q.use (Ex.refl _) w rep_bl⟩
theorem c_neI (ha : XE X a ρ M (.int i) M1) (hb : XE X b ρ M1 (.int j) M2) : XC X .NotEq a b ρ M (.bl (!decide (i = j))) M2 := XC.bin op_ne ha hb fun _ _ _ _ _ w r1 r2 q => by
  rw [of_int r1, of_int r2]; exact ⟨rfl, by rw [dV_int]; exact q.use (Ex.refl _) w rep_bl⟩
variable {s t : Str} {f g : Bool}
theorem c_eqS (ha : XE X a ρ M (.str s) M1) (hb : XE X b ρ M1 (.str t) M2) : XC X .Eq a b ρ M (.bl (decide (s = t))) M2 := XC.bin op_eq ha hb fun _ _ _ _ _ w r1 r2 q => by
  rw [of_str r1, of_str r2]; exact ⟨rfl, by rw [dV_str]; exact q.use (Ex.refl _) w rep_bl⟩
theorem c_neS (ha : XE X a ρ M (.str s) M1) (hb : XE X b ρ M1 (.str t) M2) : XC X .NotEq a b ρ M (.bl (!decide (s = t))) M2 := XC.bin op_ne ha hb fun _ _ _ _ _ w r1 r2 q => by
  rw [of_str r1, of_str r2]; exact ⟨rfl, by rw [dV_str]; exact q.use (Ex.refl _) w rep_bl⟩
theorem c_eqB (ha : XE X a ρ M (.bl f) M1) (hb : XE X b ρ M1 (.bl g) M2) : XC X .Eq a b ρ M (.bl (decide (f = g))) M2 := XC.bin op_eq ha hb fun _ _ _ _ _ w r1 r2 q => by
  rw [of_bl r1, of_bl r2]; exact ⟨rfl, by rw [dV_bl]; exact q.use (Ex.refl _) w rep_bl⟩
theorem c_neB (ha : XE X a ρ M (.bl f) M1) (hb : XE X b ρ M1 (.bl g) M2) : XC X .NotEq a b ρ M (.bl (!decide (f = g))) M2 := XC.bin op_ne ha hb fun _ _ _ _ _ w r1 r2 q => by
  rw [of_bl r1, of_bl r2]; exact ⟨rfl, by rw [dV_bl]; exact q.use (Ex.refl _) w rep_bl⟩
def D.isNon : D → Bool
  | .non => true
  | _ => false
theorem rep_isNon {K : PySem.W.Frag} {G : Hp} {x : V} (h : Rep K G d x) : decide (x = .non) = d.isNon := by
  cases d <;> unfold Rep at h
  case non => subst h; rfl
  case bl => subst h; rfl
  case int => subst h; rfl
  case str => subst h; rfl
  case adr => subst h; rfl
  case ty => subst h; rfl
  case dN => obtain ⟨a, o, kvs, rfl, _⟩ := h; rfl
  case exs => obtain ⟨rfl, _⟩ := h; rfl
  all_goals (obtain ⟨a, vs, rfl, _⟩ := h; rfl)
theorem c_isN (ha : XE X a ρ M d M1) (hb : XE X b ρ M1 .non M2) : XC X .Is a b ρ M (.bl d.isNon) M2 := XC.bin op_isN ha hb fun _ _ _ _ _ w r1 r2 q => ⟨of_non r2, by rw [rep_isNon r1]; exact q.use (Ex.refl _) w rep_bl⟩
theorem c_notN (ha : XE X a ρ M d M1) (hb : XE X b ρ M1 .non M2) : XC X .IsNot a b ρ M (.bl (!d.isNon)) M2 := XC.bin op_notN ha hb fun _ _ _ _ _ w r1 r2 q => ⟨of_non r2, by rw [rep_isNon r1]; exact q.use (Ex.refl _) w rep_bl⟩
/-- a sign in a text -/
theorem c_inS {n : Nat} (ha : XE X a ρ M (.str ⟨#[n]⟩) M1) (hb : XE X b ρ M1 (.str t) M2) : XC X .In a b ρ M (.bl (decide (n ∈ t.cps.toList))) M2 := XC.bin op_in_sign ha hb fun _ _ _ _ _ w r1 r2 q => ⟨n, t, of_str r1, of_str r2, q.use (Ex.refl _) w rep_bl⟩
theorem c_notInS {n : Nat} (ha : XE X a ρ M (.str ⟨#[n]⟩) M1) (hb : XE X b ρ M1 (.str t) M2) : XC X .NotIn a b ρ M (.bl (!decide (n ∈ t.cps.toList))) M2 := XC.bin op_notIn_sign ha hb fun _ _ _ _ _ w r1 r2 q => ⟨n, t, of_str r1, of_str r2, q.use (Ex.refl _) w rep_bl⟩
/-- in a sequence of texts, of numbers -/
theorem inV_strs {s : Str} : ∀ {ns : List Str}, inV (.str s) (ns.map V.str) = decide (s ∈ ns)
  | [] => by simp [inV]
  | n :: ns => by
    have ih := inV_strs (s := s) (ns := ns)
    unfold inV at ih ⊢
    rw [List.map_cons, List.any_cons, ih]
    by_cases h : n = s
    · subst h; simp [eqV]
    · have : s ≠ n := fun e => h e.symm
      simp [eqV, h, this]
theorem inV_ints {s : Int} : ∀ {ns : List Int}, inV (.int s) (ns.map V.int) = decide (s ∈ ns)
  | [] => by simp [inV]
  | n :: ns => by
    have ih := inV_ints (s := s) (ns := ns)
    unfold inV at ih ⊢
    rw [List.map_cons, List.any_cons, ih]
    by_cases h : n = s
    · subst h; simp [eqV]
    · have : s ≠ n := fun e => h e.symm
      simp [eqV, h, this]
theorem flat_strs : ∀ {ns : List Str}, (ns.map V.str).all flatV = true
  | [] => rfl
  | n :: ns => by rw [List.map_cons, List.all_cons, flat_strs]; rfl
theorem flat_ints : ∀ {ns : List Int}, (ns.map V.int).all flatV = true
  | [] => rfl
  | n :: ns => by rw [List.map_cons, List.all_cons, flat_ints]; rfl
/-- what may be read as a list or tuple of ds, under M -/
inductive SeqD (M : Mem) : D → List D → Prop where
  | tup (ds : List D) : SeqD M (.tup ds) ds
  | lst (ds : List D) : SeqD M (.lst ds) ds
  | rlst (ds : List D) : SeqD M (.rlst ds) ds
  | own (k : Nat) (p : Addr) (ds : List D) (h : M[k]? = some (p, .lst ds)) : SeqD M (.adr p) ds
theorem SeqD.get {K : PySem.W.Frag} {G H : Hp} {x : V} (h : SeqD M d ds) (w : Wd K G M H) (r : Rep K G d x) : ∃ a vs, x = .ref a ∧ (SqL K H a vs ∨ SqT K H a vs) ∧ RepL K G ds vs := by
  cases h with
  | tup => obtain ⟨a, vs, rfl, h, rv⟩ := of_tup r; exact ⟨a, vs, rfl, .inr (h.mono w.ex).sq, rv⟩
  | lst => obtain ⟨a, vs, rfl, h, rv⟩ := of_lst r; exact ⟨a, vs, rfl, .inl (SqL.of (w.ex _ _ h)), rv⟩
  | rlst => obtain ⟨a, vs, rfl, h, rv⟩ := of_rlst r; exact ⟨a, vs, rfl, .inl (ex_l w.ex h), rv⟩
  | own k p _ hk => obtain ⟨vs, hv, rv⟩ := (w.at hk).2; exact ⟨p, vs, of_adr r, .inl (SqL.of hv), rv⟩
theorem c_inStrs {ns : List Str} (ha : XE X a ρ M (.str s) M1) (hb : XE X b ρ M1 d M2) (hq : SeqD M2 d (ns.map D.str)) : XC X .In a b ρ M (.bl (decide (s ∈ ns))) M2 := XC.bin op_in_seq ha hb fun G H x y Q w r1 r2 q => by
  obtain ⟨a, vs, rfl, hv, rv⟩ := hq.get w r2
  rw [of_str r1]
  have := rv.strs; subst this
  exact ⟨a, _, rfl, hv, rfl, flat_strs, by rw [if_neg Bool.false_ne_true, inV_strs]; exact q.use (Ex.refl _) w rep_bl⟩
theorem c_notInStrs {ns : List Str} (ha : XE X a ρ M (.str s) M1) (hb : XE X b ρ M1 d M2) (hq : SeqD M2 d (ns.map D.str)) : XC X .NotIn a b ρ M (.bl (!decide (s ∈ ns))) M2 := XC.bin op_notIn_seq ha hb fun G H x y Q w r1 r2 q => by
  obtain ⟨a, vs, rfl, hv, rv⟩ := hq.get w r2
  rw [of_str r1]
  have := rv.strs; subst this
  exact ⟨a, _, rfl, hv, rfl, flat_strs, by rw [if_pos rfl, inV_strs]; exact q.use (Ex.refl _) w rep_bl⟩
theorem c_inInts {ns : List Int} (ha : XE X a ρ M (.int i) M1) (hb : XE X b ρ M1 d M2) (hq : SeqD M2 d (ns.map D.int)) : XC X .In a b ρ M (.bl (decide (i ∈ ns))) M2 := XC.bin op_in_seq ha hb fun G H x y Q w r1 r2 q => by
  obtain ⟨a, vs, rfl, hv, rv⟩ := hq.get w r2
  rw [of_int r1]
  have := rv.ints; subst this
  exact ⟨a, _, rfl, hv, rfl, flat_ints, by rw [if_neg Bool.false_ne_true, inV_ints]; exact q.use (Ex.refl _) w rep_bl⟩
theorem c_notInInts {ns : List Int} (ha : XE X a ρ M (.int i) M1) (hb : XE X b ρ M1 d M2) (hq : SeqD M2 d (ns.map D.int)) : XC X .NotIn a b ρ M (.bl (!decide (i ∈ ns))) M2 := XC.bin op_notIn_seq ha hb fun G H x y Q w r1 r2 q => by
  obtain ⟨a, vs, rfl, hv, rv⟩ := hq.get w r2
  rw [of_int r1]
  have := rv.ints; subst this
  exact ⟨a, _, rfl, hv, rfl, flat_ints, by rw [if_pos rfl, inV_ints]; exact q.use (Ex.refl _) w rep_bl⟩

/-! deep equality -/
mutual
def D.py : D → PyData
  | .non => .none
  | .bl b => .bool b
  | .int i => .int i
  | .str s => .str s
  | .tup xs => .tuple (D.pys xs)
  | .lst xs => .list (D.pys xs)
  | .rlst xs => .list (D.pys xs)
  | _ => .none
def D.pys : List D → List PyData
  | [] => []
  | d :: ds => D.py d :: D.pys ds
end
mutual
/-- may be compared -/
def D.ok : D → Bool
  | .non => true
  | .bl _ => true
  | .int _ => true
  | .str _ => true
  | .tup xs => D.oks xs
  | .lst xs => D.oks xs
  | .rlst xs => D.oks xs
  | _ => false
def D.oks : List D → Bool
  | [] => true
  | d :: ds => D.ok d && D.oks ds
end
mutual
theorem rep_dp {K : PySem.W.Frag} {G H : Hp} (e : Ex G H) : ∀ (d : D) (x : V), d.ok = true → Rep K G d x → Dp K H x d.py
  | .non, x, _, r => by unfold Rep at r; subst r; unfold D.py; exact .non
  | .bl b, x, _, r => by unfold Rep at r; subst r; unfold D.py; exact .bl b
  | .int i, x, _, r => by unfold Rep at r; subst r; unfold D.py; exact .int i
  | .str s, x, _, r => by unfold Rep at r; subst r; unfold D.py; exact .str s
  | .tup xs, x, k, r => by
    unfold D.ok at k; unfold D.py
    obtain ⟨a, vs, rfl, h, rv⟩ := of_tup r
    exact .tup (h.mono e).sq (rep_dps e xs vs k rv)
  | .lst xs, x, k, r => by
    unfold D.ok at k; unfold D.py
    obtain ⟨a, vs, rfl, h, rv⟩ := of_lst r
    exact .lst (SqL.of (e _ _ h)) (rep_dps e xs vs k rv)
  | .rlst xs, x, k, r => by
    unfold D.ok at k; unfold D.py
    obtain ⟨a, vs, rfl, h, rv⟩ := of_rlst r
    exact .lst (ex_l e h) (rep_dps e xs vs k rv)
  | .dK _ _, _, k, _ => by simp [D.ok] at k
  | .dT _ _, _, k, _ => by simp [D.ok] at k
  | .adr _, _, k, _ => by simp [D.ok] at k
  | .ty _, _, k, _ => by simp [D.ok] at k
  | .exc _ _, _, k, _ => by simp [D.ok] at k
  | .exs _ _ _, _, k, _ => by simp [D.ok] at k
  | .exm _ _, _, k, _ => by simp [D.ok] at k
theorem rep_dps {K : PySem.W.Frag} {G H : Hp} (e : Ex G H) : ∀ (ds : List D) (vs : List V), D.oks ds = true → RepL K G ds vs → DpAll K H vs (D.pys ds)
  | [], vs, _, r => by unfold RepL at r; subst r; unfold D.pys; exact .nil
  | d :: ds, vs, k, r => by
    unfold D.oks at k
    rw [Bool.and_eq_true] at k
    unfold RepL at r
    obtain ⟨v, rr, rfl, r1, r2⟩ := r
    unfold D.pys
    exact .cons (rep_dp e d v k.1 r1) (rep_dps e ds rr k.2 r2)
end
/-- of any kind, by what they are -/
def D.eqv (d e : D) : Bool := PyData.eqv d.py e.py
def D.fit (d : D) : Prop := d.ok = true ∧ SeqAt.shaped d.py = true
theorem c_eqD (hu : X.A.units + 64 < cLine) (ha : XE X a ρ M d1 M1) (hb : XE X b ρ M1 d2 M2) (h1 : d1.fit) (h2 : d2.fit) : XC X .Eq a b ρ M (.bl (d1.eqv d2)) M2 := XC.bin (op_eqD hu) ha hb fun G H x y Q w r1 r2 q =>
  ⟨d1.py, d2.py, rep_dp w.ex d1 x h1.1 r1, rep_dp w.ex d2 y h2.1 r2, h1.2, h2.2, q.use (Ex.refl _) w rep_bl⟩
theorem c_neD (hu : X.A.units + 64 < cLine) (ha : XE X a ρ M d1 M1) (hb : XE X b ρ M1 d2 M2) (h1 : d1.fit) (h2 : d2.fit) : XC X .NotEq a b ρ M (.bl (!d1.eqv d2)) M2 := XC.bin (op_neD hu) ha hb fun G H x y Q w r1 r2 q =>
  ⟨d1.py, d2.py, rep_dp w.ex d1 x h1.1 r1, rep_dp w.ex d2 y h2.1 r2, h1.2, h2.2, q.use (Ex.refl _) w rep_bl⟩

/-! a comparison as a value, as a test -/
variable {op : CmpOp}
theorem x_cmp (h : XC X op a b ρ M d M1) (hb : behindInMarks op b = false := by first | exact nobehind _ (by decide) (by decide) | rfl) : XE X (.Compare a [op] [b] pos) ρ M d M1 := .mk fun G σ H Q sl w q => Sem.of (pe_cmp pc_sem hb) (h.run G σ H Q sl w q)
theorem t_cmp {k : Bool} (h : XC X op a b ρ M (.bl k) M1) (hb : behindInMarks op b = false := by first | exact nobehind _ (by decide) (by decide) | rfl) : XT X (.Compare a [op] [b] pos) ρ M k M1 := .mk fun G σ H Q sl w q =>
  SemT.of (pt_cmp pc_sem hb) (h.run G σ H _ sl w fun v G' H' e' w' r' => ⟨k, of_bl r', q G' H' e' w'⟩)
theorem t_val {k : Bool} (h : XE X e ρ M (.bl k) M1) (he : ∀ whole, isTrue e X.env whole = (do let v ← whole; standAt e.pos; holding [v] (truthy v)) := by exact tr_of rfl) : XT X e ρ M k M1 := .mk fun G σ H Q sl w q =>
  SemT.of (pt_val pe_sem he) (h.run G σ H _ sl w fun v G' H' e' w' r' => ⟨k, of_bl r', q G' H' e' w'⟩)
theorem t_not {k : Bool} (h : XT X a ρ M k M1) : XT X (.UnaryOp .Not a pos) ρ M (!k) M1 := .mk fun G σ H Q sl w q =>
  SemT.of (pt_not pt_sem) (h.run G σ H _ sl w q)
theorem t_w {k : Bool} (h : XW X a ρ M k M1) : XT X a ρ M k M1 := .mk fun G σ H Q sl w q => SemT.of (PW.pt pw_sem) (h.run G σ H Q sl w q)
theorem w_and1 {k : Bool} (h : XT X a ρ M k M1) : XW X (.BoolOp .And [a] pos) ρ M k M1 := .mk fun G σ H Q sl w q => SemW.of (pw_and1 pt_sem) (h.run G σ H Q sl w q)
theorem w_or1 {k : Bool} (h : XT X a ρ M k M1) : XW X (.BoolOp .Or [a] pos) ρ M k M1 := .mk fun G σ H Q sl w q => SemW.of (pw_or1 pt_sem) (h.run G σ H Q sl w q)
theorem w_and {k m : Bool} (h : XT X a ρ M k M1) (hr : k = true → XW X (.BoolOp .And (b :: es) pos) ρ M1 m M2) (hf : k = false → m = false ∧ M2 = M1) : XW X (.BoolOp .And (a :: b :: es) pos) ρ M m M2 := .mk fun G σ H Q sl w q =>
  SemW.of (pw_and pt_sem pw_sem) (h.run G σ H _ sl w fun G' H' e' w' => by
    cases k with
    | true => rw [if_pos rfl]; exact (hr rfl).run G' σ H' Q (sl.mono e') w' fun G2 H2 e2 w2 => q G2 H2 (e'.trans e2) w2
    | false =>
      obtain ⟨rfl, rfl⟩ := hf rfl
      rw [if_neg Bool.false_ne_true]; exact q G' H' e' w')
theorem w_or {k m : Bool} (h : XT X a ρ M k M1) (hr : k = false → XW X (.BoolOp .Or (b :: es) pos) ρ M1 m M2) (hf : k = true → m = true ∧ M2 = M1) : XW X (.BoolOp .Or (a :: b :: es) pos) ρ M m M2 := .mk fun G σ H Q sl w q =>
  SemW.of (pw_or pt_sem pw_sem) (h.run G σ H _ sl w fun G' H' e' w' => by
    cases k with
    | false => rw [if_neg Bool.false_ne_true]; exact (hr rfl).run G' σ H' Q (sl.mono e') w' fun G2 H2 e2 w2 => q G2 H2 (e'.trans e2) w2
    | true =>
      obtain ⟨rfl, rfl⟩ := hf rfl
      rw [if_pos rfl]; exact q G' H' e' w')
/-- pure second parts -/
theorem w_andP {k m : Bool} (h : XT X a ρ M k M1) (hr : k = true → XW X (.BoolOp .And (b :: es) pos) ρ M1 m M1) : XW X (.BoolOp .And (a :: b :: es) pos) ρ M (k && m) M1 := by
  cases k with
  | true => exact w_and h (fun _ => by simpa using hr rfl) (fun e => by cases e)
  | false => exact w_and h (fun e => by cases e) (fun _ => ⟨rfl, rfl⟩)
theorem w_orP {k m : Bool} (h : XT X a ρ M k M1) (hr : k = false → XW X (.BoolOp .Or (b :: es) pos) ρ M1 m M1) : XW X (.BoolOp .Or (a :: b :: es) pos) ρ M (k || m) M1 := by
  cases k with
  | false => exact w_or h (fun _ => by simpa using hr rfl) (fun e => by cases e)
  | true => exact w_or h (fun e => by cases e) (fun _ => ⟨rfl, rfl⟩)
/-! and, or, not of truths as values -/
theorem x_one {o : BoolOp} (h : XE X a ρ M d M1) : XE X (.BoolOp o [a] pos) ρ M d M1 := .mk fun G σ H Q sl w q => Sem.of (pe_one pe_sem) (h.run G σ H Q sl w q)
theorem x_and {k m : Bool} (h : XE X a ρ M (.bl k) M1) (hr : k = true → XE X (.BoolOp .And (b :: es) pos) ρ M1 (.bl m) M2) (hf : k = false → m = false ∧ M2 = M1) : XE X (.BoolOp .And (a :: b :: es) pos) ρ M (.bl m) M2 := .mk fun G σ H Q sl w q =>
  Sem.of (pe_and pe_sem pe_sem) (h.run G σ H _ sl w fun v G' H' e' w' r' => ⟨k, of_bl r', by
    cases k with
    | true => rw [if_pos rfl]; exact (hr rfl).run G' σ H' Q (sl.mono e') w' (q.up e')
    | false =>
      obtain ⟨rfl, rfl⟩ := hf rfl
      rw [if_neg Bool.false_ne_true]; exact q.use e' w' rep_bl⟩)
theorem x_or {k m : Bool} (h : XE X a ρ M (.bl k) M1) (hr : k = false → XE X (.BoolOp .Or (b :: es) pos) ρ M1 (.bl m) M2) (hf : k = true → m = true ∧ M2 = M1) : XE X (.BoolOp .Or (a :: b :: es) pos) ρ M (.bl m) M2 := .mk fun G σ H Q sl w q =>
  Sem.of (pe_or pe_sem pe_sem) (h.run G σ H _ sl w fun v G' H' e' w' r' => ⟨k, of_bl r', by
    cases k with
    | false => rw [if_neg Bool.false_ne_true]; exact (hr rfl).run G' σ H' Q (sl.mono e') w' (q.up e')
    | true =>
      obtain ⟨rfl, rfl⟩ := hf rfl
      rw [if_pos rfl]; exact q.use e' w' rep_bl⟩)
theorem x_andP {k m : Bool} (h : XE X a ρ M (.bl k) M1) (hr : k = true → XE X (.BoolOp .And (b :: es) pos) ρ M1 (.bl m) M1) : XE X (.BoolOp .And (a :: b :: es) pos) ρ M (.bl (k && m)) M1 := by
  cases k with
  | true => exact x_and h (fun _ => by simpa using hr rfl) (fun e => by cases e)
  | false => exact x_and h (fun e => by cases e) (fun _ => ⟨rfl, rfl⟩)
theorem x_orP {k m : Bool} (h : XE X a ρ M (.bl k) M1) (hr : k = false → XE X (.BoolOp .Or (b :: es) pos) ρ M1 (.bl m) M1) : XE X (.BoolOp .Or (a :: b :: es) pos) ρ M (.bl (k || m)) M1 := by
  cases k with
  | false => exact x_or h (fun _ => by simpa using hr rfl) (fun e => by cases e)
  | true => exact x_or h (fun e => by cases e) (fun _ => ⟨rfl, rfl⟩)
theorem x_not {k : Bool} (h : XE X a ρ M (.bl k) M1) : XE X (.UnaryOp .Not a pos) ρ M (.bl (!k)) M1 := .mk fun G σ H Q sl w q =>
  Sem.of (pe_not pe_sem) (h.run G σ H _ sl w fun v G' H' e' w' r' => ⟨k, of_bl r', q.use e' w' rep_bl⟩)
theorem x_if {k : Bool} (hc : XT X c ρ M k M1) (h1 : k = true → XE X a ρ M1 d M2) (h2 : k = false → XE X b ρ M1 d M2) : XE X (.IfExp c a b pos) ρ M d M2 := .mk fun G σ H Q sl w q =>
  Sem.of (pe_ifExp pt_sem pe_sem pe_sem) (hc.run G σ H _ sl w fun G' H' e' w' => by
    cases k with
    | true => rw [if_pos rfl]; exact (h1 rfl).run G' σ H' Q (sl.mono e') w' (q.up e')
    | false => rw [if_neg Bool.false_ne_true]; exact (h2 rfl).run G' σ H' Q (sl.mono e') w' (q.up e'))
end
end Wk

/-! Wk: calls of builtins and of methods of built-in types. -/
namespace Wk
open PySem PySem.Spec PyProof.Rows L2 Evl

theorem boot_len' : bootBuiltins "len" = some (.builtin "len") := PySem.boot_len
theorem boot_sum' : bootBuiltins "sum" = some (.builtin "sum") := by decide +kernel
theorem boot_max' : bootBuiltins "max" = some (.builtin "max") := by decide +kernel
theorem boot_min' : bootBuiltins "min" = some (.builtin "min") := by decide +kernel
theorem boot_all' : bootBuiltins "all" = some (.builtin "all") := by decide +kernel
theorem boot_range' : bootBuiltins "range" = some (.type "range") := by decide +kernel

section
variable {X : Cx} {e a b c : Expr} {es : List Expr} {ρ : Env} {M M1 M2 M3 : Mem} {d d1 d2 d3 : D} {ds ds1 ds2 : List D} {pos p apos : Pos} {i j : Int} {q : Addr} {x : Str} {fid T : String} {o : MO} {r : List V → Hp → VK → Prop}

theorem XE.callB (hc : CallR X (.builtin fid) r) (hv : bootBuiltins x = some (.builtin fid)) (ha : XA X (e :: es) ρ M ds M1)
    (k : ∀ G H vs Q, Wd X.K G M1 H → RepL X.K G ds vs → Wish X.K G M2 d Q → r vs H Q) (hm : X.mg x = none) (hg : Gl X x) (hn : x ≠ "__name__") (hdb : (x == ("__debug__" : Str)) = false)
    (he : starEach (e :: es) X.env = (false, eval e X.env) :: starEach es X.env) (hpl : (backTo pos (starEach es X.env)).any (·.1) = false) : XE X (.Call (.Name x p) (e :: es) [] pos) ρ M d M2 := .mk fun G σ H Q sl w q =>
  Sem.of (pe_callB hc hg hm hv pa_sem hn hdb he hpl) (ha.run G σ H _ sl w fun vs G1 H1 e1 w1 r1 => k G1 H1 vs Q w1 r1 (q.up e1))
theorem XN.callB (hc : CallR X (.builtin fid) r) (hv : bootBuiltins x = some (.builtin fid)) (ha : XA X (e :: es) ρ M ds M1)
    (k : ∀ G H vs Q, Wd X.K G M1 H → RepL X.K G ds vs → (∀ p G' H', Ex G G' → Wd X.K G' ((p, o) :: M2) H' → Q (.ref p) H') → r vs H Q) (hm : X.mg x = none) (hg : Gl X x) (hn : x ≠ "__name__") (hdb : (x == ("__debug__" : Str)) = false)
    (he : starEach (e :: es) X.env = (false, eval e X.env) :: starEach es X.env) (hpl : (backTo pos (starEach es X.env)).any (·.1) = false) : XN X (.Call (.Name x p) (e :: es) [] pos) ρ M o M2 := .mk fun G σ H Q sl w q =>
  Sem.of (pe_callB hc hg hm hv pa_sem hn hdb he hpl) (ha.run G σ H _ sl w fun vs G1 H1 e1 w1 r1 => k G1 H1 vs Q w1 r1 fun p G' H' e2 w2 => q p G' H' (e1.trans e2) w2)
theorem XE.callTy (hc : CallR X (.type T) r) (hv : bootBuiltins x = some (.type T)) (ha : XA X (e :: es) ρ M ds M1)
    (k : ∀ G H vs Q, Wd X.K G M1 H → RepL X.K G ds vs → Wish X.K G M2 d Q → r vs H Q) (hm : X.mg x = none) (hg : Gl X x) (hn : x ≠ "__name__") (hdb : (x == ("__debug__" : Str)) = false)
    (he : starEach (e :: es) X.env = (false, eval e X.env) :: starEach es X.env) (hpl : (backTo pos (starEach es X.env)).any (·.1) = false) : XE X (.Call (.Name x p) (e :: es) [] pos) ρ M d M2 := .mk fun G σ H Q sl w q =>
  Sem.of (pe_callTy hc hg hm hv pa_sem hn hdb he hpl) (ha.run G σ H _ sl w fun vs G1 H1 e1 w1 r1 => k G1 H1 vs Q w1 r1 (q.up e1))
theorem XN.callTy (hc : CallR X (.type T) r) (hv : bootBuiltins x = some (.type T)) (ha : XA X (e :: es) ρ M ds M1)
    (k : ∀ G H vs Q, Wd X.K G M1 H → RepL X.K G ds vs → (∀ p G' H', Ex G G' → Wd X.K G' ((p, o) :: M2) H' → Q (.ref p) H') → r vs H Q) (hm : X.mg x = none) (hg : Gl X x) (hn : x ≠ "__name__") (hdb : (x == ("__debug__" : Str)) = false)
    (he : starEach (e :: es) X.env = (false, eval e X.env) :: starEach es X.env) (hpl : (backTo pos (starEach es X.env)).any (·.1) = false) : XN X (.Call (.Name x p) (e :: es) [] pos) ρ M o M2 := .mk fun G σ H Q sl w q =>
  Sem.of (pe_callTy hc hg hm hv pa_sem hn hdb he hpl) (ha.run G σ H _ sl w fun vs G1 H1 e1 w1 r1 => k G1 H1 vs Q w1 r1 fun p G' H' e2 w2 => q p G' H' (e1.trans e2) w2)
theorem RepL.one {K : PySem.W.Frag} {G : Hp} {vs : List V} (h : RepL K G [d] vs) : ∃ v, vs = [v] ∧ Rep K G d v := by
  unfold RepL at h
  obtain ⟨v, r, rfl, h1, h2⟩ := h
  unfold RepL at h2
  subst h2
  exact ⟨v, rfl, h1⟩
theorem RepL.two {K : PySem.W.Frag} {G : Hp} {vs : List V} (h : RepL K G [d1, d2] vs) : ∃ v w, vs = [v, w] ∧ Rep K G d1 v ∧ Rep K G d2 w := by
  unfold RepL at h
  obtain ⟨v, r, rfl, h1, h2⟩ := h
  obtain ⟨w, rfl, h3⟩ := h2.one
  exact ⟨v, w, rfl, h1, h3⟩

/-! len -/
theorem x_len (ha : XA X [a] ρ M [d] M1) (hq : SeqD M1 d ds) (hm : X.mg "len" = none) (hg : Gl X "len" := by rfl) (he : starEach [a] X.env = (false, eval a X.env) :: starEach [] X.env := by exact star_of rfl) :
    XE X (.Call (.Name "len" p) [a] [] pos) ρ M (.int (ds.length : Nat)) M1 := XE.callB call_len_seq boot_len' ha (fun G H vs Q w rs q => by
  obtain ⟨v, rfl, r⟩ := rs.one
  obtain ⟨a, us, rfl, hs, rv⟩ := hq.get w r
  exact ⟨a, us, rfl, hs, q.use (Ex.refl G) w (by rw [rv.length]; exact rep_int)⟩) hm hg (by decide) (by decide) he (by rfl)
theorem x_lenS {s : Str} (ha : XA X [a] ρ M [.str s] M1) (hl : s.length ≤ sizeLine) (hm : X.mg "len" = none) (hg : Gl X "len" := by rfl) (he : starEach [a] X.env = (false, eval a X.env) :: starEach [] X.env := by exact star_of rfl) :
    XE X (.Call (.Name "len" p) [a] [] pos) ρ M (.int (s.length : Nat)) M1 := XE.callB call_len_str boot_len' ha (fun G H vs Q w rs q => by
  obtain ⟨v, rfl, r⟩ := rs.one
  exact ⟨s, by rw [of_str r], hl, q.use (Ex.refl G) w rep_int⟩) hm hg (by decide) (by decide) he (by rfl)
/-! numbers -/
theorem x_max2 (hc : X.calm = true) (ha : XA X [a, b] ρ M [.int i, .int j] M1) (hm : X.mg "max" = none) (hg : Gl X "max" := by rfl) (he : starEach [a, b] X.env = (false, eval a X.env) :: starEach [b] X.env := by exact star_of rfl) (hpl : (backTo pos (starEach [b] X.env)).any (·.1) = false := by exact nostars rfl) :
    XE X (.Call (.Name "max" p) [a, b] [] pos) ρ M (.int (max i j)) M1 := XE.callB (call_max2 hc) boot_max' ha (fun G H vs Q w rs q => by
  obtain ⟨v, u, rfl, r1, r2⟩ := rs.two
  refine ⟨i, j, by rw [of_int r1, of_int r2], q.use (Ex.refl G) w ?_⟩
  have : (if j > i then j else i) = max i j := by split <;> omega
  rw [this]; exact rep_int) hm hg (by decide) (by decide) he hpl
theorem x_min2 (hc : X.calm = true) (ha : XA X [a, b] ρ M [.int i, .int j] M1) (hm : X.mg "min" = none) (hg : Gl X "min" := by rfl) (he : starEach [a, b] X.env = (false, eval a X.env) :: starEach [b] X.env := by exact star_of rfl) (hpl : (backTo pos (starEach [b] X.env)).any (·.1) = false := by exact nostars rfl) :
    XE X (.Call (.Name "min" p) [a, b] [] pos) ρ M (.int (min i j)) M1 := XE.callB (call_min2 hc) boot_min' ha (fun G H vs Q w rs q => by
  obtain ⟨v, u, rfl, r1, r2⟩ := rs.two
  refine ⟨i, j, by rw [of_int r1, of_int r2], q.use (Ex.refl G) w ?_⟩
  have : (if j < i then j else i) = min i j := by split <;> omega
  rw [this]; exact rep_int) hm hg (by decide) (by decide) he hpl
theorem x_abs (ha : XA X [a] ρ M [.int i] M1) (hm : X.mg "abs" = none) (hg : Gl X "abs" := by rfl) (he : starEach [a] X.env = (false, eval a X.env) :: starEach [] X.env := by exact star_of rfl) :
    XE X (.Call (.Name "abs" p) [a] [] pos) ρ M (.int i.natAbs) M1 := XE.callB call_abs boot_abs ha (fun G H vs Q w rs q => by
  obtain ⟨v, rfl, r⟩ := rs.one
  refine ⟨i, by rw [of_int r], q.use (Ex.refl G) w ?_⟩
  have : (if i < 0 then -i else i) = (i.natAbs : Int) := by split <;> omega
  rw [this]; exact rep_int) hm hg (by decide) (by decide) he (by rfl)
/-- a list (frozen, owned, read) of ints -/
theorem x_sum {ns : List Int} (hc : X.calm = true) (ha : XA X [a] ρ M [d] M1) (hq : SeqD M1 d (ns.map D.int)) (ht : ∀ ds, d ≠ .tup ds := by intro _ h; cases h) (hm : X.mg "sum" = none) (hg : Gl X "sum" := by rfl) (he : starEach [a] X.env = (false, eval a X.env) :: starEach [] X.env := by exact star_of rfl) :
    XE X (.Call (.Name "sum" p) [a] [] pos) ρ M (.int ns.sum) M1 := XE.callB (cr_sum hc) boot_sum' ha (fun G H vs Q w rs q => by
  obtain ⟨v, rfl, r⟩ := rs.one
  have : ∃ a vs, v = .ref a ∧ SqL X.K H a vs ∧ RepL X.K G (ns.map D.int) vs := by
    generalize hd : ns.map D.int = ds at hq
    cases hq with
    | tup => exact absurd rfl (ht _)
    | lst => obtain ⟨a, vs, rfl, h, rv⟩ := of_lst r; exact ⟨a, vs, rfl, SqL.of (w.ex _ _ h), rv⟩
    | rlst => obtain ⟨a, vs, rfl, h, rv⟩ := of_rlst r; exact ⟨a, vs, rfl, ex_l w.ex h, rv⟩
    | own k p _ hk => obtain ⟨vs, hv, rv⟩ := (w.at hk).2; exact ⟨p, vs, of_adr r, SqL.of hv, rv⟩
  obtain ⟨a, us, rfl, hs, rv⟩ := this
  have := rv.ints; subst this
  exact ⟨a, ns, rfl, hs, q.use (Ex.refl G) w rep_int⟩) hm hg (by decide) (by decide) he (by rfl)
theorem x_maxL {ns : List Int} {m : Int} (hc : X.calm = true) (ha : XA X [a] ρ M [.lst (ns.map D.int)] M1) (h0 : m ∈ ns) (hx : ∀ y ∈ ns, y ≤ m) (hm : X.mg "max" = none) (hg : Gl X "max" := by rfl) (he : starEach [a] X.env = (false, eval a X.env) :: starEach [] X.env := by exact star_of rfl) :
    XE X (.Call (.Name "max" p) [a] [] pos) ρ M (.int m) M1 := XE.callB (cr_max hc) boot_max' ha (fun G H vs Q w rs q => by
  obtain ⟨v, rfl, r⟩ := rs.one
  obtain ⟨a, us, rfl, hs, rv⟩ := of_lst r
  have := rv.ints; subst this
  refine ⟨a, ns, rfl, SqL.of (w.ex _ _ hs), List.length_pos_of_mem h0, fun k hk hle => q.use (Ex.refl G) w ?_⟩
  have : k = m := Int.le_antisymm (hx k hk) (hle m h0)
  rw [this]; exact rep_int) hm hg (by decide) (by decide) he (by rfl)
theorem x_allL {bs : List Bool} (hc : X.calm = true) (ha : XA X [a] ρ M [.lst (bs.map D.bl)] M1) (hm : X.mg "all" = none) (hg : Gl X "all" := by rfl) (he : starEach [a] X.env = (false, eval a X.env) :: starEach [] X.env := by exact star_of rfl) :
    XE X (.Call (.Name "all" p) [a] [] pos) ρ M (.bl (bs.all id)) M1 := XE.callB (cr_all hc) boot_all' ha (fun G H vs Q w rs q => by
  obtain ⟨v, rfl, r⟩ := rs.one
  obtain ⟨a, us, rfl, hs, rv⟩ := of_lst r
  have := rv.bls; subst this
  exact ⟨a, bs, rfl, SqL.of (w.ex _ _ hs), q.use (Ex.refl G) w rep_bl⟩) hm hg (by decide) (by decide) he (by rfl)
theorem x_intB {k : Bool} (ha : XA X [a] ρ M [.bl k] M1) (hm : X.mg "int" = none) (hg : Gl X "int" := by rfl) (he : starEach [a] X.env = (false, eval a X.env) :: starEach [] X.env := by exact star_of rfl) :
    XE X (.Call (.Name "int" p) [a] [] pos) ρ M (.int (if k then 1 else 0)) M1 := XE.callTy call_int1 boot_int ha (fun G H vs Q w rs q => by
  obtain ⟨v, rfl, r⟩ := rs.one
  exact .inr ⟨k, by rw [of_bl r], q.use (Ex.refl G) w rep_int⟩) hm hg (by decide) (by decide) he (by rfl)
theorem x_intS {s : Str} {n : Int} (ha : XA X [a] ρ M [.str s] M1) (h1 : PySem.intText? s = some n) (h2 : s.length ≤ 640) (hm : X.mg "int" = none) (hg : Gl X "int" := by rfl) (he : starEach [a] X.env = (false, eval a X.env) :: starEach [] X.env := by exact star_of rfl) :
    XE X (.Call (.Name "int" p) [a] [] pos) ρ M (.int n) M1 := XE.callTy call_int_str boot_int ha (fun G H vs Q w rs q => by
  obtain ⟨v, rfl, r⟩ := rs.one
  exact ⟨s, n, by rw [of_str r], h1, h2, q.use (Ex.refl G) w rep_int⟩) hm hg (by decide) (by decide) he (by rfl)
theorem x_strI (ha : XA X [a] ρ M [.int i] M1) (h : i.natAbs.log2 < 1920) (hm : X.mg "str" = none) (hg : Gl X "str" := by rfl) (he : starEach [a] X.env = (false, eval a X.env) :: starEach [] X.env := by exact star_of rfl) :
    XE X (.Call (.Name "str" p) [a] [] pos) ρ M (.str (toString i)) M1 := XE.callTy call_str_int boot_str ha (fun G H vs Q w rs q => by
  obtain ⟨v, rfl, r⟩ := rs.one
  exact ⟨i, by rw [of_int r], h, q.use (Ex.refl G) w rep_str⟩) hm hg (by decide) (by decide) he (by rfl)
/-! lists and tuples of others -/
theorem n_listOf (ha : XA X [a] ρ M [d] M1) (hq : SeqD M1 d ds) (hm : X.mg "list" = none) (hg : Gl X "list" := by rfl) (he : starEach [a] X.env = (false, eval a X.env) :: starEach [] X.env := by exact star_of rfl) :
    XN X (.Call (.Name "list" p) [a] [] pos) ρ M (.lst ds) M1 := XN.callTy call_list_of boot_list ha (fun G H vs Q w rs q => by
  obtain ⟨v, rfl, r⟩ := rs.one
  obtain ⟨a, us, rfl, hs, rv⟩ := hq.get w r
  exact ⟨a, us, rfl, hs, fun l hl => q l G _ (Ex.refl G) (wd_newL w hl rv)⟩) hm hg (by decide) (by decide) he (by rfl)
theorem x_tupleOf (ha : XA X [a] ρ M [d] M1) (hq : SeqD M1 d ds) (hm : X.mg "tuple" = none) (hg : Gl X "tuple" := by rfl) (he : starEach [a] X.env = (false, eval a X.env) :: starEach [] X.env := by exact star_of rfl) :
    XE X (.Call (.Name "tuple" p) [a] [] pos) ρ M (.tup ds) M1 := XE.callTy call_tuple_ofF boot_tuple ha (fun G H vs Q w rs q => by
  obtain ⟨v, rfl, r⟩ := rs.one
  have hL : ∀ a us, v = .ref a → SqL X.K H a us → RepL X.K G ds us → (∃ p ys, [v] = [V.ref p] ∧ ((SqL X.K H p ys ∧ NewT H ys Q) ∨ (SqT X.K H p ys ∧ Q (.ref p) H))) := fun a us e hs rv =>
    ⟨a, us, by rw [e], .inl ⟨hs, fun l o h1 h2 hl => q.use (w.exF hl _) (w.newF hl _) (rep_tup (pt_new h1 h2) (rv.mono (w.exF hl _) _))⟩⟩
  cases hq with
  | tup => obtain ⟨a, us, rfl, h, rv⟩ := of_tup r; exact ⟨a, us, rfl, .inr ⟨(h.mono w.ex).sq, q.use (Ex.refl G) w (rep_tup h rv)⟩⟩
  | lst => obtain ⟨a, us, e, h, rv⟩ := of_lst r; exact hL a us e (SqL.of (w.ex _ _ h)) rv
  | rlst => obtain ⟨a, us, e, h, rv⟩ := of_rlst r; exact hL a us e (ex_l w.ex h) rv
  | own k p _ hk => obtain ⟨us, hv, rv⟩ := (w.at hk).2; exact hL p us (of_adr r) (SqL.of hv) rv) hm hg (by decide) (by decide) he (by rfl)
/-- range(n), range(a, b) as an argument -/
def SemR (X : Cx) (e : Expr) : L2.St → Hp → (Int → Int → Hp → Prop) → Prop := fun σ H Q => ∀ (pins : List (Addr × Obj)) (s : Shared), Inv X pins σ H s →
    wpAny (model X.prog X.w) X.A (eval e X.env) (fun x s' => ∃ r a b t u v H', x = .ref r ∧ IsRange s'.heap r a b 1 t u v ∧ Inv X pins σ H' s' ∧ Q a b H') X.xe s
theorem prg_sem : PRg X e (SemR X e) := fun pins s σ H Q I h => h pins s I
structure XR (X : Cx) (e : Expr) (ρ : Env) (M : Mem) (lo hi : Int) (M' : Mem) : Prop where
  run : ∀ (G : Hp) (σ : L2.St) (H : Hp) (Q : Int → Int → Hp → Prop), Sl X.K G ρ σ → Wd X.K G M H → (∀ G' H', Ex G G' → Wd X.K G' M' H' → Q lo hi H') → SemR X e σ H Q
theorem r_1 (ha : XE X a ρ M (.int i) M1) (hm : X.mg "range" = none) (hg : Gl X "range" := by rfl) (na : starEach [a] X.env = (false, eval a X.env) :: starEach [] X.env := by exact star_of rfl) : XR X (.Call (.Name "range" p) [a] [] pos) ρ M 0 i M1 := .mk fun G σ H Q sl w q pins s I =>
  prg_1 hg hm pe_sem na pins s σ H Q I (ha.run G σ H _ sl w fun x G' H' e' w' r' => ⟨i, of_int r', q G' H' e' w'⟩)
theorem r_2 (ha : XE X a ρ M (.int i) M1) (hb : XE X b ρ M1 (.int j) M2) (hm : X.mg "range" = none) (hg : Gl X "range" := by rfl) (na : starEach [a, b] X.env = (false, eval a X.env) :: starEach [b] X.env := by exact star_of rfl)
    (nb : starEach [b] X.env = (false, eval b X.env) :: starEach [] X.env := by exact star_of rfl) (hp : (backTo pos (starEach [b] X.env)).any (·.1) = false := by exact nostars rfl) : XR X (.Call (.Name "range" p) [a, b] [] pos) ρ M i j M2 := .mk fun G σ H Q sl w q pins s I =>
  prg_2 hg hm pe_sem pe_sem na nb hp pins s σ H Q I (ha.run G σ H _ sl w fun x G' H' e' w' r' => hb.run G' σ H' _ (sl.mono e') w' fun y G2 H2 e2 w2 r2 => ⟨i, j, of_int r', of_int r2, q G2 H2 (e'.trans e2) w2⟩)
/-- the ints lo .. hi - 1 -/
def rgI (lo hi : Int) : List Int := (List.range (hi - lo).toNat).map fun k => lo + (k : Nat)
theorem rgV_eq (lo hi : Int) : rgV lo hi = (rgI lo hi).map V.int := by unfold rgV rgI; rw [List.map_map]; rfl
theorem n_listRg {lo hi : Int} (hc : X.calm = true) (h : XR X e ρ M lo hi M1) (hk : RgOk lo hi) (hm : X.mg "list" = none) (hg : Gl X "list" := by rfl) (na : starEach [e] X.env = (false, eval e X.env) :: starEach [] X.env := by exact star_of rfl) :
    XN X (.Call (.Name "list" p) [e] [] pos) ρ M (.lst ((rgI lo hi).map D.int)) M1 := .mk fun G σ H Q sl w q =>
  Sem.of (pe_listRg hc hg hm prg_sem na) (h.run G σ H _ sl w fun G' H' e' w' => ⟨hk, fun z hz => q z G' _ e' (wd_newL w' hz (by rw [rgV_eq]; exact RepL.of_ints))⟩)
theorem x_tupRg {lo hi : Int} (hc : X.calm = true) (h : XR X e ρ M lo hi M1) (hk : RgOk lo hi) (hm : X.mg "tuple" = none) (hg : Gl X "tuple" := by rfl) (na : starEach [e] X.env = (false, eval e X.env) :: starEach [] X.env := by exact star_of rfl) :
    XE X (.Call (.Name "tuple" p) [e] [] pos) ρ M (.tup ((rgI lo hi).map D.int)) M1 := .mk fun G σ H Q sl w q =>
  Sem.of (pe_tupRgF hc hg hm prg_sem na) (h.run G σ H _ sl w fun G' H' e' w' => ⟨hk, fun z o h1 h2 hz => q.use (e'.trans (w'.exF hz _)) (w'.newF hz _) (rep_tup (pt_new h1 h2) (by rw [rgV_eq]; exact RepL.of_ints))⟩)
/-- sorted of ints: the list in order -/
theorem n_sortedI {ns : List Int} (ha : XA X [a] ρ M [d] M1) (hq : SeqD M1 d (ns.map D.int)) {ms : List Int} (hs : ∀ ns' : List Int, ns'.Perm ns → ns'.Pairwise (· ≤ ·) → ns' = ms) (ht : ∀ ds, d ≠ .tup ds := by intro _ h; cases h) (hm : X.mg "sorted" = none) (hg : Gl X "sorted" := by rfl) (he : starEach [a] X.env = (false, eval a X.env) :: starEach [] X.env := by exact star_of rfl) :
    XN X (.Call (.Name "sorted" p) [a] [] pos) ρ M (.lst (ms.map D.int)) M1 := XN.callB cr_sortedI boot_sorted ha (fun G H vs Q w rs q => by
  obtain ⟨v, rfl, r⟩ := rs.one
  have : ∃ a vs, v = .ref a ∧ SqL X.K H a vs ∧ RepL X.K G (ns.map D.int) vs := by
    generalize hd : ns.map D.int = ds at hq
    cases hq with
    | tup => exact absurd rfl (ht _)
    | lst => obtain ⟨a, vs, rfl, h, rv⟩ := of_lst r; exact ⟨a, vs, rfl, SqL.of (w.ex _ _ h), rv⟩
    | rlst => obtain ⟨a, vs, rfl, h, rv⟩ := of_rlst r; exact ⟨a, vs, rfl, ex_l w.ex h, rv⟩
    | own k p _ hk => obtain ⟨vs, hv, rv⟩ := (w.at hk).2; exact ⟨p, vs, of_adr r, SqL.of hv, rv⟩
  obtain ⟨a, us, rfl, hsq, rv⟩ := this
  have := rv.ints; subst this
  refine ⟨a, ns, rfl, hsq, fun ns' p h1 h2 hp => ?_⟩
  have := hs ns' h1 h2
  subst this
  exact q p G _ (Ex.refl G) (wd_newL w hp RepL.of_ints)) hm hg (by decide) (by decide) he (by rfl)

/-! methods of built-in types -/
variable {name : Str} {rm : V → List V → Hp → VK → Prop}
/-- o.name(e, ..): what the method does to an object d of M -/
theorem XE.meth (pa : PlainAttrs T) (slot : Slot T name fid) (hty : typeOf (.builtin fid) = pure (.type "method_descriptor")) (hm : MtR X fid rm) (ho : XE X a ρ M d1 M1) (ha : XA X (e :: es) ρ M1 ds M2)
    (ty : ∀ G H v, Wd X.K G M1 H → Rep X.K G d1 v → tyV X.K T v H) (k : ∀ G H v vs Q, Wd X.K G M2 H → Rep X.K G d1 v → RepL X.K G ds vs → Wish X.K G M3 d Q → rm v vs H Q)
    (hbase : attributeBase a name X.env (eval a X.env) = eval a X.env)
    (hfew : ((backTo pos (starEach (e :: es) X.env)).all (fun x => !x.1) && (backToKw pos (keywordEach [] X.env)).all (fun x => x.1.isSome)
      && decide ((e :: es).length + ([] : List Keyword).length + (if ([] : List Keyword).isEmpty then 0 else 1) < 30)) = true)
    (hline : (apos.endLine == pos.line) = true) (hs : starEach (e :: es) X.env = (false, eval e X.env) :: starEach es X.env) (hplain : (backTo pos (starEach es X.env)).any (·.1) = false) :
    XE X (.Call (.Attribute a name apos) (e :: es) [] pos) ρ M d M3 := .mk fun G σ H Q sl w q =>
  Sem.of (pe_bm pa slot hty hm pe_sem pa_sem hbase hfew hline hs hplain) (ho.run G σ H _ sl w fun v G1 H1 e1 w1 r1 => ⟨ty G1 H1 v w1 r1, ha.run G1 σ H1 _ (sl.mono e1) w1 fun vs G2 H2 e2 w2 r2 => k G2 H2 v vs Q w2 (r1.mono e2) r2 (q.up (e1.trans e2))⟩)
theorem XE.meth0 (pa : PlainAttrs T) (slot : Slot T name fid) (hty : typeOf (.builtin fid) = pure (.type "method_descriptor")) (hm : MtR X fid rm) (ho : XE X a ρ M d1 M1)
    (ty : ∀ G H v, Wd X.K G M1 H → Rep X.K G d1 v → tyV X.K T v H) (k : ∀ G H v Q, Wd X.K G M1 H → Rep X.K G d1 v → Wish X.K G M3 d Q → rm v [] H Q)
    (hbase : attributeBase a name X.env (eval a X.env) = eval a X.env) (hline : (apos.endLine == pos.line) = true) :
    XE X (.Call (.Attribute a name apos) [] [] pos) ρ M d M3 := .mk fun G σ H Q sl w q =>
  Sem.of (pe_bm0 pa slot hty hm pe_sem hbase hline) (ho.run G σ H _ sl w fun v G1 H1 e1 w1 r1 => ⟨ty G1 H1 v w1 r1, k G1 H1 v Q w1 r1 (q.up e1)⟩)
theorem ty_own {k : Nat} (hk : M1[k]? = some (q, .lst ds)) : ∀ G H v, Wd X.K G M1 H → Rep X.K G (.adr q) v → tyV X.K "list" v H := fun G H v w r => by
  obtain ⟨vs, hv, _⟩ := (w.at hk).2
  rw [of_adr r]
  exact Or.inl ⟨rfl, vs, SqL.of hv⟩
theorem ty_str {s : Str} : ∀ G H v, Wd X.K G M1 H → Rep X.K G (.str s) v → tyV X.K "str" v H := fun G H v w r => by
  rw [of_str r]; exact rfl
/-- p.append(e), p owned at place k -/
theorem x_append (k : Nat) (ho : XE X a ρ M (.adr q) M1) (ha : XA X [e] ρ M1 [d] M2) (hk1 : M1[k]? = some (q, .lst ds1)) (hk : M2[k]? = some (q, .lst ds)) (hl : ds.length < sizeLine)
    (hbase : attributeBase a "append" X.env (eval a X.env) = eval a X.env := by exact base_of rfl)
    (hfew : ((backTo pos (starEach [e] X.env)).all (fun x => !x.1) && (backToKw pos (keywordEach [] X.env)).all (fun x => x.1.isSome)
      && decide ([e].length + ([] : List Keyword).length + (if ([] : List Keyword).isEmpty then 0 else 1) < 30)) = true := by exact fewargs rfl (by decide))
    (hline : (apos.endLine == pos.line) = true := by rfl) (hs : starEach [e] X.env = (false, eval e X.env) :: starEach [] X.env := by exact star_of rfl) (hplain : (backTo pos (starEach [] X.env)).any (·.1) = false := by exact nostars rfl) :
    XE X (.Call (.Attribute a "append" apos) [e] [] pos) ρ M .non (M2.set k (q, .lst (ds ++ [d]))) :=
  XE.meth PySem.F.plainAttrs_list PySem.F.slot_list_append PySem.F.type_list_append mt_append ho ha (ty_own hk1) (fun G H v vs Q w r1 rs2 wq => by
    obtain ⟨u, rfl, r2⟩ := rs2.one
    obtain ⟨us, hv, rv⟩ := (w.at hk).2
    exact ⟨q, us, u, of_adr r1, rfl, hv, by rw [rv.length]; exact hl, wq.use (Ex.refl G) (w.set hk ⟨_, upd_same, rv.append (RepL.cons r2 RepL.nil)⟩) rep_non⟩) hbase hfew hline hs hplain
/-- p.extend(l), l a frozen list -/
theorem x_extend (k : Nat) (ho : XE X a ρ M (.adr q) M1) (ha : XA X [e] ρ M1 [.lst ds2] M2) (hk1 : M1[k]? = some (q, .lst ds1)) (hk : M2[k]? = some (q, .lst ds)) (hl : ds.length + ds2.length ≤ sizeLine)
    (hbase : attributeBase a "extend" X.env (eval a X.env) = eval a X.env := by exact base_of rfl)
    (hfew : ((backTo pos (starEach [e] X.env)).all (fun x => !x.1) && (backToKw pos (keywordEach [] X.env)).all (fun x => x.1.isSome)
      && decide ([e].length + ([] : List Keyword).length + (if ([] : List Keyword).isEmpty then 0 else 1) < 30)) = true := by exact fewargs rfl (by decide))
    (hline : (apos.endLine == pos.line) = true := by rfl) (hs : starEach [e] X.env = (false, eval e X.env) :: starEach [] X.env := by exact star_of rfl) (hplain : (backTo pos (starEach [] X.env)).any (·.1) = false := by exact nostars rfl) :
    XE X (.Call (.Attribute a "extend" apos) [e] [] pos) ρ M .non (M2.set k (q, .lst (ds ++ ds2))) :=
  XE.meth PySem.F.plainAttrs_list PySem.F.slot_list_extend PySem.F.type_list_extend mt_extend ho ha (ty_own hk1) (fun G H v vs Q w r1 rs2 wq => by
    obtain ⟨u, rfl, r2⟩ := rs2.one
    obtain ⟨us, hv, rv⟩ := (w.at hk).2
    obtain ⟨b, zs, rfl, hb, rz⟩ := of_lst r2
    exact ⟨q, b, us, zs, of_adr r1, rfl, hv, w.ex _ _ hb, by rw [rv.length, rz.length]; exact hl, wq.use (Ex.refl G) (w.set hk ⟨_, upd_same, rv.append rz⟩) rep_non⟩) hbase hfew hline hs hplain
/-- p.pop(i), p owned, 0 ≤ i -/
theorem x_popAt (k : Nat) {n : Nat} (ho : XE X a ρ M (.adr q) M1) (ha : XA X [e] ρ M1 [.int (n : Nat)] M2) (hk1 : M1[k]? = some (q, .lst ds1)) (hk : M2[k]? = some (q, .lst ds)) (hd : ds[n]? = some d)
    (hbase : attributeBase a "pop" X.env (eval a X.env) = eval a X.env := by exact base_of rfl)
    (hfew : ((backTo pos (starEach [e] X.env)).all (fun x => !x.1) && (backToKw pos (keywordEach [] X.env)).all (fun x => x.1.isSome)
      && decide ([e].length + ([] : List Keyword).length + (if ([] : List Keyword).isEmpty then 0 else 1) < 30)) = true := by exact fewargs rfl (by decide))
    (hline : (apos.endLine == pos.line) = true := by rfl) (hs : starEach [e] X.env = (false, eval e X.env) :: starEach [] X.env := by exact star_of rfl) (hplain : (backTo pos (starEach [] X.env)).any (·.1) = false := by exact nostars rfl) (hz : ds.length < 2 ^ 63) :
    XE X (.Call (.Attribute a "pop" apos) [e] [] pos) ρ M d (M2.set k (q, .lst (ds.eraseIdx n))) :=
  XE.meth PySem.F.plainAttrs_list PySem.F.slot_list_pop PySem.F.type_list_pop mt_popAt ho ha (ty_own hk1) (fun G H v vs Q w r1 rs2 wq => by
    obtain ⟨u, rfl, r2⟩ := rs2.one
    obtain ⟨us, hv, rv⟩ := (w.at hk).2
    obtain ⟨y, hy, ry⟩ := rv.get hd
    have hn : n < ds.length := (List.getElem?_eq_some_iff.mp hd).1
    refine ⟨q, us, n, n, y, of_adr r1, by rw [of_int r2], hv, by omega, by omega, (ixN_seq (n := us.length) (i := n) (j := n) ?_).1, hy, wq.use (Ex.refl G) (w.set hk ⟨_, upd_same, rv.eraseIdx n⟩) ry⟩
    unfold ixN
    rw [if_pos (by omega), if_pos (by rw [rv.length]; omega)]
    rfl) hbase hfew hline hs hplain
/-- p.pop() -/
theorem x_pop (k : Nat) (ho : XE X a ρ M (.adr q) M1) (hk : M1[k]? = some (q, .lst ds)) (hd : ds[ds.length - 1]? = some d) (hbase : attributeBase a "pop" X.env (eval a X.env) = eval a X.env := by exact base_of rfl) (hline : (apos.endLine == pos.line) = true := by rfl) :
    XE X (.Call (.Attribute a "pop" apos) [] [] pos) ρ M d (M1.set k (q, .lst ds.dropLast)) :=
  XE.meth0 PySem.F.plainAttrs_list PySem.F.slot_list_pop PySem.F.type_list_pop mt_pop ho (ty_own hk) (fun G H v Q w r1 wq => by
    obtain ⟨us, hv, rv⟩ := (w.at hk).2
    obtain ⟨y, hy, ry⟩ := rv.get hd
    refine ⟨q, us, y, of_adr r1, rfl, hv, by rw [rv.length]; exact hy, wq.use (Ex.refl G) (w.set hk ⟨_, upd_same, ?_⟩) ry⟩
    rw [List.dropLast_eq_take, List.dropLast_eq_take, rv.length]
    exact rv.take _) hbase hline
/-- sep.join(list or tuple of texts) -/
theorem x_join {s : Str} {ss : List Str} (ho : XE X a ρ M (.str s) M1) (ha : XA X [e] ρ M1 [d] M2) (hq : SeqD M2 d (ss.map D.str)) (hl : (ss.map (·.length)).sum + ss.length * s.length ≤ 16777216)
    (hbase : attributeBase a "join" X.env (eval a X.env) = eval a X.env := by exact base_of rfl)
    (hfew : ((backTo pos (starEach [e] X.env)).all (fun x => !x.1) && (backToKw pos (keywordEach [] X.env)).all (fun x => x.1.isSome)
      && decide ([e].length + ([] : List Keyword).length + (if ([] : List Keyword).isEmpty then 0 else 1) < 30)) = true := by exact fewargs rfl (by decide))
    (hline : (apos.endLine == pos.line) = true := by rfl) (hs : starEach [e] X.env = (false, eval e X.env) :: starEach [] X.env := by exact star_of rfl) (hplain : (backTo pos (starEach [] X.env)).any (·.1) = false := by exact nostars rfl) :
    XE X (.Call (.Attribute a "join" apos) [e] [] pos) ρ M (.str (Txt.join s ss)) M2 := by
  refine XE.meth PySem.F.plainAttrs_str PySem.F.slot_str_join PySem.F.type_str_join mt_join ho ha (ty_str) (fun G H v vs Q w r1 rs2 wq => ?_) hbase hfew hline hs hplain
  obtain ⟨u, rfl, r2⟩ := rs2.one
  obtain ⟨b, zs, rfl, hb, rz⟩ := hq.get w r2
  have := rz.strs; subst this
  exact ⟨s, b, ss, of_str r1, rfl, hb, hl, wq.use (Ex.refl G) w rep_str⟩
end
end Wk

/-! Wk: statements, loops, comprehensions, calls of defs. -/
namespace Wk
open PySem PySem.Spec PyProof.Rows L2 Evl

def SemS (X : Cx) (st : Stmt) : TS := fun Z σ H => ∀ (pins : List (Addr × Obj)) (s : Shared), Inv X pins σ H s → wpAny (model X.prog X.w) X.A (exec st X.env) (SP X pins Z) X.xe s
def SemSs (X : Cx) (sts : List Stmt) : TS := fun Z σ H => ∀ (pins : List (Addr × Obj)) (s : Shared), Inv X pins σ H s → wpAny (model X.prog X.w) X.A (execs sts X.env) (SP X pins Z) X.xe s
def SemG (X : Cx) (tg : Expr) : TG := fun v σ H Q => ∀ (pins : List (Addr × Obj)) (s : Shared) (u : Value), Inv X pins σ H s → RelV v u →
    wpAny (model X.prog X.w) X.A (assign tg X.env u) (fun _ s' => ∃ σ' H', Inv X pins σ' H' s' ∧ Q σ' H') X.xe s
def SemGs (X : Cx) (ts : List Expr) : TGs := fun vs σ H Q => ∀ (pins : List (Addr × Obj)) (s : Shared) (us : List Value), Inv X pins σ H s → Vals vs us →
    wpAny (model X.prog X.w) X.A (assignInOrder ((assignEach ts X.env).map (·.2)) us) (fun _ s' => ∃ σ' H', Inv X pins σ' H' s' ∧ Q σ' H') X.xe s
def SemI (X : Cx) (tg iter : Expr) : TI := fun σ H R => ∀ (pins : List (Addr × Obj)) (s : Shared), Inv X pins σ H s →
    wpAny (model X.prog X.w) X.A (eval iter X.env) (fun v s1 => wpAny (model X.prog X.w) X.A (pyIter v) (PIE X pins σ tg R) X.xe s1) X.xe s
def SemTs (X : Cx) (ifs : List Expr) : TT := fun σ H Q => ∀ (pins : List (Addr × Obj)) (s : Shared), Inv X pins σ H s →
    wpAny (model X.prog X.w) X.A (forIn ifs true fun c r => if r = true then do let ok ← isTrue c X.env (eval c X.env); pure (ForInStep.yield ok) else pure (ForInStep.yield r)) (TP X pins σ Q) X.xe s
section
variable {X : Cx} {st : Stmt} {sts : List Stmt} {tg iter : Expr} {ts ifs : List Expr} {σ : L2.St} {H : Hp} {Z : Ends}
theorem ps_sem : PS X st (SemS X st) := ⟨fun pins s _ _ _ I h => h pins s I⟩
theorem pss_sem : PSs X sts (SemSs X sts) := ⟨fun pins s _ _ _ I h => h pins s I⟩
theorem pg_sem : PG X tg (SemG X tg) := ⟨fun pins s _ _ _ u _ I r h => h pins s u I r⟩
theorem pgs_sem : PGs X ts (SemGs X ts) := ⟨fun pins s _ _ _ us _ I r h => h pins s us I r⟩
theorem pi_sem : PI X tg iter (SemI X tg iter) := ⟨fun pins s _ _ _ I h => h pins s I⟩
theorem pts_sem : PTs X ifs (SemTs X ifs) := ⟨fun pins s _ _ _ I h => h pins s I⟩
theorem SemS.of {t : TS} (h : PS X st t) (r : t Z σ H) : SemS X st Z σ H := fun pins s I => h.run pins s σ H Z I r
theorem SemSs.of {t : TS} (h : PSs X sts t) (r : t Z σ H) : SemSs X sts Z σ H := fun pins s I => h.run pins s σ H Z I r
theorem SemG.of {t : TG} {v : V} {Q : L2.St → Hp → Prop} (h : PG X tg t) (r : t v σ H Q) : SemG X tg v σ H Q := fun pins s u I rv => h.run pins s σ H v u Q I rv r
theorem SemGs.of {t : TGs} {vs : List V} {Q : L2.St → Hp → Prop} (h : PGs X ts t) (r : t vs σ H Q) : SemGs X ts vs σ H Q := fun pins s u I rv => h.run pins s σ H vs u Q I rv r
theorem SemI.of {t : TI} {R : It → Hp → Prop} (h : PI X tg iter t) (r : t σ H R) : SemI X tg iter σ H R := fun pins s I => h.run pins s σ H R I r
theorem SemTs.of {t : TT} {Q : Bool → Hp → Prop} (h : PTs X ifs t) (r : t σ H Q) : SemTs X ifs σ H Q := fun pins s I => h.run pins s σ H Q I r
end

/-- the data stand so -/
def At (K : PySem.W.Frag) (G0 : Hp) (ρ : Env) (M : Mem) : L2.St → Hp → Prop := fun σ H => ∃ G, Ex G0 G ∧ Sl K G ρ σ ∧ Wd K G M H
/-- statements, run from the data, do what Z wants -/
structure St (X : Cx) (sts : List Stmt) (Z : Ends) (G0 : Hp) (ρ : Env) (M : Mem) : Prop where
  go : ∀ σ H, At X.K G0 ρ M σ H → SemSs X sts Z σ H

section
variable {X : Cx} {st : Stmt} {rest body a b : List Stmt} {tg e c iter : Expr} {ρ ρ1 ρ2 : Env} {M M1 M2 M3 : Mem} {d : D} {ds its : List D} {pos pos' p2 : Pos} {Z : Ends} {G0 : Hp} {k : Bool} {o : MO}

theorem St.run {sts : List Stmt} (h : St X sts Z G0 ρ M) {G : Hp} {σ : L2.St} {H : Hp} (e : Ex G0 G) (sl : Sl X.K G ρ σ) (w : Wd X.K G M H) : SemSs X sts Z σ H := h.go σ H ⟨G, e, sl, w⟩
theorem St.mk' {sts : List Stmt} (h : ∀ G σ H, Ex G0 G → Sl X.K G ρ σ → Wd X.K G M H → SemSs X sts Z σ H) : St X sts Z G0 ρ M := .mk fun σ H ⟨G, e, sl, w⟩ => h G σ H e sl w
theorem cons_of {t : TS} (h1 : PS X st t) {σ : L2.St} {H : Hp} (r : t { Z with nx := SemSs X rest Z } σ H) : SemSs X (st :: rest) Z σ H := SemSs.of (pss_cons h1 pss_sem) r

/-- the block's end -/
theorem st_end (h : ∀ σ H, At X.K G0 ρ M σ H → Z.nx σ H) : St X [] Z G0 ρ M := .mk fun σ H a => SemSs.of pss_nil (h σ H a)
/-- names are forgotten -/
theorem At.weak {K : PySem.W.Frag} {σ : L2.St} {H : Hp} (h : At K G0 ρ M σ H) (ρ' : Env) (hl : ρ'.length = ρ.length) (w : ∀ (i : Nat) d, ρ'[i]? = some (some d) → ρ[i]? = some (some d)) : At K G0 ρ' M σ H :=
  let ⟨G, e, sl, wd⟩ := h; ⟨G, e, sl.weak hl w, wd⟩
theorem At.drop {K : PySem.W.Frag} {σ : L2.St} {H : Hp} (h : At K G0 ρ M σ H) (M' : Mem) (hs : M'.Sublist M) : At K G0 ρ M' σ H :=
  let ⟨G, e, sl, wd⟩ := h; ⟨G, e, sl, wd.sub hs⟩
theorem At.perm {K : PySem.W.Frag} {σ : L2.St} {H : Hp} (h : At K G0 ρ M σ H) (M' : Mem) (hs : M'.Perm M) : At K G0 ρ M' σ H :=
  let ⟨G, e, sl, wd⟩ := h; ⟨G, e, sl, wd.perm hs⟩
theorem St.pre {sts : List Stmt} (h : St X sts Z G0 ρ1 M1) (f : ∀ σ H, At X.K G0 ρ M σ H → At X.K G0 ρ1 M1 σ H) : St X sts Z G0 ρ M := .mk fun σ H a => h.go σ H (f σ H a)
/-- an owned list is frozen: at place k, held by name i -/
theorem st_frz {sts : List Stmt} {q : Addr} (i k : Nat) (hi : ρ[i]? = some (some (.adr q))) (hk : M[k]? = some (q, .lst ds)) (h : St X sts Z G0 (ρ.set i (some (.lst ds))) (M.eraseIdx k)) : St X sts Z G0 ρ M := .mk fun σ H ⟨G, e, sl, w⟩ => by
  obtain ⟨vs, hv, r⟩ := (w.at hk).2
  have e2 := w.exFreeze (o := .lst vs) hk
  obtain ⟨v, hv2, rv⟩ := sl.get i _ hi
  have sl2 := (sl.mono e2).set i (d := .lst ds) (v := v) (by rw [of_adr rv]; exact rep_lst upd_same (r.mono e2 _))
  have : σ.set i (some v) = σ := by
    refine List.ext_getElem? fun j => ?_
    by_cases hj : i = j
    · subst hj
      rw [List.getElem?_set_self (List.getElem?_eq_some_iff.mp hv2).1, hv2]
    · rw [List.getElem?_set_ne hj]
  rw [this] at sl2
  exact h.go σ H ⟨_, e.trans e2, sl2, w.freeze hk hv⟩

/-! statements -/
theorem st_asg {x : Str} (i : Nat) (he : XE X e ρ M d M1) (k : St X rest Z G0 (ρ.set i (some d)) M1) (hN : X.N.Nodup) (hi : X.N[i]? = some x := by rfl) (hx : Loc X.env.scope x := by first | exact Or.inl rfl | exact Or.inr rfl)
    (hs : swapsWith e (some (.Name x pos')) pos.line X.env = pure false := by first | exact sw_of rfl | rfl) (hf : X.fn x = true ∨ X.env.scope.names.lookup x = some .local := by first | exact .inl rfl | exact .inr rfl) :
    St X (.Assign [.Name x pos'] e pos :: rest) Z G0 ρ M := St.mk' fun G σ H e0 sl w =>
  cons_of (ps_set hN hi hx pe_sem hs hf) (he.run G σ H _ sl w fun v G' H' e' w' r' => k.run (e0.trans e') ((sl.mono e').set i r') w')
theorem st_new {x : Str} (i : Nat) (he : XN X e ρ M o M1) (k : ∀ q, St X rest Z G0 (ρ.set i (some (.adr q))) ((q, o) :: M1)) (hN : X.N.Nodup) (hi : X.N[i]? = some x := by rfl) (hx : Loc X.env.scope x := by first | exact Or.inl rfl | exact Or.inr rfl)
    (hs : swapsWith e (some (.Name x pos')) pos.line X.env = pure false := by first | exact sw_of rfl | rfl) (hf : X.fn x = true ∨ X.env.scope.names.lookup x = some .local := by first | exact .inl rfl | exact .inr rfl) :
    St X (.Assign [.Name x pos'] e pos :: rest) Z G0 ρ M := St.mk' fun G σ H e0 sl w =>
  cons_of (ps_set hN hi hx pe_sem hs hf) (he.run G σ H _ sl w fun q G' H' e' w' => (k q).run (e0.trans e') ((sl.mono e').set i rep_adr) w')
theorem st_expr (he : XE X e ρ M d M1) (k : St X rest Z G0 ρ M1) (hs : swapsWith e none pos.line X.env = pure false := by exact sw_of rfl) : St X (.Expr e pos :: rest) Z G0 ρ M := St.mk' fun G σ H e0 sl w =>
  cons_of (ps_expr pe_sem hs) (he.run G σ H _ sl w fun v G' H' e' w' _ => k.run (e0.trans e') (sl.mono e') w')
theorem st_ret (he : XE X e ρ M d M1) (h : ∀ v G H, Ex G0 G → Wd X.K G M1 H → Rep X.K G d v → Z.rt v H) : St X (.Return (some e) pos :: rest) Z G0 ρ M := St.mk' fun G σ H e0 sl w =>
  cons_of (ps_ret pe_sem) (he.run G σ H _ sl w fun v G' H' e' w' r' => h v G' H' (e0.trans e') w' r')
theorem st_retN (h : ∀ G H, Ex G0 G → Wd X.K G M H → Z.rt .non H) : St X (.Return none pos :: rest) Z G0 ρ M := St.mk' fun G σ H e0 sl w =>
  cons_of ps_retN (h G H e0 w)
/-- both ways go on by themselves -/
theorem st_if (hc : XT X c ρ M k M1) (h1 : k = true → St X a { Z with nx := SemSs X rest Z } G0 ρ M1) (h2 : k = false → St X b { Z with nx := SemSs X rest Z } G0 ρ M1) : St X (.If c a b pos :: rest) Z G0 ρ M := St.mk' fun G σ H e0 sl w =>
  cons_of (ps_if pt_sem pss_sem pss_sem) (hc.run G σ H _ sl w fun G' H' e' w' => by
    cases k with
    | true => rw [if_pos rfl]; exact (h1 rfl).run (e0.trans e') (sl.mono e') w'
    | false => rw [if_neg Bool.false_ne_true]; exact (h2 rfl).run (e0.trans e') (sl.mono e') w')
/-- the end of a branch: the rest -/
theorem st_go (k : St X rest Z G0 ρ M) : St X [] { Z with nx := SemSs X rest Z } G0 ρ M := st_end fun σ H a => k.go σ H a
theorem st_break (h : ∀ σ H, At X.K G0 ρ M σ H → Z.bk σ H) : St X (.Break pos :: rest) Z G0 ρ M := .mk fun σ H a => cons_of ps_break (h σ H a)
theorem st_cont (h : ∀ σ H, At X.K G0 ρ M σ H → Z.ct σ H) : St X (.Continue pos :: rest) Z G0 ρ M := .mk fun σ H a => cons_of ps_continue (h σ H a)
theorem st_pass (k : St X rest Z G0 ρ M) : St X (.Pass pos :: rest) Z G0 ρ M := .mk fun σ H a => cons_of ps_pass (k.go σ H a)

/-! targets -/
structure XG (X : Cx) (tg : Expr) (d : D) (is : List Nat) (ρ ρ' : Env) : Prop where
  run : ∀ (G : Hp) (v : V) (σ : L2.St) (H : Hp) (Q : L2.St → Hp → Prop), Sl X.K G ρ σ → Ex G H → Rep X.K G d v →
  (∀ σ', Sl X.K G ρ' σ' → (∀ vs, (∀ i ∈ is, i ∈ vs) → wipe σ' vs = wipe σ vs) → Q σ' H) → SemG X tg v σ H Q
structure XGs (X : Cx) (ts : List Expr) (ds : List D) (is : List Nat) (ρ ρ' : Env) : Prop where
  run : ∀ (G : Hp) (vs : List V) (σ : L2.St) (H : Hp) (Q : L2.St → Hp → Prop), Sl X.K G ρ σ → Ex G H → RepL X.K G ds vs →
  (∀ σ', Sl X.K G ρ' σ' → (∀ vs, (∀ i ∈ is, i ∈ vs) → wipe σ' vs = wipe σ vs) → Q σ' H) → SemGs X ts vs σ H Q
theorem wipe_in {i : Nat} : ∀ {vs : List Nat} {σ : L2.St}, i ∈ vs → i < σ.length → (wipe σ vs)[i]? = some none
  | [], _, h, _ => by simp at h
  | j :: vs, σ, h, hl => by
    unfold wipe
    by_cases hj : j = i
    · subst hj; rw [List.getElem?_set_self (by rw [wipe_length]; exact hl)]
    · rw [List.getElem?_set_ne hj]
      rcases List.mem_cons.mp h with e | e
      · exact absurd e.symm hj
      · exact wipe_in e hl
theorem wipe_set {σ : L2.St} {i : Nat} {v : Option V} {vs : List Nat} (h : i ∈ vs) : wipe (σ.set i v) vs = wipe σ vs := by
  refine List.ext_getElem? fun m => ?_
  by_cases hl : m < σ.length
  · by_cases hm : m ∈ vs
    · rw [wipe_in hm (by rw [List.length_set]; exact hl), wipe_in hm hl]
    · rw [wipe_out hm, wipe_out hm, List.getElem?_set_ne (fun e => hm (by rw [← e]; exact h))]
  · rw [List.getElem?_eq_none (by rw [wipe_length, List.length_set]; omega), List.getElem?_eq_none (by rw [wipe_length]; omega)]
theorem g_name {x : Str} (i : Nat) (hN : X.N.Nodup) (hi : X.N[i]? = some x := by rfl) (hx : Loc X.env.scope x := by first | exact Or.inl rfl | exact Or.inr rfl) (hf : X.fn x = true ∨ X.env.scope.names.lookup x = some .local := by first | exact .inl rfl | exact .inr rfl) :
    XG X (.Name x pos) d [i] ρ (ρ.set i (some d)) := .mk fun G v σ H Q sl ex r q => SemG.of (pg_name hN hi hx hf) (q _ (sl.set i r) fun vs hv => wipe_set (hv i List.mem_cons_self))
theorem gs_nil : XGs X [] [] [] ρ ρ := .mk fun G vs σ H Q sl ex r q => SemGs.of pgs_nil ⟨by unfold RepL at r; exact r, q σ sl fun _ _ => rfl⟩
theorem gs_cons {es : List Expr} {is is2 : List Nat} (h1 : XG X e d is ρ ρ1) (h2 : XGs X es ds is2 ρ1 ρ2) (hs : (assignEach (e :: es) X.env).map (·.2) = assign e X.env :: (assignEach es X.env).map (·.2) := by exact asg_of rfl) : XGs X (e :: es) (d :: ds) (is ++ is2) ρ ρ2 := .mk fun G vs σ H Q sl ex r q => by
  unfold RepL at r
  obtain ⟨v, rr, rfl, r1, r2⟩ := r
  exact SemGs.of (pgs_cons pg_sem pgs_sem hs) ⟨v, rr, rfl, h1.run G v σ H _ sl ex r1 fun σ' sl' hw => h2.run G rr σ' H _ sl' ex r2 fun σ2 sl2 hw2 => q σ2 sl2 fun vs hv =>
    (hw2 vs fun i hi => hv i (List.mem_append_right _ hi)).trans (hw vs fun i hi => hv i (List.mem_append_left _ hi))⟩
theorem g_tup {es : List Expr} {k n : Nat} {is : List Nat} (hc : X.calm = true) (h : XGs X es ds is ρ ρ1) (hl : ds.length = n := by rfl) (hn : (assignEach es X.env).length = n := by exact asg_len) (hst : (assignEach es X.env).findIdx? (·.1) = none := by exact asg_none rfl) :
    XG X (.Tuple es k pos) (.tup ds) is ρ ρ1 := .mk fun G v σ H Q sl ex r q => by
  obtain ⟨a, vs, rfl, hv, rv⟩ := of_tup r
  exact SemG.of (pg_tup hc pgs_sem hn hst) ⟨a, vs, rfl, (hv.mono ex).sq, rv.length.trans hl, h.run G vs σ H Q sl ex rv q⟩
/-- target = e -/
theorem st_asgG {is : List Nat} (he : XE X e ρ M d M1) (hg : XG X tg d is ρ ρ1) (k : St X rest Z G0 ρ1 M1) (hs : swapsWithSole [tg] e pos.line X.env = pure false := by exact sws_of rfl) (hw : swappedStores [tg] e X.env = pure none := by first | exact sst_of1 rfl rfl | exact sst_of rfl | rfl)
    (h1 : (assignEach [tg] X.env).map (·.2) = [assign tg X.env] := by exact asg_one rfl) : St X (.Assign [tg] e pos :: rest) Z G0 ρ M := St.mk' fun G σ H e0 sl w =>
  cons_of (ps_asg pe_sem pg_sem hs hw h1) (he.run G σ H _ sl w fun v G' H' e' w' r' => hg.run G' v σ H' _ (sl.mono e') w'.ex r' fun σ' sl' _ => k.run (e0.trans e') sl' w')
/-- o[i] = v, o owned at place k -/
theorem st_setL {q : Addr} {i : Int} {j : Nat} {oe ie : Expr} {p2 : Pos} (kk : Nat) (he : XE X e ρ M d M1) (ho : XE X oe ρ M1 (.adr q) M2) (hi : XE X ie ρ M2 (.int i) M3) (hk : M3[kk]? = some (q, .lst ds)) (hj : L2.ixN ds.length i = some j)
    (k : St X rest Z G0 ρ (M3.set kk (q, .lst (ds.set j d)))) (hs : swapsWithSole [.Subscript oe ie p2] e pos.line X.env = pure false := by exact sws_of rfl) (hw : swappedStores [.Subscript oe ie p2] e X.env = pure none := by first | exact sst_of1 rfl rfl | exact sst_of rfl | rfl)
    (h1 : (assignEach [.Subscript oe ie p2] X.env).map (·.2) = [assign (.Subscript oe ie p2) X.env] := by exact asg_one rfl)
    (ha : ∀ v, assign (.Subscript oe ie p2) X.env v = (do
      let ov ← holding [v] (eval oe X.env)
      let iv ← holding [v, ov] (eval ie X.env)
      standAt p2
      holding [v, ov, iv] (setItem ov iv v)
      release [v, ov, iv] []) := by exact asg_sub rfl) : St X (.Assign [.Subscript oe ie p2] e pos :: rest) Z G0 ρ M := St.mk' fun G σ H e0 sl w =>
  cons_of (ps_asg pe_sem (pg_sub pe_sem pe_sem set_list ha) hs hw h1) (he.run G σ H _ sl w fun v G1 H1 e1 w1 r1 => ho.run G1 σ H1 _ (sl.mono e1) w1 fun ov G2 H2 e2 w2 r2 => hi.run G2 σ H2 _ (sl.mono (e1.trans e2)) w2 fun iv G3 H3 e3 w3 r3 => by
    obtain ⟨vs, hv, rv⟩ := (w3.at hk).2
    exact ⟨q, vs, i, j, of_adr r2, of_int r3, hv, by rw [rv.length]; exact hj, k.run (((e0.trans e1).trans e2).trans e3) (sl.mono ((e1.trans e2).trans e3)) (w3.set hk ⟨_, upd_same, RepL.set (r1.mono (e2.trans e3)) j rv⟩)⟩)

/-! what is walked -/
structure IterOk (K : PySem.W.Frag) (G : Hp) (J : It) (its : List D) : Prop where
  go : ∀ i G' M' H', Ex G G' → Wd K G' M' H' → i < its.length → J.go i H'
  yld : ∀ i G' M' H' x H'', Ex G G' → Wd K G' M' H' → J.yld i H' x H'' → ∀ d, its[i]? = some d → ∃ G'', Ex G' G'' ∧ Wd K G'' M' H'' ∧ Rep K G'' d x
  stop : ∀ G' M' H', Ex G G' → Wd K G' M' H' → J.stop its.length H'
structure XI (X : Cx) (tg iter : Expr) (ρ : Env) (M : Mem) (its : List D) (M' : Mem) : Prop where
  run : ∀ (G : Hp) (σ : L2.St) (H : Hp) (R : It → Hp → Prop), Sl X.K G ρ σ → Wd X.K G M H → (∀ J G' H', Ex G G' → Wd X.K G' M' H' → IterOk X.K G' J its → R J H') → SemI X tg iter σ H R
theorem i_lst (h : XE X iter ρ M (.lst ds) M1) : XI X tg iter ρ M ds M1 := .mk fun G σ H R sl w q =>
  SemI.of (pi_list pe_sem) (h.run G σ H _ sl w fun v G' H' e' w' r' => by
    obtain ⟨a, vs, rfl, hv, rv⟩ := of_lst r'
    refine ⟨a, rfl, ⟨vs, SqL.of (w'.ex _ _ hv)⟩, q _ G' H' e' w' ⟨fun i G2 M2 H2 e2 w2 hi => ?_, fun i G2 M2 H2 x H3 e2 w2 y d hd => ?_, fun G2 M2 H2 e2 w2 => ?_⟩⟩
    · obtain ⟨x, hx, _⟩ := rv.get (List.getElem?_eq_getElem hi)
      exact ⟨vs, x, SqL.of (w2.ex _ _ (e2 _ _ hv)), hx⟩
    · obtain ⟨rfl, y⟩ := y
      obtain ⟨z, hz, rz⟩ := rv.get hd
      have := y vs (SqL.of (w2.ex _ _ (e2 _ _ hv)))
      rw [hz] at this; cases this
      exact ⟨G2, Ex.refl G2, w2, rz.mono e2⟩
    · exact ⟨vs, SqL.of (w2.ex _ _ (e2 _ _ hv)), Nat.le_of_eq rv.length⟩)
theorem i_rlst (h : XE X iter ρ M (.rlst ds) M1) : XI X tg iter ρ M ds M1 := .mk fun G σ H R sl w q =>
  SemI.of (pi_list pe_sem) (h.run G σ H _ sl w fun v G' H' e' w' r' => by
    obtain ⟨a, vs, rfl, hv, rv⟩ := of_rlst r'
    refine ⟨a, rfl, ⟨vs, ex_l w'.ex hv⟩, q _ G' H' e' w' ⟨fun i G2 M2 H2 e2 w2 hi => ?_, fun i G2 M2 H2 x H3 e2 w2 y d hd => ?_, fun G2 M2 H2 e2 w2 => ?_⟩⟩
    · obtain ⟨x, hx, _⟩ := rv.get (List.getElem?_eq_getElem hi)
      exact ⟨vs, x, ex_l w2.ex (ex_l e2 hv), hx⟩
    · obtain ⟨rfl, y⟩ := y
      obtain ⟨z, hz, rz⟩ := rv.get hd
      have := y vs (ex_l w2.ex (ex_l e2 hv))
      rw [hz] at this; cases this
      exact ⟨G2, Ex.refl G2, w2, rz.mono e2⟩
    · exact ⟨vs, ex_l w2.ex (ex_l e2 hv), Nat.le_of_eq rv.length⟩)
theorem i_tup (h : XE X iter ρ M (.tup ds) M1) : XI X tg iter ρ M ds M1 := .mk fun G σ H R sl w q =>
  SemI.of (pi_tup pe_sem) (h.run G σ H _ sl w fun v G' H' e' w' r' => by
    obtain ⟨a, vs, rfl, hv, rv⟩ := of_tup r'
    refine ⟨a, rfl, ⟨vs, (hv.mono w'.ex).sq⟩, q _ G' H' e' w' ⟨fun i G2 M2 H2 e2 w2 hi => ?_, fun i G2 M2 H2 x H3 e2 w2 y d hd => ?_, fun G2 M2 H2 e2 w2 => ?_⟩⟩
    · obtain ⟨x, hx, _⟩ := rv.get (List.getElem?_eq_getElem hi)
      exact ⟨vs, x, ((hv.mono e2).mono w2.ex).sq, hx⟩
    · obtain ⟨rfl, y⟩ := y
      obtain ⟨z, hz, rz⟩ := rv.get hd
      have := y vs ((hv.mono e2).mono w2.ex).sq
      rw [hz] at this; cases this
      exact ⟨G2, Ex.refl G2, w2, rz.mono e2⟩
    · exact ⟨vs, ((hv.mono e2).mono w2.ex).sq, Nat.le_of_eq rv.length⟩)
theorem iterOk_rng {K : PySem.W.Frag} {G : Hp} {lo : Int} {n : Nat} : IterOk K G (Itr lo n) ((List.range n).map fun k => D.int (lo + (k : Nat))) where
  go := fun i G2 M2 H2 e2 w2 hi => by rw [List.length_map, List.length_range] at hi; exact hi
  yld := fun i G2 M2 H2 x H3 e2 w2 y d hd => by
    obtain ⟨rfl, rfl⟩ := y
    rw [List.getElem?_map] at hd
    by_cases hi : i < n
    · rw [List.getElem?_range hi] at hd
      cases hd
      exact ⟨G2, Ex.refl G2, w2, rep_int⟩
    · rw [List.getElem?_eq_none (by rw [List.length_range]; omega)] at hd
      cases hd
  stop := fun G2 M2 H2 e2 w2 => by
    show n ≤ _
    rw [List.length_map, List.length_range]
    exact Nat.le_refl _
theorem rgI_map {lo hi : Int} : (rgI lo hi).map D.int = (List.range (hi - lo).toNat).map fun k => D.int (lo + (k : Nat)) := by unfold rgI; rw [List.map_map]; rfl
theorem i_rng1 {a : Expr} {j : Int} {p : Pos} (ha : XA X [a] ρ M [.int j] M1) (h1 : -(2 ^ 62) ≤ j) (h2 : j < 2 ^ 62) (hm : X.mg "range" = none) (hg : Gl X "range" := by rfl) (hs : starEach [a] X.env = [(false, eval a X.env)] := by exact star_one rfl) :
    XI X tg (.Call (.Name "range" p) [a] [] pos) ρ M ((rgI 0 j).map D.int) M1 := .mk fun G σ H R sl w q =>
  SemI.of (pi_range1 hg hm pa_sem hs) (ha.run G σ H _ sl w fun vs G' H' e' w' r' => by
    obtain ⟨v, rfl, r⟩ := r'.one
    refine ⟨j, by rw [of_int r], h1, h2, q _ G' H' e' w' ?_⟩
    have := iterOk_rng (K := X.K) (G := G') (lo := 0) (n := j.toNat)
    rw [rgI_map, Int.sub_zero]
    exact this)
theorem i_rng2 {a b : Expr} {i j : Int} {p : Pos} (ha : XA X [a, b] ρ M [.int i, .int j] M1) (h1 : -(2 ^ 62) ≤ i ∧ i < 2 ^ 62 ∧ -(2 ^ 62) ≤ j ∧ j < 2 ^ 62) (hm : X.mg "range" = none) (hg : Gl X "range" := by rfl) (hs : starEach [a, b] X.env = [(false, eval a X.env), (false, eval b X.env)] := by exact star_two rfl rfl) (hs2 : starEach [b] X.env = [(false, eval b X.env)] := by exact star_one rfl) :
    XI X tg (.Call (.Name "range" p) [a, b] [] pos) ρ M ((rgI i j).map D.int) M1 := .mk fun G σ H R sl w q =>
  SemI.of (pi_range2 hg hm pa_sem hs hs2) (ha.run G σ H _ sl w fun vs G' H' e' w' r' => by
    obtain ⟨v, u, rfl, r1, r2⟩ := r'.two
    refine ⟨i, j, by rw [of_int r1, of_int r2], h1, q _ G' H' e' w' ?_⟩
    rw [rgI_map]
    exact iterOk_rng)

/-! for -/
/-- the invariant's next, as a block's end -/
def Nxt (K : PySem.W.Frag) (G0 : Hp) (Iv : Env → Mem → Prop) : L2.St → Hp → Prop := fun σ H => ∃ ρ M, Iv ρ M ∧ At K G0 ρ M σ H
theorem At.base {K : PySem.W.Frag} {G1 : Hp} {σ : L2.St} {H : Hp} (e : Ex G0 G1) (h : At K G1 ρ M σ H) : At K G0 ρ M σ H := let ⟨G, a, b, c⟩ := h; ⟨G, e.trans a, b, c⟩
theorem st_for (hp : PassesOwn (model X.prog X.w) X.A X.env X.xe) (hc : X.calm = true) (hi : XI X tg iter ρ M its M1) (Iv : Nat → Env → Mem → Prop) (h0 : Iv 0 ρ M1)
    (turn : ∀ G1, Ex G0 G1 → ∀ i d ρ' M', its[i]? = some d → Iv i ρ' M' → ∃ is ρ2, XG X tg d is ρ' ρ2 ∧ St X body { Z with nx := Nxt X.K G1 (Iv (i + 1)), ct := Nxt X.K G1 (Iv (i + 1)), bk := SemSs X rest Z } G1 ρ2 M')
    (done : ∀ ρ' M', Iv its.length ρ' M' → St X rest Z G0 ρ' M') (hs : ∀ x, foldedSetIterable iter X.env x = pure x := by exact fs_of rfl) : St X (.For tg iter body [] pos :: rest) Z G0 ρ M := St.mk' fun G σ H e0 sl w =>
  cons_of (ps_for hp hc pi_sem pg_sem pss_sem hs) (hi.run G σ H _ sl w fun J G1 H1 e1 w1 ok => by
    refine ⟨fun i m σ H => m = its.length - i ∧ i ≤ its.length ∧ Nxt X.K G1 (Iv i) σ H, ⟨its.length, by simp, Nat.zero_le _, ρ, M1, h0, G1, Ex.refl G1, sl.mono e1, w1⟩, ?_⟩
    rintro i m σ2 H2 ⟨rfl, hle, ρ3, M3, hI, G2, e2, sl2, w2⟩
    by_cases hlt : i < its.length
    · refine .inr ⟨ok.go i G2 M3 H2 e2 w2 hlt, Nxt X.K G1 (Iv (i + 1)), fun σ' H' h' => ⟨its.length - (i + 1), by omega, rfl, hlt, h'⟩, fun x H' y => ?_⟩
      obtain ⟨G3, e3, w3, r3⟩ := ok.yld i G2 M3 H2 x H' e2 w2 y _ (List.getElem?_eq_getElem hlt)
      obtain ⟨is, ρ4, hg, hb⟩ := turn G1 (e0.trans e1) i _ ρ3 M3 (List.getElem?_eq_getElem hlt) hI
      exact hg.run G3 x σ2 H' _ (sl2.mono e3) w3.ex r3 fun σ' sl' _ => hb.run (e2.trans e3) sl' w3
    · have hi' : i = its.length := by omega
      subst hi'
      exact .inl ⟨ok.stop G2 M3 H2 e2 w2, (done ρ3 M3 hI).run ((e0.trans e1).trans e2) sl2 w2⟩)
/-! while -/
theorem st_while (hp : PassesOwn (model X.prog X.w) X.A X.env X.xe) (Iv : Nat → Env → Mem → Prop) (n0 : Nat) (h0 : Iv n0 ρ M)
    (turn : ∀ n ρ' M', Iv n ρ' M' → ∃ kk M2, XT X c ρ' M' kk M2 ∧ (kk = true → St X body { Z with nx := Nxt X.K G0 (fun ρ M => ∃ m, m < n ∧ Iv m ρ M), ct := Nxt X.K G0 (fun ρ M => ∃ m, m < n ∧ Iv m ρ M), bk := SemSs X rest Z } G0 ρ' M2) ∧ (kk = false → St X rest Z G0 ρ' M2)) :
    St X (.While c body [] pos :: rest) Z G0 ρ M := St.mk' fun G σ H e0 sl w =>
  cons_of (ps_while hp pt_sem pss_sem) (by
    refine ⟨fun n σ H => Nxt X.K G0 (Iv n) σ H, ⟨n0, ρ, M, h0, G, e0, sl, w⟩, ?_⟩
    rintro n σ2 H2 ⟨ρ3, M3, hI, G2, e2, sl2, w2⟩
    obtain ⟨kk, M4, ht, h1, h2⟩ := turn n ρ3 M3 hI
    refine ht.run G2 σ2 H2 _ sl2 w2 fun G3 H3 e3 w3 => ?_
    cases kk with
    | true =>
      rw [if_pos rfl]
      refine ⟨Nxt X.K G0 (fun ρ M => ∃ m, m < n ∧ Iv m ρ M), fun σ' H' h' => ?_, (h1 rfl).run (e2.trans e3) (sl2.mono e3) w3⟩
      obtain ⟨ρ5, M5, ⟨m, hm, hI5⟩, a⟩ := h'
      exact ⟨m, hm, ρ5, M5, hI5, a⟩
    | false =>
      rw [if_neg Bool.false_ne_true]
      exact (h2 rfl).run (e2.trans e3) (sl2.mono e3) w3)

/-! list comprehensions -/
theorem wipe_idem {σ : L2.St} {vs : List Nat} : wipe (wipe σ vs) vs = wipe σ vs := by
  refine List.ext_getElem? fun m => ?_
  by_cases hl : m < σ.length
  · by_cases hm : m ∈ vs
    · rw [wipe_in hm (by rw [wipe_length]; exact hl), wipe_in hm hl]
    · rw [wipe_out hm]
  · rw [List.getElem?_eq_none (by rw [wipe_length, wipe_length]; omega), List.getElem?_eq_none (by rw [wipe_length]; omega)]
def wipeD (ρ : Env) : List Nat → Env
  | [] => ρ
  | v :: vs => (wipeD ρ vs).set v none
theorem sl_wipe {K : PySem.W.Frag} {G : Hp} {σ : L2.St} (h : Sl K G ρ σ) : ∀ vs, Sl K G (wipeD ρ vs) (wipe σ vs)
  | [] => h
  | v :: vs => by
    have ih := sl_wipe h vs
    unfold wipe wipeD
    refine ⟨by rw [List.length_set, List.length_set, ih.len], fun i d e => ?_⟩
    by_cases hi : v = i
    · subst hi
      by_cases hl : v < (wipeD ρ vs).length
      · rw [List.getElem?_set_self hl] at e; cases e
      · rw [List.getElem?_eq_none (by rw [List.length_set]; omega)] at e; cases e
    · rw [List.getElem?_set_ne hi] at e ⊢
      exact ih.get i d e
structure XTs (X : Cx) (ifs : List Expr) (ρ : Env) (M : Mem) (c : Bool) (M' : Mem) : Prop where
  run : ∀ (G : Hp) (σ : L2.St) (H : Hp) (Q : Bool → Hp → Prop), Sl X.K G ρ σ → Wd X.K G M H → (∀ G' H', Ex G G' → Wd X.K G' M' H' → Q c H') → SemTs X ifs σ H Q
theorem ts_nil : XTs X [] ρ M true M := .mk fun G σ H Q sl w q => SemTs.of pts_nil (q G H (Ex.refl G) w)
theorem ts_one {k : Bool} (h : XT X c ρ M k M1) : XTs X [c] ρ M k M1 := .mk fun G σ H Q sl w q => SemTs.of (pts_one pt_sem) (h.run G σ H Q sl w q)
/-- .. in any block of this comprehension -/
def SemBG (X : Cx) (scope : Scope) (tg : Expr) : TG := fun v σ H Q => ∀ (s : Shared) (H0 : Hp) (C : Addr) (cl : List (Str × Addr)) (fp : List Addr), SemG (X.blk s H0 scope (compEnvC scope cl C X.env) fp) tg v σ H Q
def SemBT (X : Cx) (scope : Scope) (ifs : List Expr) : TT := fun σ H Q => ∀ (s : Shared) (H0 : Hp) (C : Addr) (cl : List (Str × Addr)) (fp : List Addr), SemTs (X.blk s H0 scope (compEnvC scope cl C X.env) fp) ifs σ H Q
def SemBE (X : Cx) (scope : Scope) (e : Expr) : TE := fun σ H Q => ∀ (s : Shared) (H0 : Hp) (C : Addr) (cl : List (Str × Addr)) (fp : List Addr), Sem (X.blk s H0 scope (compEnvC scope cl C X.env) fp) e σ H Q
/-- what holds in any block of this comprehension -/
def InB (X : Cx) (scope : Scope) (P : Cx → Prop) : Prop := ∀ (s : Shared) (H0 : Hp) (C : Addr) (cl : List (Str × Addr)) (fp : List Addr), P (X.blk s H0 scope (compEnvC scope cl C X.env) fp)
/-- a comprehension's loop: a new list of ds -/
structure XL (X : Cx) (elt tg iter : Expr) (ifs : List Expr) (scope : Scope) (own : List (Str × Nat)) (ρ : Env) (M : Mem) (ds : List D) (M' : Mem) : Prop where
  run : ∀ (G : Hp) (σ : L2.St) (H : Hp) (Q : VK), Sl X.K G ρ σ → Wd X.K G M H → (∀ p G' H', Ex G G' → Wd X.K G' ((p, .lst ds) :: M') H' → Q (.ref p) H') →
    tLc (SemI X tg iter) (SemBG X scope tg) (SemBT X scope ifs) (SemBE X scope elt) (own.map (·.2)) σ H Q
/-- [elt for tg in iter if ..]: Iv i acc M: behind i items the list so far, and what is owned -/
theorem l_any {elt : Expr} {ifs : List Expr} {scope : Scope} (own : List (Str × Nat)) (hi : XI X tg iter ρ M its M1) (Iv : Nat → List D → Mem → Prop) (h0 : Iv 0 [] M1)
    (turn : ∀ i d acc M', its[i]? = some d → Iv i acc M' →
      ∃ ρ2 b M2, InB X scope (fun Y => XG Y tg d (own.map (·.2)) (wipeD ρ (own.map (·.2))) ρ2) ∧ InB X scope (fun Y => ∀ q, XTs Y ifs ρ2 ((q, .lst acc) :: M') b ((q, .lst acc) :: M2)) ∧
        (b = true → ∃ e M3, InB X scope (fun Y => ∀ q, XE Y elt ρ2 ((q, .lst acc) :: M2) e ((q, .lst acc) :: M3)) ∧ acc.length < sizeLine ∧ Iv (i + 1) (acc ++ [e]) M3) ∧
        (b = false → Iv (i + 1) acc M2))
    {acc' : List D} {M' : Mem} (done : ∀ acc M2, Iv its.length acc M2 → acc = acc' ∧ M2 = M') : XL X elt tg iter ifs scope own ρ M acc' M' := .mk fun G σ H Q sl w q =>
  (hi.run G σ H _ sl w fun J G1 H1 e1 w1 iok => by
    intro L hL
    refine ⟨fun i m H => m = its.length - i ∧ i ≤ its.length ∧ ∃ acc M2 G2, Iv i acc M2 ∧ Ex G1 G2 ∧ Wd X.K G2 ((L, .lst acc) :: M2) H, ⟨its.length, by simp, Nat.zero_le _, [], M1, G1, h0, Ex.refl G1, wd_newL w1 hL RepL.nil⟩, ?_⟩
    rintro i m H2 ⟨rfl, hle, acc, M2, G2, hI, e2, w2⟩
    by_cases hlt : i < its.length
    · refine .inr ⟨iok.go i G2 _ H2 e2 w2 hlt, fun H => ∃ acc M2 G2, Iv (i + 1) acc M2 ∧ Ex G1 G2 ∧ Wd X.K G2 ((L, .lst acc) :: M2) H, fun H' h' => ⟨its.length - (i + 1), by omega, rfl, hlt, h'⟩, fun x H' y => ?_⟩
      obtain ⟨G3, e3, w3, r3⟩ := iok.yld i G2 _ H2 x H' e2 w2 y _ (List.getElem?_eq_getElem hlt)
      obtain ⟨ρ2, b, M4, hg, ht, h1, h2⟩ := turn i _ acc M2 (List.getElem?_eq_getElem hlt) hI
      have slw := sl_wipe (sl.mono (e1.trans (e2.trans e3))) (own.map (·.2))
      intro s H0 C cl fp
      refine (hg s H0 C cl fp).run G3 x _ H' _ slw w3.ex r3 fun σ' sl' hw => ⟨?_, ?_⟩
      · rw [hw _ fun i hi => hi]
        exact wipe_idem
      · intro s H0 C cl fp
        refine (ht s H0 C cl fp L).run G3 σ' H' _ sl' w3 fun G4 H4 e4 w4 => ?_
        cases b with
        | false =>
          rw [if_neg Bool.false_ne_true]
          exact ⟨acc, M4, G4, h2 rfl, (e2.trans e3).trans e4, w4⟩
        | true =>
          rw [if_pos rfl]
          obtain ⟨e, M5, he, hl, hI5⟩ := h1 rfl
          intro s H0 C cl fp
          refine (he s H0 C cl fp L).run G4 σ' H4 _ (sl'.mono e4) w4 fun v G5 H5 e5 w5 r5 => ?_
          obtain ⟨vs, hv, rv⟩ := (w5.at (i := 0) rfl).2
          exact ⟨vs, hv, by rw [rv.length]; exact hl, acc ++ [e], M5, G5, hI5, ((e2.trans e3).trans e4).trans e5, w5.set (i := 0) rfl ⟨_, upd_same, rv.append (RepL.cons r5 RepL.nil)⟩⟩
    · have hi' : i = its.length := by omega
      subst hi'
      obtain ⟨rfl, rfl⟩ := done acc M2 hI
      exact .inl ⟨iok.stop G2 _ H2 e2 w2, q L G2 H2 (e1.trans e2) w2⟩)
theorem n_lc {elt : Expr} {ifs : List Expr} {scope : Scope} {own : List (Str × Nat)} (h : XL X elt tg iter ifs scope own ρ M ds M1) (hc : X.calm = true) (hN : X.N.Nodup)
    (ok : BlkOk X.N X.env.scope scope own := by exact blkOk_by (by decide +kernel)) (hs : ∀ x, foldedSetIterable iter X.env x = pure x := by exact fs_of rfl) :
    XN X (.ListComp elt [⟨tg, iter, ifs, 0⟩] scope pos) ρ M (.lst ds) M1 := .mk fun G σ H Q sl w q =>
  Sem.of (pe_lc (g := SemBG X scope tg) (tt := SemBT X scope ifs) (te := SemBE X scope elt) hc hN pi_sem ok (fun s H C cl fp => ⟨fun pins s2 σ H v u Q I r h => h s _ C cl fp pins s2 u I r⟩) (fun s H C cl fp => ⟨fun pins s2 σ H Q I h => h s _ C cl fp pins s2 I⟩) (fun s H C cl fp => ⟨fun pins s2 σ H Q I h => h s _ C cl fp pins s2 I⟩) hs) (h.run G σ H Q sl w q)
/-- y = [..], on one line, y a local of its own: owned; frozen -/
theorem st_newLc {elt : Expr} {ifs : List Expr} {scope : Scope} {own : List (Str × Nat)} {y : Str} (i : Nat) (h : XL X elt tg iter ifs scope own ρ M ds M1) (k : ∀ q, St X rest Z G0 (ρ.set i (some (.adr q))) ((q, .lst ds) :: M1)) (hc : X.calm = true) (hN : X.N.Nodup)
    (hy : X.N[i]? = some y := by rfl) (hyl : X.env.scope.names.lookup y = some .local := by rfl) (hsw : swapsWith (.ListComp elt [⟨tg, iter, ifs, 0⟩] scope pos) (some (.Name y pos')) p2.line X.env = pure true := by exact sw_true rfl rfl rfl (by decide +kernel))
    (ok : BlkOk X.N X.env.scope scope own := by exact blkOk_by (by decide +kernel)) (hs : ∀ x, foldedSetIterable iter X.env x = pure x := by exact fs_of rfl) :
    St X (.Assign [.Name y pos'] (.ListComp elt [⟨tg, iter, ifs, 0⟩] scope pos) p2 :: rest) Z G0 ρ M := St.mk' fun G σ H e0 sl w =>
  cons_of (ps_setLc (g := SemBG X scope tg) (tt := SemBT X scope ifs) (te := SemBE X scope elt) hc hN hy hyl hsw pi_sem ok (fun s H C cl fp => ⟨fun pins s2 σ H v u Q I r h => h s _ C cl fp pins s2 u I r⟩) (fun s H C cl fp => ⟨fun pins s2 σ H Q I h => h s _ C cl fp pins s2 I⟩) (fun s H C cl fp => ⟨fun pins s2 σ H Q I h => h s _ C cl fp pins s2 I⟩) hs)
    (h.run G σ H _ sl w fun q G' H' e' w' => (k q).run (e0.trans e') ((sl.mono e').set i rep_adr) w')
theorem st_asgLc {elt : Expr} {ifs : List Expr} {scope : Scope} {own : List (Str × Nat)} {y : Str} (i : Nat) (h : XL X elt tg iter ifs scope own ρ M ds M1) (k : St X rest Z G0 (ρ.set i (some (.lst ds))) M1) (hc : X.calm = true) (hN : X.N.Nodup)
    (hy : X.N[i]? = some y := by rfl) (hyl : X.env.scope.names.lookup y = some .local := by rfl) (hsw : swapsWith (.ListComp elt [⟨tg, iter, ifs, 0⟩] scope pos) (some (.Name y pos')) p2.line X.env = pure true := by exact sw_true rfl rfl rfl (by decide +kernel))
    (ok : BlkOk X.N X.env.scope scope own := by exact blkOk_by (by decide +kernel)) (hs : ∀ x, foldedSetIterable iter X.env x = pure x := by exact fs_of rfl) :
    St X (.Assign [.Name y pos'] (.ListComp elt [⟨tg, iter, ifs, 0⟩] scope pos) p2 :: rest) Z G0 ρ M := St.mk' fun G σ H e0 sl w =>
  cons_of (ps_setLc (g := SemBG X scope tg) (tt := SemBT X scope ifs) (te := SemBE X scope elt) hc hN hy hyl hsw pi_sem ok (fun s H C cl fp => ⟨fun pins s2 σ H v u Q I r h => h s _ C cl fp pins s2 u I r⟩) (fun s H C cl fp => ⟨fun pins s2 σ H Q I h => h s _ C cl fp pins s2 I⟩) (fun s H C cl fp => ⟨fun pins s2 σ H Q I h => h s _ C cl fp pins s2 I⟩) hs)
    (h.run G σ H _ sl w fun q G' H' e' w' => by
      obtain ⟨vs, hv, r⟩ := (w'.at (i := 0) rfl).2
      have e2 := w'.exFreeze (i := 0) (o := .lst vs) rfl
      exact k.run ((e0.trans e').trans e2) ((sl.mono (e'.trans e2)).set i (rep_lst upd_same (r.mono e2 _))) (w'.freeze (i := 0) rfl hv))
/-- x += e, numbers -/
theorem st_augI {x : Str} {n m : Int} (i : Nat) (hv : ρ[i]? = some (some (.int n))) (he : XE X e ρ M (.int m) M1) (k : St X rest Z G0 (ρ.set i (some (.int (n + m)))) M1) (hN : X.N.Nodup) (hi : X.N[i]? = some x := by rfl) (hx : Loc X.env.scope x := by first | exact Or.inl rfl | exact Or.inr rfl)
    (hf : X.fn x = true ∨ X.env.scope.names.lookup x = some .local := by first | exact .inl rfl | exact .inr rfl) : St X (.AugAssign (.Name x pos') .Add e pos :: rest) Z G0 ρ M := St.mk' fun G σ H e0 sl w => by
  obtain ⟨v, h1, r1⟩ := sl.get i _ hv
  exact cons_of (ps_aug hN hi hx pe_sem ip_add hf) ⟨v, h1, he.run G σ H _ sl w fun u G' H' e' w' r' => ⟨n, m, of_int r1, of_int r', k.run (e0.trans e') ((sl.mono e').set i rep_int) w'⟩⟩
end
end Wk

/-! Wk: defs. -/
namespace Wk
open PySem PySem.Spec PyProof.Rows L2 Evl

/-- a def that makes of ds and what it is lent, Mc, the value d and Mc' -/
def spR (K : PySem.W.Frag) (R : List D → Mem → D → Mem → Prop) : Sp := fun vs H Q _ => ∃ G F ds Mc d Mc', RepL K G ds vs ∧ Wd K G (Mc ++ F) H ∧ R ds Mc d Mc' ∧
  ∀ v G' H', Ex G G' → Wd K G' (Mc' ++ F) H' → Rep K G' d v → Q v H'
def startD (N : List Str) (ds : List D) : Env := ds.map some ++ List.replicate (N.length - ds.length) none
theorem sl_start {K : PySem.W.Frag} {G : Hp} {N : List Str} {ds : List D} {vs : List V} (r : RepL K G ds vs) : Sl K G (startD N ds) (L2.start N vs) := by
  refine ⟨?_, fun i d h => ?_⟩
  · unfold startD L2.start
    rw [List.length_append, List.length_append, List.length_map, List.length_map, List.length_replicate, List.length_replicate, r.length]
  · unfold startD at h
    unfold L2.start
    by_cases hi : i < ds.length
    · rw [List.getElem?_append_left (by rw [List.length_map]; exact hi), List.getElem?_map] at h
      rw [List.getElem?_append_left (by rw [List.length_map, r.length]; exact hi), List.getElem?_map]
      cases e : ds[i]? with
      | none => rw [e] at h; cases h
      | some d' =>
        rw [e] at h; cases h
        obtain ⟨v, hv, rv⟩ := r.get e
        exact ⟨v, by rw [hv]; rfl, rv⟩
    · rw [List.getElem?_append_right (by rw [List.length_map]; omega)] at h
      have := List.mem_of_getElem? h
      have := List.eq_of_mem_replicate this
      cases this
section
variable {P : Program} {w : World} {K : PySem.W.Frag} {mg : Str → Option Value} {base : Heap}
abbrev cxF (P : Program) (w : World) (K : PySem.W.Frag) (mg : Str → Option Value) (base : Heap) (N : List Str) (qual : Str) (sc : Scope) (f : Addr) (cdv : Value) (A : Around) (outer : List PySem.Env) (s : Shared) (H : Hp) (E : XK) : Cx :=
  (cxOf CX0 P w K mg base N qual sc f cdv A outer s H E).nox
theorem fn_ok {x qual : Str} {st : Stmt} {f : Addr} {fd : FuncData} {N ps : List Str} {k : Nat} {R : List D → Mem → D → Mem → Prop} (F : Fun K x qual st f fd) (S : FnScope N ps (defScope st)) (hl : ∀ ds Mc d Mc', R ds Mc d Mc' → ds.length = ps.length)
    (body : ∀ (cdv : Value) (A : Around) (outer : List PySem.Env) (s : Shared) (H0 : Hp) (E : XK), Room k (A.deeper (envOfC qual (defScope st) s.heap.objs.size f cdv)) → ∀ (G0 : Hp) (F : Mem) ds Mc d Mc' (Q : VK), R ds Mc d Mc' →
      (∀ v G' H', Ex G0 G' → Wd K G' (Mc' ++ F) H' → Rep K G' d v → Q v H') → St (cxF P w K mg base N qual (defScope st) f cdv A outer s H0 E) (defBody st) { nx := fun _ H' => Q .non H', rt := Q } G0 (startD N ds) (Mc ++ F)) :
    FnOk P w K mg base CX0 (k + 1) f fd ps (spR K R) := by
  refine F.ok S (fun vs H Q E h => ?_) (fun cdv A outer s H vs Q E hr h => ?_)
  · obtain ⟨G, F, ds, Mc, d, Mc', r, _, hR, _⟩ := h
    rw [r.length, hl ds Mc d Mc' hR]
  · obtain ⟨G, F, ds, Mc, d, Mc', r, wd, hR, q⟩ := h
    exact ⟨_, pss_sem, (body cdv A outer s H E hr G F ds Mc d Mc' Q hR q).run (Ex.refl G) (sl_start r) wd⟩
end
section
variable {X : Cx} {ρ : Env} {M M1 M2 : Mem} {d : D} {ds : List D} {k : Nat} {f : Addr} {fd : FuncData} {ps : List Str} {x : Str} {p pos : Pos} {e : Expr} {es : List Expr} {R : List D → Mem → D → Mem → Prop}
/-- a call of a def: it is lent the piece Mc of what is owned -/
theorem x_call {CX : CXT} {E : XK} (F : FnOk X.prog X.w X.K X.mg X.base CX k f fd ps (spR X.K R)) (hr : Room k X.A) (hm : X.mg x = some (.ref f)) (hk : PySem.W.keepIn X.K (.ref f) = true) (hb : Binds X.K fd ps []) (hx : Passes CX X E)
    (pre Mc post : Mem) {Mc' : Mem} (ha : XA X (e :: es) ρ M ds (pre ++ (Mc ++ post))) (hR : R ds Mc d Mc')
    (hg : Gl X x := by rfl) (hdb : (x == ("__debug__" : Str)) = false := by decide) (he : starEach (e :: es) X.env = (false, eval e X.env) :: starEach es X.env := by exact star_of rfl) (hpl : (backTo pos (starEach es X.env)).any (·.1) = false := by exact nostars rfl) :
    XE X (.Call (.Name x p) (e :: es) [] pos) ρ M d (pre ++ (Mc' ++ post)) := .mk fun G σ H Q sl w q =>
  Sem.of (pe_call F hr hg hm hk hb .nil hx pa_sem hdb he hpl) (ha.run G σ H _ sl w fun vs G1 H1 e1 w1 r1 => by
    have pm : ∀ N : Mem, (N ++ (pre ++ post)).Perm (pre ++ (N ++ post)) := fun N => by
      rw [← List.append_assoc, ← List.append_assoc]
      exact List.Perm.append_right _ List.perm_append_comm
    show spR X.K R (vs ++ []) H1 Q E
    rw [List.append_nil]
    exact ⟨G1, pre ++ post, ds, Mc, d, Mc', r1, w1.perm (pm Mc), hR, fun v G' H' e' w' r' => q.use (e1.trans e') (w'.perm (pm Mc').symm) r'⟩)
end

/-! what is lent: a deck -/
structure Deck where
  cells : List Int
  pos : Int
  seed : Int
def Deck.mem (a c : Addr) (k : Deck) : Mem := [(a, .lst [.adr c, .int k.pos, .int k.seed]), (c, .lst (k.cells.map D.int))]
end Wk

/-! Wk: typed forms, for printed walks. -/
namespace Wk
open PySem PySem.Spec PyProof.Rows L2 Evl

/-! partial operations -/
def pmod (i j : Int) : Option Int := if 0 < j then some (i % j) else none
def pdiv (i j : Int) : Option Int := if 0 < j ∧ j.natAbs.log2 < 9000 then some (i / j) else none
def pmul (i j : Int) : Option Int := if i.natAbs.log2 + j.natAbs.log2 < 1000000 then some (i * j) else none
/-- a length that the model carries -/
def pfit {α : Type} (n : Nat) (x : α) : Option α := if n < sizeLine then some x else none
theorem pmod_some {i j r : Int} (h : pmod i j = some r) : 0 < j ∧ i % j = r := by
  unfold pmod at h; split at h
  · cases h; exact ⟨‹_›, rfl⟩
  · cases h
theorem pdiv_some {i j r : Int} (h : pdiv i j = some r) : CDivW i j ∧ i / j = r := by
  unfold pdiv at h; split at h
  · cases h; exact ⟨‹_›, rfl⟩
  · cases h
theorem pmul_some {i j r : Int} (h : pmul i j = some r) : CMulW i j ∧ i * j = r := by
  unfold pmul at h; split at h
  · cases h; exact ⟨‹_›, rfl⟩
  · cases h
theorem pfit_some {α : Type} {n : Nat} {x y : α} (h : pfit n x = some y) : n < sizeLine ∧ x = y := by
  unfold pfit at h; split at h
  · cases h; exact ⟨‹_›, rfl⟩
  · cases h
/-- an item of a sequence, by a place of any sign -/
def pix {α : Type} (xs : List α) (i : Int) : Option α := atI xs i
/-- the sign at a place -/
def pixS (s : Str) (i : Int) : Option Str := if s.length ≤ sizeLine then (atI s.cps.toList i).map fun c => ⟨#[c]⟩ else none
theorem atI_map {α β : Type} {f : α → β} {xs : List α} {i : Int} {v : α} (h : atI xs i = some v) : atI (xs.map f) i = some (f v) := by
  unfold atI at h ⊢
  rw [List.length_map]
  cases e : ixN xs.length i with
  | none => rw [e] at h; cases h
  | some k =>
    rw [e] at h
    have h' : xs[k]? = some v := h
    show (xs.map f)[k]? = some (f v)
    rw [List.getElem?_map, h']; rfl
/-- the place that an index means -/
def pplace (n : Nat) (i : Int) : Option Nat := ixN n i

section
variable {X : Cx} {e a b c : Expr} {es : List Expr} {ρ : Env} {M M1 M2 M3 : Mem} {d d1 d2 : D} {ds : List D} {pos p apos : Pos} {i j r : Int} {q : Addr} {x : Str} {α : Type} {f : α → D} {xs ys : List α} {v : α}
theorem x_is (h : XE X e ρ M d M1) (he : d = d1) : XE X e ρ M d1 M1 := he ▸ h
theorem x_modO (ha : XE X a ρ M (.int i) M1) (hb : XE X b ρ M1 (.int j) M2) (h : pmod i j = some r) : XE X (.BinOp a .Mod b pos) ρ M (.int r) M2 := (pmod_some h).2 ▸ x_mod ha hb (pmod_some h).1
theorem x_fdivO (ha : XE X a ρ M (.int i) M1) (hb : XE X b ρ M1 (.int j) M2) (h : pdiv i j = some r) : XE X (.BinOp a .FloorDiv b pos) ρ M (.int r) M2 := (pdiv_some h).2 ▸ x_fdiv ha hb (.inr (pdiv_some h).1)
theorem x_mulO (ha : XE X a ρ M (.int i) M1) (hb : XE X b ρ M1 (.int j) M2) (h : pmul i j = some r) : XE X (.BinOp a .Mult b pos) ρ M (.int r) M2 := (pmul_some h).2 ▸ x_mul ha hb (.inr (pmul_some h).1)
/-- one factor is written -/
theorem x_mulL (ha : XE X a ρ M (.int i) M1) (hb : XE X b ρ M1 (.int j) M2) (h : (-(2 ^ 64) < i ∧ i < 2 ^ 64) := by decide) : XE X (.BinOp a .Mult b pos) ρ M (.int (i * j)) M2 := x_mul ha hb (.inl (.inl h))
theorem x_mulR (ha : XE X a ρ M (.int i) M1) (hb : XE X b ρ M1 (.int j) M2) (h : (-(2 ^ 64) < j ∧ j < 2 ^ 64) := by decide) : XE X (.BinOp a .Mult b pos) ρ M (.int (i * j)) M2 := x_mul ha hb (.inl (.inr h))
theorem x_modC (ha : XE X a ρ M (.int i) M1) (hb : XE X b ρ M1 (.int j) M2) (h : 0 < j := by decide) : XE X (.BinOp a .Mod b pos) ρ M (.int (i % j)) M2 := x_mod ha hb h
theorem x_fdivC (ha : XE X a ρ M (.int i) M1) (hb : XE X b ρ M1 (.int j) M2) (h : CDiv i j := by exact ⟨by decide, by decide⟩) : XE X (.BinOp a .FloorDiv b pos) ρ M (.int (i / j)) M2 := x_fdiv ha hb (.inl h)
theorem x_ixLm (ha : XE X a ρ M (.lst (xs.map f)) M1) (hb : XE X b ρ M1 (.int i) M2) (h : pix xs i = some v) (hs : PlainIx b := by exact plainIx_of rfl) : XE X (.Subscript a b pos) ρ M (f v) M2 := x_ixL ha hb (atI_map h) hs
theorem x_ixRm (ha : XE X a ρ M (.rlst (xs.map f)) M1) (hb : XE X b ρ M1 (.int i) M2) (h : pix xs i = some v) (hs : PlainIx b := by exact plainIx_of rfl) : XE X (.Subscript a b pos) ρ M (f v) M2 := x_ixR ha hb (atI_map h) hs
theorem x_ixTm (ha : XE X a ρ M (.tup (xs.map f)) M1) (hb : XE X b ρ M1 (.int i) M2) (h : pix xs i = some v) (hs : PlainIx b := by exact plainIx_of rfl) : XE X (.Subscript a b pos) ρ M (f v) M2 := x_ixT ha hb (atI_map h) hs
theorem x_ixOm (k : Nat) (ha : XE X a ρ M (.adr q) M1) (hb : XE X b ρ M1 (.int i) M2) (hk : M2[k]? = some (q, .lst (xs.map f))) (h : pix xs i = some v) (hs : PlainIx b := by exact plainIx_of rfl) : XE X (.Subscript a b pos) ρ M (f v) M2 := x_ixO k ha hb hk (atI_map h) hs
theorem x_ixSm {s t : Str} (ha : XE X a ρ M (.str s) M1) (hb : XE X b ρ M1 (.int i) M2) (h : pixS s i = some t) (hs : PlainIx b := by exact plainIx_of rfl) : XE X (.Subscript a b pos) ρ M (.str t) M2 := by
  unfold pixS at h
  split at h
  · rename_i hl
    cases e : atI s.cps.toList i with
    | none => rw [e] at h; cases h
    | some c => rw [e] at h; cases h; exact x_ixS ha hb e hl hs
  · cases h
/-- a display of things of one kind -/
theorem of_map {α : Type} {f : α → D} {xs : List α} {ds : List D} (h : ds = xs.map f) (hx : XE X e ρ M (.lst ds) M1) : XE X e ρ M (.lst (xs.map f)) M1 := h ▸ hx
end

/-! folds -/
def foldO {α S : Type} (f : S → α → Option S) : S → List α → Option S
  | s, [] => some s
  | s, x :: xs => (f s x).bind fun s' => foldO f s' xs
inductive Fl (S R : Type) where
  | nx (s : S) | rt (r : R)
/-- a loop that may hand back -/
def forR {α S R : Type} (f : S → α → Option (Fl S R)) : S → List α → Option (Fl S R)
  | s, [] => some (.nx s)
  | s, x :: xs => (f s x).bind fun y => match y with
    | .nx s' => forR f s' xs
    | .rt r => some (.rt r)
def mapO {α β : Type} (f : α → Option β) : List α → Option (List β)
  | [] => some []
  | x :: xs => (f x).bind fun y => (mapO f xs).bind fun ys => some (y :: ys)
/-- with a state that is handed on -/
def mapS {α β S : Type} (f : S → α → Option (β × S)) : S → List α → Option (List β × S)
  | s, [] => some ([], s)
  | s, x :: xs => (f s x).bind fun y => (mapS f y.2 xs).bind fun ys => some (y.1 :: ys.1, ys.2)
theorem foldO_append {α S : Type} {f : S → α → Option S} : ∀ {xs : List α} {s : S} {x : α}, foldO f s (xs ++ [x]) = (foldO f s xs).bind fun s' => f s' x
  | [], s, x => by
    show (f s x).bind (fun s' => some s') = f s x
    cases f s x <;> rfl
  | y :: ys, s, x => by
    show (f s y).bind _ = ((f s y).bind _).bind _
    cases f s y with
    | none => rfl
    | some s' => exact foldO_append (xs := ys)
theorem foldO_split {α S : Type} {f : S → α → Option S} : ∀ {xs ys : List α} {s s1 : S}, foldO f s (xs ++ ys) = some s1 → ∃ s', foldO f s xs = some s' ∧ foldO f s' ys = some s1
  | [], ys, s, s1, h => ⟨s, rfl, h⟩
  | x :: xs, ys, s, s1, h => by
    have h' : ((f s x).bind fun s' => foldO f s' (xs ++ ys)) = some s1 := h
    obtain ⟨s', h1, h2⟩ := Option.bind_eq_some_iff.mp h'
    obtain ⟨s2, h3, h4⟩ := foldO_split h2
    exact ⟨s2, by show (f s x).bind _ = _; rw [h1]; exact h3, h4⟩
theorem take_drop_at {α : Type} {xs : List α} {i : Nat} {x : α} (h : xs[i]? = some x) : xs.take (i + 1) = xs.take i ++ [x] ∧ xs = xs.take i ++ x :: xs.drop (i + 1) := by
  obtain ⟨hl, e⟩ := List.getElem?_eq_some_iff.mp h
  refine ⟨by rw [List.take_succ_eq_append_getElem hl, e], ?_⟩
  conv => lhs; rw [← List.take_append_drop i xs, List.drop_eq_getElem_cons hl, e]
theorem map_at {α β : Type} {f : α → β} {xs : List α} {i : Nat} {d : β} (h : (xs.map f)[i]? = some d) : ∃ x, xs[i]? = some x ∧ d = f x := by
  rw [List.getElem?_map] at h
  cases e : xs[i]? with
  | none => rw [e] at h; cases h
  | some x => rw [e] at h; cases h; exact ⟨x, rfl, rfl⟩
section
variable {X : Cx} {tg iter e : Expr} {body rest : List Stmt} {ρ : Env} {M M1 : Mem} {Z : Ends} {G0 : Hp} {pos : Pos} {α S R : Type} {en : α → D} {xs : List α} {s0 s1 : S}
theorem At.wipe {K : PySem.W.Frag} {σ : L2.St} {H : Hp} (h : At K G0 ρ M σ H) : ∀ ks : List Nat, At K G0 (wipeD ρ ks) M σ H := fun ks => by
  have : (wipeD ρ ks).length = ρ.length ∧ ∀ (i : Nat) d, (wipeD ρ ks)[i]? = some (some d) → ρ[i]? = some (some d) := by
    induction ks with
    | nil => exact ⟨rfl, fun _ _ h => h⟩
    | cons k ks ih =>
      refine ⟨by unfold wipeD; rw [List.length_set]; exact ih.1, fun i d h => ?_⟩
      unfold wipeD at h
      by_cases hk : k = i
      · subst hk
        by_cases hl : k < (wipeD ρ ks).length
        · rw [List.getElem?_set_self hl] at h; cases h
        · rw [List.getElem?_eq_none (by rw [List.length_set]; omega)] at h; cases h
      · rw [List.getElem?_set_ne hk] at h
        exact ih.2 i d h
  exact h.weak _ this.1 this.2
theorem st_wipe {sts : List Stmt} (ks : List Nat) (h : St X sts Z G0 (wipeD ρ ks) M) : St X sts Z G0 ρ M := h.pre fun σ H a => a.wipe ks
theorem st_drop {sts : List Stmt} (M' : Mem) (hs : M'.Sublist M) (h : St X sts Z G0 ρ M') : St X sts Z G0 ρ M := h.pre fun σ H a => a.drop M' hs
/-- for, folded -/
theorem st_forO {f : S → α → Option S} (hp : PassesOwn (model X.prog X.w) X.A X.env X.xe) (hc : X.calm = true) (ρe : S → Env) (Me : S → Mem) (hi : XI X tg iter (ρe s0) M (xs.map en) (Me s0)) (hf : foldO f s0 xs = some s1)
    (turn : ∀ G1, Ex G0 G1 → ∀ s x s', x ∈ xs → f s x = some s' → ∃ is ρ2, XG X tg (en x) is (ρe s) ρ2 ∧ St X body { Z with nx := At X.K G1 (ρe s') (Me s'), ct := At X.K G1 (ρe s') (Me s'), bk := fun _ _ => False } G1 ρ2 (Me s))
    (done : St X rest Z G0 (ρe s1) (Me s1)) (hs : ∀ x, foldedSetIterable iter X.env x = pure x := by exact fs_of rfl) : St X (.For tg iter body [] pos :: rest) Z G0 (ρe s0) M := by
  refine st_for hp hc hi (fun i ρ' M' => ∃ s, foldO f s0 (xs.take i) = some s ∧ ρ' = ρe s ∧ M' = Me s) ⟨s0, rfl, rfl, rfl⟩ (fun G1 e1 i d ρ' M' hd hI => ?_) (fun ρ' M' hI => ?_) hs
  · obtain ⟨x, hx, rfl⟩ := map_at hd
    obtain ⟨s, h1, rfl, rfl⟩ := hI
    obtain ⟨h2, h3⟩ := take_drop_at hx
    rw [h3] at hf
    obtain ⟨s2, h4, h5⟩ := foldO_split hf
    rw [h1] at h4; cases h4
    obtain ⟨s', h6, _⟩ := Option.bind_eq_some_iff.mp h5
    obtain ⟨is, ρ2, hg, hb⟩ := turn G1 e1 s x s' (List.mem_of_getElem? hx) h6
    refine ⟨is, ρ2, hg, .mk fun σ H a => ?_⟩
    have key : ∀ σ H, At X.K G1 (ρe s') (Me s') σ H → Nxt X.K G1 (fun ρ' M' => ∃ s, foldO f s0 (xs.take (i + 1)) = some s ∧ ρ' = ρe s ∧ M' = Me s) σ H := fun σ H a =>
      ⟨_, _, ⟨s', by rw [h2, foldO_append, h1]; exact h6, rfl, rfl⟩, a⟩
    intro pins sh I
    refine wpAny_mono (hb.go σ H a pins sh I) (fun fl s' h => ?_) fun _ _ h => h
    cases fl with
    | next => obtain ⟨σ', H', I', n⟩ := h; exact ⟨σ', H', I', key _ _ n⟩
    | cont => obtain ⟨σ', H', I', n⟩ := h; exact ⟨σ', H', I', key _ _ n⟩
    | brk => obtain ⟨σ', H', I', n⟩ := h; exact n.elim
    | ret v => exact h
  · obtain ⟨s, h1, rfl, rfl⟩ := hI
    rw [List.length_map, List.take_length] at h1
    rw [hf] at h1; cases h1
    exact done
theorem forR_run {f : S → α → Option (Fl S R)} : ∀ {xs ys : List α} {s : S} {y : Fl S R}, forR f s (xs ++ ys) = some y → (∃ s', forR f s xs = some (.nx s') ∧ forR f s' ys = some y) ∨ (∃ r, forR f s xs = some (.rt r) ∧ y = .rt r)
  | [], ys, s, y, h => .inl ⟨s, rfl, h⟩
  | x :: xs, ys, s, y, h => by
    have h' : ((f s x).bind fun y => match y with
      | .nx s' => forR f s' (xs ++ ys)
      | .rt r => some (.rt r)) = some y := h
    obtain ⟨z, h1, h2⟩ := Option.bind_eq_some_iff.mp h'
    cases z with
    | nx s' =>
      rcases forR_run (xs := xs) h2 with ⟨s2, h3, h4⟩ | ⟨r, h3, h4⟩
      · exact .inl ⟨s2, by show (f s x).bind _ = _; rw [h1]; exact h3, h4⟩
      · exact .inr ⟨r, by show (f s x).bind _ = _; rw [h1]; exact h3, h4⟩
    | rt r =>
      cases h2
      exact .inr ⟨r, by show (f s x).bind _ = _; rw [h1]; rfl, rfl⟩
/-- for, folded, that may hand back r: Zr is wanted of the handing back -/
theorem st_forR {f : S → α → Option (Fl S R)} {y : Fl S R} (hp : PassesOwn (model X.prog X.w) X.A X.env X.xe) (hc : X.calm = true) (ρe : S → Env) (Me : S → Mem) (hi : XI X tg iter (ρe s0) M (xs.map en) (Me s0)) (hf : forR f s0 xs = some y)
    (turn : ∀ G1, Ex G0 G1 → ∀ s x z, x ∈ xs → f s x = some z → (∀ r, z = .rt r → y = .rt r) → ∃ is ρ2, XG X tg (en x) is (ρe s) ρ2 ∧ St X body { Z with nx := fun σ H => ∃ s', z = .nx s' ∧ At X.K G1 (ρe s') (Me s') σ H, ct := fun σ H => ∃ s', z = .nx s' ∧ At X.K G1 (ρe s') (Me s') σ H, bk := fun _ _ => False } G1 ρ2 (Me s))
    (done : ∀ s1, y = .nx s1 → St X rest Z G0 (ρe s1) (Me s1)) (hs : ∀ x, foldedSetIterable iter X.env x = pure x := by exact fs_of rfl) : St X (.For tg iter body [] pos :: rest) Z G0 (ρe s0) M := by
  refine st_for hp hc hi (fun i ρ' M' => ∃ s, forR f s0 (xs.take i) = some (.nx s) ∧ ρ' = ρe s ∧ M' = Me s) ⟨s0, rfl, rfl, rfl⟩ (fun G1 e1 i d ρ' M' hd hI => ?_) (fun ρ' M' hI => ?_) hs
  · obtain ⟨x, hx, rfl⟩ := map_at hd
    obtain ⟨s, h1, rfl, rfl⟩ := hI
    obtain ⟨h2, h3⟩ := take_drop_at hx
    rw [h3] at hf
    rcases forR_run hf with ⟨s2, h4, h5⟩ | ⟨r, h4, _⟩
    · rw [h1] at h4; cases h4
      obtain ⟨z, h6, h7⟩ := Option.bind_eq_some_iff.mp h5
      obtain ⟨is, ρ2, hg, hb⟩ := turn G1 e1 s x z (List.mem_of_getElem? hx) h6 (fun r hr => by subst hr; cases h7; rfl)
      refine ⟨is, ρ2, hg, .mk fun σ H a => ?_⟩
      have key : ∀ σ H, (∃ s', z = .nx s' ∧ At X.K G1 (ρe s') (Me s') σ H) → Nxt X.K G1 (fun ρ' M' => ∃ s, forR f s0 (xs.take (i + 1)) = some (.nx s) ∧ ρ' = ρe s ∧ M' = Me s) σ H := fun σ H ⟨s', hz, a⟩ => by
        subst hz
        refine ⟨_, _, ⟨s', ?_, rfl, rfl⟩, a⟩
        rw [h2]
        have : ∀ (xs : List α) (s0 : S), forR f s0 xs = some (.nx s) → forR f s0 (xs ++ [x]) = some (.nx s') := by
          intro xs
          induction xs with
          | nil =>
            intro s0 h
            cases h
            show (f s x).bind _ = _
            rw [h6]; rfl
          | cons w ws ih =>
            intro s0 h
            have h' : ((f s0 w).bind fun y => match y with
              | .nx s' => forR f s' ws
              | .rt r => some (.rt r)) = some (.nx s) := h
            obtain ⟨z, g1, g2⟩ := Option.bind_eq_some_iff.mp h'
            cases z with
            | nx s3 => show (f s0 w).bind _ = _; rw [g1]; exact ih s3 g2
            | rt r => cases g2
        exact this _ _ h1
      intro pins sh I
      refine wpAny_mono (hb.go σ H a pins sh I) (fun fl s' h => ?_) fun _ _ h => h
      cases fl with
      | next => obtain ⟨σ', H', I', n⟩ := h; exact ⟨σ', H', I', key _ _ n⟩
      | cont => obtain ⟨σ', H', I', n⟩ := h; exact ⟨σ', H', I', key _ _ n⟩
      | brk => obtain ⟨σ', H', I', n⟩ := h; exact n.elim
      | ret v => exact h
    · rw [h1] at h4; cases h4
  · obtain ⟨s, h1, rfl, rfl⟩ := hI
    rw [List.length_map, List.take_length] at h1
    rw [hf] at h1; cases h1
    exact done s rfl
/-! comprehensions -/
variable {elt : Expr} {ifs : List Expr} {scope : Scope} {β : Type} {en2 : β → D}
theorem mapO_append {f : α → Option β} : ∀ {xs : List α} {x : α} {ys : List β} {y : β}, mapO f xs = some ys → f x = some y → mapO f (xs ++ [x]) = some (ys ++ [y])
  | [], x, ys, y, h, h2 => by cases h; show (f x).bind _ = _; rw [h2]; rfl
  | w :: ws, x, ys, y, h, h2 => by
    have h' : ((f w).bind fun y => (mapO f ws).bind fun ys => some (y :: ys)) = some ys := h
    obtain ⟨z, g1, g2⟩ := Option.bind_eq_some_iff.mp h'
    obtain ⟨zs, g3, g4⟩ := Option.bind_eq_some_iff.mp g2
    cases g4
    show (f w).bind _ = _
    rw [g1]
    show (mapO f (ws ++ [x])).bind _ = _
    rw [mapO_append g3 h2]; rfl
theorem mapO_split {f : α → Option β} : ∀ {xs ys : List α} {zs : List β}, mapO f (xs ++ ys) = some zs → ∃ us ws, mapO f xs = some us ∧ mapO f ys = some ws ∧ zs = us ++ ws
  | [], ys, zs, h => ⟨[], zs, rfl, h, rfl⟩
  | x :: xs, ys, zs, h => by
    have h' : ((f x).bind fun y => (mapO f (xs ++ ys)).bind fun ys => some (y :: ys)) = some zs := h
    obtain ⟨z, g1, g2⟩ := Option.bind_eq_some_iff.mp h'
    obtain ⟨zs', g3, g4⟩ := Option.bind_eq_some_iff.mp g2
    cases g4
    obtain ⟨us, ws, h1, h2, rfl⟩ := mapO_split g3
    exact ⟨z :: us, ws, by show (f x).bind _ = _; rw [g1]; show (mapO f xs).bind _ = _; rw [h1]; rfl, h2, rfl⟩
theorem mapO_length {f : α → Option β} : ∀ {xs : List α} {ys : List β}, mapO f xs = some ys → ys.length = xs.length
  | [], ys, h => by cases h; rfl
  | x :: xs, ys, h => by
    have h' : ((f x).bind fun y => (mapO f xs).bind fun ys => some (y :: ys)) = some ys := h
    obtain ⟨z, g1, g2⟩ := Option.bind_eq_some_iff.mp h'
    obtain ⟨zs', g3, g4⟩ := Option.bind_eq_some_iff.mp g2
    cases g4
    rw [List.length_cons, List.length_cons, mapO_length g3]
/-- [elt for tg in iter], each a value; nothing that is owned changes -/
theorem l_O {f : α → Option β} {ys : List β} (own : List (Str × Nat)) (hi : XI X tg iter ρ M (xs.map en) M1) (hf : mapO f xs = some ys) (hl : xs.length ≤ sizeLine)
    (turn : ∀ x y, x ∈ xs → f x = some y → ∃ ρ2, InB X scope (fun Y => XG Y tg (en x) (own.map (·.2)) (wipeD ρ (own.map (·.2))) ρ2) ∧ InB X scope (fun Y => ∀ q acc, XE Y elt ρ2 ((q, .lst acc) :: M1) (en2 y) ((q, .lst acc) :: M1))) :
    XL X elt tg iter [] scope own ρ M (ys.map en2) M1 := by
  refine l_any own hi (fun i acc M' => M' = M1 ∧ ∃ us, mapO f (xs.take i) = some us ∧ acc = us.map en2) ⟨rfl, [], rfl, rfl⟩ (fun i d acc M' hd hI => ?_) (fun acc M2 hI => ?_)
  · obtain ⟨x, hx, rfl⟩ := map_at hd
    obtain ⟨rfl, us, h1, rfl⟩ := hI
    obtain ⟨h2, h3⟩ := take_drop_at hx
    rw [h3] at hf
    obtain ⟨us', ws, h4, h5, _⟩ := mapO_split hf
    obtain ⟨y, h6, _⟩ := Option.bind_eq_some_iff.mp h5
    obtain ⟨ρ2, hg, he⟩ := turn x y (List.mem_of_getElem? hx) h6
    refine ⟨ρ2, true, M', hg, fun _ _ _ _ _ _ => ts_nil, fun _ => ⟨en2 y, M', fun s H C cl fp q => he s H C cl fp q _, ?_, rfl, us ++ [y], by rw [h2]; exact mapO_append h1 h6, by rw [List.map_append]; rfl⟩, fun e => by cases e⟩
    rw [List.length_map, mapO_length h1, List.length_take]
    have := (List.getElem?_eq_some_iff.mp hx).1
    omega
  · obtain ⟨rfl, us, h1, rfl⟩ := hI
    rw [List.length_map, List.take_length, hf] at h1
    cases h1
    exact ⟨rfl, rfl⟩
/-- [elt for tg in iter if c], all by plain functions -/
theorem l_F {g : α → β} {pr : α → Bool} (own : List (Str × Nat)) (hi : XI X tg iter ρ M (xs.map en) M1) (hl : xs.length ≤ sizeLine)
    (turn : ∀ x, x ∈ xs → ∃ ρ2, InB X scope (fun Y => XG Y tg (en x) (own.map (·.2)) (wipeD ρ (own.map (·.2))) ρ2) ∧ InB X scope (fun Y => ∀ q acc, XTs Y ifs ρ2 ((q, .lst acc) :: M1) (pr x) ((q, .lst acc) :: M1)) ∧
      (pr x = true → InB X scope (fun Y => ∀ q acc, XE Y elt ρ2 ((q, .lst acc) :: M1) (en2 (g x)) ((q, .lst acc) :: M1)))) :
    XL X elt tg iter ifs scope own ρ M (((xs.filter pr).map g).map en2) M1 := by
  refine l_any own hi (fun i acc M' => M' = M1 ∧ acc = ((((xs.take i).filter pr).map g).map en2)) ⟨rfl, rfl⟩ (fun i d acc M' hd hI => ?_) (fun acc M2 hI => ?_)
  · obtain ⟨x, hx, rfl⟩ := map_at hd
    obtain ⟨rfl, rfl⟩ := hI
    obtain ⟨h2, h3⟩ := take_drop_at hx
    obtain ⟨ρ2, hg, ht, he⟩ := turn x (List.mem_of_getElem? hx)
    refine ⟨ρ2, pr x, M', hg, fun s H C cl fp q => ht s H C cl fp q _, fun hp => ⟨en2 (g x), M', fun s H C cl fp q => he hp s H C cl fp q _, ?_, rfl, ?_⟩, fun hp => ⟨rfl, ?_⟩⟩
    · rw [List.length_map, List.length_map]
      have h1 := List.length_filter_le pr (xs.take i)
      rw [List.length_take] at h1
      have := (List.getElem?_eq_some_iff.mp hx).1
      omega
    · rw [h2, List.filter_append, List.map_append, List.map_append, List.filter_cons, if_pos hp]; rfl
    · rw [h2, List.filter_append, List.map_append, List.map_append, List.filter_cons, if_neg (by rw [hp]; exact Bool.false_ne_true)]
      show _ = _ ++ []
      rw [List.append_nil]
  · obtain ⟨rfl, rfl⟩ := hI
    rw [List.length_map, List.take_length]
    exact ⟨rfl, rfl⟩
theorem mapS_append {f : S → α → Option (β × S)} : ∀ {xs : List α} {x : α} {s : S} {ys : List β} {s1 : S} {y : β × S}, mapS f s xs = some (ys, s1) → f s1 x = some y → mapS f s (xs ++ [x]) = some (ys ++ [y.1], y.2)
  | [], x, s, ys, s1, y, h, h2 => by cases h; show (f s x).bind _ = _; rw [h2]; rfl
  | w :: ws, x, s, ys, s1, y, h, h2 => by
    have h' : ((f s w).bind fun y => (mapS f y.2 ws).bind fun ys => some (y.1 :: ys.1, ys.2)) = some (ys, s1) := h
    obtain ⟨z, g1, g2⟩ := Option.bind_eq_some_iff.mp h'
    obtain ⟨zs, g3, g4⟩ := Option.bind_eq_some_iff.mp g2
    cases g4
    show (f s w).bind _ = _
    rw [g1]
    show (mapS f z.2 (ws ++ [x])).bind _ = _
    rw [mapS_append (ys := zs.1) (s1 := zs.2) g3 h2]; rfl
theorem mapS_split {f : S → α → Option (β × S)} : ∀ {xs ys : List α} {s : S} {r : List β × S}, mapS f s (xs ++ ys) = some r → ∃ r1, mapS f s xs = some r1 ∧ ∃ r2, mapS f r1.2 ys = some r2
  | [], ys, s, r, h => ⟨([], s), rfl, r, h⟩
  | x :: xs, ys, s, r, h => by
    have h' : ((f s x).bind fun y => (mapS f y.2 (xs ++ ys)).bind fun ys => some (y.1 :: ys.1, ys.2)) = some r := h
    obtain ⟨z, g1, g2⟩ := Option.bind_eq_some_iff.mp h'
    obtain ⟨zs, g3, g4⟩ := Option.bind_eq_some_iff.mp g2
    obtain ⟨r1, h1, r2, h2⟩ := mapS_split g3
    exact ⟨(z.1 :: r1.1, r1.2), by show (f s x).bind _ = _; rw [g1]; show (mapS f z.2 xs).bind _ = _; rw [h1]; rfl, r2, h2⟩
theorem mapS_length {f : S → α → Option (β × S)} : ∀ {xs : List α} {s : S} {r : List β × S}, mapS f s xs = some r → r.1.length = xs.length
  | [], s, r, h => by cases h; rfl
  | x :: xs, s, r, h => by
    have h' : ((f s x).bind fun y => (mapS f y.2 xs).bind fun ys => some (y.1 :: ys.1, ys.2)) = some r := h
    obtain ⟨z, g1, g2⟩ := Option.bind_eq_some_iff.mp h'
    obtain ⟨zs', g3, g4⟩ := Option.bind_eq_some_iff.mp g2
    cases g4
    show (z.1 :: zs'.1).length = _
    rw [List.length_cons, List.length_cons, mapS_length g3]
/-- [elt for tg in iter], each changes what is owned -/
theorem l_S {f : S → α → Option (β × S)} {ys : List β} (own : List (Str × Nat)) (Me : S → Mem) (hi : XI X tg iter ρ M (xs.map en) (Me s0)) (hf : mapS f s0 xs = some (ys, s1)) (hl : xs.length ≤ sizeLine)
    (turn : ∀ s x y, x ∈ xs → f s x = some y → ∃ ρ2, InB X scope (fun Y => XG Y tg (en x) (own.map (·.2)) (wipeD ρ (own.map (·.2))) ρ2) ∧ InB X scope (fun Y => ∀ q acc, XE Y elt ρ2 ((q, .lst acc) :: Me s) (en2 y.1) ((q, .lst acc) :: Me y.2))) :
    XL X elt tg iter [] scope own ρ M (ys.map en2) (Me s1) := by
  refine l_any own hi (fun i acc M' => ∃ us s, mapS f s0 (xs.take i) = some (us, s) ∧ acc = us.map en2 ∧ M' = Me s) ⟨[], s0, rfl, rfl, rfl⟩ (fun i d acc M' hd hI => ?_) (fun acc M2 hI => ?_)
  · obtain ⟨x, hx, rfl⟩ := map_at hd
    obtain ⟨us, s, h1, rfl, rfl⟩ := hI
    obtain ⟨h2, h3⟩ := take_drop_at hx
    rw [h3] at hf
    obtain ⟨r1, h4, r2, h5⟩ := mapS_split hf
    rw [h1] at h4; cases h4
    obtain ⟨y, h6, _⟩ := Option.bind_eq_some_iff.mp h5
    obtain ⟨ρ2, hg, he⟩ := turn s x y (List.mem_of_getElem? hx) h6
    refine ⟨ρ2, true, Me s, hg, fun _ _ _ _ _ _ => ts_nil, fun _ => ⟨en2 y.1, Me y.2, fun s H C cl fp q => he s H C cl fp q _, ?_, us ++ [y.1], y.2, by rw [h2]; exact mapS_append h1 h6, by rw [List.map_append]; rfl, rfl⟩, fun e => by cases e⟩
    rw [List.length_map, mapS_length h1, List.length_take]
    have := (List.getElem?_eq_some_iff.mp hx).1
    omega
  · obtain ⟨us, s, h1, rfl, rfl⟩ := hI
    rw [List.length_map, List.take_length, hf] at h1
    cases h1
    exact ⟨rfl, rfl⟩
end
/-! while -/
section
open Classical
variable {S : Type}
def whileN (c : S → Option Bool) (f : S → Option S) : Nat → S → Option S
  | 0, _ => none
  | n + 1, s => (c s).bind fun b => if b = true then (f s).bind fun s' => whileN c f n s' else some s
theorem whileN_mono {c : S → Option Bool} {f : S → Option S} : ∀ {n m : Nat} {s r : S}, n ≤ m → whileN c f n s = some r → whileN c f m s = some r
  | 0, _, _, _, _, h => by cases h
  | n + 1, 0, _, _, hle, _ => by omega
  | n + 1, m + 1, s, r, hle, h => by
    have h' : ((c s).bind fun b => if b = true then (f s).bind fun s' => whileN c f n s' else some s) = some r := h
    show ((c s).bind fun b => if b = true then (f s).bind fun s' => whileN c f m s' else some s) = some r
    obtain ⟨b, h1, h2⟩ := Option.bind_eq_some_iff.mp h'
    rw [h1]
    show (if b = true then (f s).bind fun s' => whileN c f m s' else some s) = some r
    cases b with
    | false => exact h2
    | true =>
      rw [if_pos rfl] at h2 ⊢
      obtain ⟨s', h3, h4⟩ := Option.bind_eq_some_iff.mp h2
      rw [h3]
      exact whileN_mono (by omega) h4
/-- while, to its end -/
noncomputable def whileO (c : S → Option Bool) (f : S → Option S) (s : S) : Option S :=
  if h : ∃ r n, whileN c f n s = some r then some h.choose else none
theorem whileO_iff {c : S → Option Bool} {f : S → Option S} {s r : S} : whileO c f s = some r ↔ ∃ n, whileN c f n s = some r := by
  unfold whileO
  by_cases h : ∃ r n, whileN c f n s = some r
  · rw [dif_pos h]
    obtain ⟨n, hn⟩ := h.choose_spec
    constructor
    · intro e; cases e; exact ⟨n, hn⟩
    · rintro ⟨m, hm⟩
      have h1 := whileN_mono (Nat.le_max_left n m) hn
      have h2 := whileN_mono (Nat.le_max_right n m) hm
      rw [h1] at h2
      exact h2
  · rw [dif_neg h]
    constructor
    · intro e; cases e
    · rintro ⟨n, hn⟩; exact absurd ⟨r, n, hn⟩ h
theorem whileO_step {c : S → Option Bool} {f : S → Option S} {s s' r : S} (h1 : c s = some true) (h2 : f s = some s') (h3 : whileO c f s' = some r) : whileO c f s = some r := by
  obtain ⟨n, hn⟩ := whileO_iff.mp h3
  refine whileO_iff.mpr ⟨n + 1, ?_⟩
  show ((c s).bind _) = _
  rw [h1]
  show (if true = true then (f s).bind fun s' => whileN c f n s' else some s) = some r
  rw [if_pos rfl, h2]
  exact hn
theorem whileO_stop {c : S → Option Bool} {f : S → Option S} {s : S} (h1 : c s = some false) : whileO c f s = some s := by
  refine whileO_iff.mpr ⟨1, ?_⟩
  show ((c s).bind _) = _
  rw [h1]
  rfl
end
section
variable {X : Cx} {c : Expr} {body rest : List Stmt} {ρ : Env} {M : Mem} {Z : Ends} {G0 : Hp} {pos : Pos} {S : Type} {s0 s1 : S}
theorem st_whileO {cf : S → Option Bool} {f : S → Option S} (hp : PassesOwn (model X.prog X.w) X.A X.env X.xe) (ρe : S → Env) (Me : S → Mem) (hf : whileO cf f s0 = some s1)
    (turn : ∀ s b, cf s = some b → ∃ M2, XT X c (ρe s) (Me s) b M2 ∧ (b = false → M2 = Me s) ∧ (b = true → ∀ s', f s = some s' → St X body { Z with nx := At X.K G0 (ρe s') (Me s'), ct := At X.K G0 (ρe s') (Me s'), bk := fun _ _ => False } G0 (ρe s) M2))
    (done : cf s1 = some false → St X rest Z G0 (ρe s1) (Me s1)) : St X (.While c body [] pos :: rest) Z G0 (ρe s0) (Me s0) := by
  obtain ⟨n0, hn0⟩ := whileO_iff.mp hf
  refine st_while hp (fun n ρ' M' => ∃ s, whileN cf f n s = some s1 ∧ ρ' = ρe s ∧ M' = Me s) n0 ⟨s0, hn0, rfl, rfl⟩ (fun n ρ' M' hI => ?_)
  obtain ⟨s, hs, rfl, rfl⟩ := hI
  cases n with
  | zero => cases hs
  | succ n =>
    have h' : ((cf s).bind fun b => if b = true then (f s).bind fun s' => whileN cf f n s' else some s) = some s1 := hs
    obtain ⟨b, h1, h2⟩ := Option.bind_eq_some_iff.mp h'
    obtain ⟨M2, ht, hM, hb⟩ := turn s b h1
    refine ⟨b, M2, ht, fun e => ?_, fun e => ?_⟩
    · rw [if_pos e] at h2
      obtain ⟨s', h3, h4⟩ := Option.bind_eq_some_iff.mp h2
      refine .mk fun σ H a pins sh I => ?_
      refine wpAny_mono ((hb e s' h3).go σ H a pins sh I) (fun fl sh' h => ?_) fun _ _ h => h
      have key : ∀ σ H, At X.K G0 (ρe s') (Me s') σ H → Nxt X.K G0 (fun ρ M => ∃ m, m < n + 1 ∧ ∃ s, whileN cf f m s = some s1 ∧ ρ = ρe s ∧ M = Me s) σ H := fun σ H a => ⟨_, _, ⟨n, Nat.lt_succ_self n, s', h4, rfl, rfl⟩, a⟩
      cases fl with
      | next => obtain ⟨σ', H', I', n⟩ := h; exact ⟨σ', H', I', key _ _ n⟩
      | cont => obtain ⟨σ', H', I', n⟩ := h; exact ⟨σ', H', I', key _ _ n⟩
      | brk => obtain ⟨σ', H', I', n⟩ := h; exact n.elim
      | ret v => exact h
    · subst e
      rw [if_neg Bool.false_ne_true] at h2
      cases h2
      rw [hM rfl]
      exact done h1
end

/-! joins -/
section
variable {X : Cx} {c : Expr} {a b rest : List Stmt} {ρ : Env} {M M1 : Mem} {Z : Ends} {G0 : Hp} {pos : Pos} {k : Bool}
theorem st_ifJ (ρ' : Env) (M' : Mem) (hc : XT X c ρ M k M1) (h1 : k = true → St X a { Z with nx := At X.K G0 ρ' M' } G0 ρ M1) (h2 : k = false → St X b { Z with nx := At X.K G0 ρ' M' } G0 ρ M1) (h : St X rest Z G0 ρ' M') : St X (.If c a b pos :: rest) Z G0 ρ M := by
  have key : ∀ (sts : List Stmt) (ρ : Env) (M : Mem), St X sts { Z with nx := At X.K G0 ρ' M' } G0 ρ M → St X sts { Z with nx := SemSs X rest Z } G0 ρ M := fun sts ρ M hb => .mk fun σ H at' pins sh I => by
    refine wpAny_mono (hb.go σ H at' pins sh I) (fun fl sh' q => ?_) fun _ _ h => h
    cases fl with
    | next => obtain ⟨σ', H', I', n⟩ := q; exact ⟨σ', H', I', h.go σ' H' n⟩
    | cont => exact q
    | brk => exact q
    | ret v => exact q
  exact st_if hc (fun e => key _ _ _ (h1 e)) (fun e => key _ _ _ (h2 e))
end

/-! a def that stands -/
structure Def (P : Program) (w : World) (K : PySem.W.Frag) (mg : Str → Option Value) (base : Heap) (k : Nat) (x : Str) (ps : List Str) (R : List D → Mem → D → Mem → Prop) : Prop where
  ex : ∃ f fd, FnOk P w K mg base CX0 k f fd ps (spR K R) ∧ mg x = some (.ref f) ∧ PySem.W.keepIn K (.ref f) = true ∧ Binds K fd ps []
section
variable {X : Cx} {ρ : Env} {M : Mem} {d : D} {ds : List D} {k k' : Nat} {ps : List Str} {x : Str} {p pos : Pos} {e : Expr} {es : List Expr} {R : List D → Mem → D → Mem → Prop}
theorem x_callD (F : Def X.prog X.w X.K X.mg X.base k x ps R) (hr : Room k' X.A) (hk : k ≤ k')
    (pre Mc post : Mem) {Mc' : Mem} (ha : XA X (e :: es) ρ M ds (pre ++ (Mc ++ post))) (hR : R ds Mc d Mc')
    (hg : Gl X x := by rfl) (hdb : (x == ("__debug__" : Str)) = false := by decide) (he : starEach (e :: es) X.env = (false, eval e X.env) :: starEach es X.env := by exact star_of rfl) (hpl : (backTo pos (starEach es X.env)).any (·.1) = false := by exact nostars rfl) :
    XE X (.Call (.Name x p) (e :: es) [] pos) ρ M d (pre ++ (Mc' ++ post)) := by
  obtain ⟨f, fd, h1, h2, h3, h4⟩ := F.ex
  exact x_call (E := E0) h1 (hr.mono hk) h2 h3 h4 pass0 pre Mc post ha hR hg hdb he hpl
end
end Wk

/-! Wk: forms that the printer uses. -/
namespace Wk
open PySem PySem.Spec PyProof.Rows L2 Evl

/-! what data of Lean are as plain data -/
abbrev eP2 {α β : Type} (f : α → D) (g : β → D) (x : α × β) : D := .tup [f x.1, g x.2]
abbrev eP3 {α β γ : Type} (f : α → D) (g : β → D) (h : γ → D) (x : α × β × γ) : D := .tup [f x.1, g x.2.1, h x.2.2]
abbrev eP4 {α β γ δ : Type} (f : α → D) (g : β → D) (h : γ → D) (k : δ → D) (x : α × β × γ × δ) : D := .tup [f x.1, g x.2.1, h x.2.2.1, k x.2.2.2]
abbrev eTs {α : Type} (f : α → D) (xs : List α) : D := .tup (xs.map f)
abbrev eLs {α : Type} (f : α → D) (xs : List α) : D := .lst (xs.map f)
abbrev eO {α : Type} (f : α → D) : Option α → D
  | none => .non
  | some x => f x
abbrev eU (_ : Unit) : D := .non

/-- the builtins that the text leaves alone -/
structure Blt (mg : Str → Option Value) : Prop where
  len : mg "len" = none
  range : mg "range" = none
  max : mg "max" = none
  min : mg "min" = none
  abs : mg "abs" = none
  sum : mg "sum" = none
  all : mg "all" = none
  int : mg "int" = none
  str : mg "str" = none
  list : mg "list" = none
  tuple : mg "tuple" = none
  sorted : mg "sorted" = none
  isinstance : mg "isinstance" = none
  dict : mg "dict" = none
  zip : mg "zip" = none
  enumerate : mg "enumerate" = none
  set : mg "set" = none
  bool : mg "bool" = none

/-! guards -/
def prng (lo hi : Int) : Option (List Int) := if 0 ≤ lo ∧ lo ≤ 16777216 ∧ 0 ≤ hi ∧ hi ≤ 16777216 then some (rgI lo hi) else none
theorem prng_some {lo hi : Int} {xs : List Int} (h : prng lo hi = some xs) : (0 ≤ lo ∧ lo ≤ 16777216 ∧ 0 ≤ hi ∧ hi ≤ 16777216) ∧ rgI lo hi = xs := by
  unfold prng at h; split at h
  · cases h; exact ⟨‹_›, rfl⟩
  · cases h
theorem rgI_len {lo hi : Int} : (rgI lo hi).length = (hi - lo).toNat := by unfold rgI; rw [List.length_map, List.length_range]
theorem prng_len {lo hi : Int} {xs : List Int} (h : prng lo hi = some xs) : xs.length ≤ sizeLine := by
  obtain ⟨h1, rfl⟩ := prng_some h
  rw [rgI_len, sizeLine_eq]; omega
def padd (s t : Str) : Option Str := if s.length + t.length ≤ sizeLine then some (s ++ t) else none
theorem padd_some {s t r : Str} (h : padd s t = some r) : s.length + t.length ≤ sizeLine ∧ s ++ t = r := by
  unfold padd at h; split at h
  · cases h; exact ⟨‹_›, rfl⟩
  · cases h
def pcat {α : Type} (s t : List α) : Option (List α) := if s.length + t.length ≤ sizeLine then some (s ++ t) else none
theorem pcat_some {α : Type} {s t r : List α} (h : pcat s t = some r) : s.length + t.length ≤ sizeLine ∧ s ++ t = r := by
  unfold pcat at h; split at h
  · cases h; exact ⟨‹_›, rfl⟩
  · cases h
def psnoc {α : Type} (s : List α) (t : α) : Option (List α) := if s.length < sizeLine then some (s ++ [t]) else none
theorem psnoc_some {α : Type} {s r : List α} {t : α} (h : psnoc s t = some r) : s.length < sizeLine ∧ s ++ [t] = r := by
  unfold psnoc at h; split at h
  · cases h; exact ⟨‹_›, rfl⟩
  · cases h
def prep {α : Type} (s : List α) (k : Int) : Option (List α) := if k ≤ 16777216 ∧ -(2 ^ 63) ≤ k ∧ s.length * k.toNat ≤ sizeLine then some (List.replicate k.toNat s).flatten else none
theorem prep_some {α : Type} {s r : List α} {k : Int} (h : prep s k = some r) : (k ≤ 16777216 ∧ -(2 ^ 63) ≤ k ∧ s.length * k.toNat ≤ sizeLine) ∧ (List.replicate k.toNat s).flatten = r := by
  unfold prep at h; split at h
  · cases h; exact ⟨‹_›, rfl⟩
  · cases h
def pcutS (s : Str) (lo hi : Option Int) : Option Str := if s.length ≤ sizeLine then some (cutS s lo hi) else none
theorem pcutS_some {s r : Str} {lo hi : Option Int} (h : pcutS s lo hi = some r) : s.length ≤ sizeLine ∧ cutS s lo hi = r := by
  unfold pcutS at h; split at h
  · cases h; exact ⟨‹_›, rfl⟩
  · cases h
def plen (s : Str) : Option Int := if s.length ≤ sizeLine then some (s.length : Nat) else none
theorem plen_some {s : Str} {r : Int} (h : plen s = some r) : s.length ≤ sizeLine ∧ ((s.length : Nat) : Int) = r := by
  unfold plen at h; split at h
  · cases h; exact ⟨‹_›, rfl⟩
  · cases h
def pjoin (s : Str) (ss : List Str) : Option Str := if (ss.map (·.length)).sum + ss.length * s.length ≤ 16777216 then some (Txt.join s ss) else none
theorem pjoin_some {s r : Str} {ss : List Str} (h : pjoin s ss = some r) : (ss.map (·.length)).sum + ss.length * s.length ≤ 16777216 ∧ Txt.join s ss = r := by
  unfold pjoin at h; split at h
  · cases h; exact ⟨‹_›, rfl⟩
  · cases h
/-- pop(i), 0 ≤ i: the item and what is left -/
def ppop {α : Type} (xs : List α) (i : Int) : Option (α × List α) := if 0 ≤ i ∧ xs.length < 2 ^ 63 then (xs[i.toNat]?).map fun x => (x, xs.eraseIdx i.toNat) else none
theorem ppop_some {α : Type} {xs : List α} {i : Int} {r : α × List α} (h : ppop xs i = some r) : 0 ≤ i ∧ xs.length < 2 ^ 63 ∧ xs[i.toNat]? = some r.1 ∧ xs.eraseIdx i.toNat = r.2 := by
  unfold ppop at h; split at h
  · rename_i hc
    cases e : xs[i.toNat]? with
    | none => rw [e] at h; cases h
    | some x => rw [e] at h; cases h; exact ⟨hc.1, hc.2, rfl, rfl⟩
  · cases h
/-- pop() -/
def ppopL {α : Type} (xs : List α) : Option (α × List α) := (xs[xs.length - 1]?).map fun x => (x, xs.dropLast)
theorem ppopL_some {α : Type} {xs : List α} {r : α × List α} (h : ppopL xs = some r) : xs[xs.length - 1]? = some r.1 ∧ xs.dropLast = r.2 := by
  unfold ppopL at h
  cases e : xs[xs.length - 1]? with
  | none => rw [e] at h; cases h
  | some x => rw [e] at h; cases h; exact ⟨rfl, rfl⟩
/-- xs[i] = v -/
def pset {α : Type} (xs : List α) (i : Int) (v : α) : Option (List α) := (ixN xs.length i).map fun j => xs.set j v
theorem pset_some {α : Type} {xs r : List α} {i : Int} {v : α} (h : pset xs i v = some r) : ∃ j, ixN xs.length i = some j ∧ xs.set j v = r := by
  unfold pset at h
  cases e : ixN xs.length i with
  | none => rw [e] at h; cases h
  | some j => rw [e] at h; cases h; exact ⟨j, rfl, rfl⟩
/-- the greatest of a list -/
def pmaxL (xs : List Int) : Option Int := xs.max?
/-- == of data -/
def peq (d e : D) : Option Bool := if d.ok = true ∧ SeqAt.shaped d.py = true ∧ e.ok = true ∧ SeqAt.shaped e.py = true then some (d.eqv e) else none
theorem peq_some {d e : D} {r : Bool} (h : peq d e = some r) : d.fit ∧ e.fit ∧ d.eqv e = r := by
  unfold peq at h; split at h
  · rename_i hc; cases h; exact ⟨⟨hc.1, hc.2.1⟩, ⟨hc.2.2.1, hc.2.2.2⟩, rfl⟩
  · cases h
/-- sorted ints -/
def sortI (ns : List Int) : List Int := ns.mergeSort (fun a b => decide (a ≤ b))
theorem sortI_perm (ns : List Int) : (sortI ns).Perm ns := List.mergeSort_perm _ _
theorem sortI_le (ns : List Int) : (sortI ns).Pairwise (· ≤ ·) := by
  have h := List.pairwise_mergeSort (le := fun a b : Int => decide (a ≤ b)) (fun a b c h1 h2 => by simp at *; omega) (fun a b => by simp; omega) ns
  exact h.imp fun h => by simpa using h
theorem sorted_one : ∀ {xs ys : List Int}, xs.Perm ys → xs.Pairwise (· ≤ ·) → ys.Pairwise (· ≤ ·) → xs = ys := fun {xs ys} p h1 h2 =>
  p.eq_of_pairwise (fun a b _ _ h1 h2 => Int.le_antisymm h1 h2) h1 h2

section
variable {X : Cx} {e a b c : Expr} {es : List Expr} {ρ : Env} {M M1 M2 M3 : Mem} {d d1 d2 : D} {ds : List D} {pos p apos : Pos} {i j r : Int} {q : Addr} {x : Str} {α : Type} {f : α → D} {xs ys zs : List α} {v : α} {s t u : Str}
theorem x_addSO (ha : XE X a ρ M (.str s) M1) (hb : XE X b ρ M1 (.str t) M2) (h : padd s t = some u) : XE X (.BinOp a .Add b pos) ρ M (.str u) M2 := (padd_some h).2 ▸ x_addS ha hb (padd_some h).1
theorem n_catO (ha : XE X a ρ M (.lst (xs.map f)) M1) (hb : XE X b ρ M1 (.lst (ys.map f)) M2) (h : pcat xs ys = some zs) : XN X (.BinOp a .Add b pos) ρ M (.lst (zs.map f)) M2 := by
  obtain ⟨h1, rfl⟩ := pcat_some h
  rw [List.map_append]
  exact n_cat ha hb (by rw [List.length_map, List.length_map]; exact h1)
theorem x_catTO (ha : XE X a ρ M (.tup (xs.map f)) M1) (hb : XE X b ρ M1 (.tup (ys.map f)) M2) (h : pcat xs ys = some zs) : XE X (.BinOp a .Add b pos) ρ M (.tup (zs.map f)) M2 := by
  obtain ⟨h1, rfl⟩ := pcat_some h
  rw [List.map_append]
  exact x_catT ha hb (by rw [List.length_map, List.length_map]; exact h1)
theorem n_repO {k : Int} (ha : XE X a ρ M (.lst (xs.map f)) M1) (hb : XE X b ρ M1 (.int k) M2) (h : prep xs k = some zs) : XN X (.BinOp a .Mult b pos) ρ M (.lst (zs.map f)) M2 := by
  obtain ⟨⟨h1, h2, h3⟩, rfl⟩ := prep_some h
  have e : ((List.replicate k.toNat xs).flatten).map f = (List.replicate k.toNat (xs.map f)).flatten := by rw [List.map_flatten, List.map_replicate]
  rw [e]
  exact n_rep ha hb h2 (by omega) (by rw [List.length_map]; exact h3)
theorem n_listRgO {xs : List Int} (hc : X.calm = true) (h : XR X e ρ M i j M1) (hk : prng i j = some xs) (hm : X.mg "list" = none) (hg : Gl X "list" := by rfl) (na : starEach [e] X.env = (false, eval e X.env) :: starEach [] X.env := by exact star_of rfl) :
    XN X (.Call (.Name "list" p) [e] [] pos) ρ M (.lst (xs.map D.int)) M1 := by
  obtain ⟨h1, rfl⟩ := prng_some hk
  exact n_listRg hc h (RgOk.of_le h1.1 h1.2.2.2 h1.2.1 h1.2.2.1) hm hg na
theorem x_tupRgO {xs : List Int} (hc : X.calm = true) (h : XR X e ρ M i j M1) (hk : prng i j = some xs) (hm : X.mg "tuple" = none) (hg : Gl X "tuple" := by rfl) (na : starEach [e] X.env = (false, eval e X.env) :: starEach [] X.env := by exact star_of rfl) :
    XE X (.Call (.Name "tuple" p) [e] [] pos) ρ M (.tup (xs.map D.int)) M1 := by
  obtain ⟨h1, rfl⟩ := prng_some hk
  exact x_tupRg hc h (RgOk.of_le h1.1 h1.2.2.2 h1.2.1 h1.2.2.1) hm hg na
theorem i_rng1O {tg a : Expr} {xs : List Int} (ha : XA X [a] ρ M [.int j] M1) (hk : prng 0 j = some xs) (hm : X.mg "range" = none) (hg : Gl X "range" := by rfl) (hs : starEach [a] X.env = [(false, eval a X.env)] := by exact star_one rfl) :
    XI X tg (.Call (.Name "range" p) [a] [] pos) ρ M (xs.map D.int) M1 := by
  obtain ⟨h1, rfl⟩ := prng_some hk
  exact i_rng1 ha (by omega) (by omega) hm hg hs
theorem i_rng2O {tg a b : Expr} {xs : List Int} (ha : XA X [a, b] ρ M [.int i, .int j] M1) (hk : prng i j = some xs) (hm : X.mg "range" = none) (hg : Gl X "range" := by rfl) (hs : starEach [a, b] X.env = [(false, eval a X.env), (false, eval b X.env)] := by exact star_two rfl rfl) (hs2 : starEach [b] X.env = [(false, eval b X.env)] := by exact star_one rfl) :
    XI X tg (.Call (.Name "range" p) [a, b] [] pos) ρ M (xs.map D.int) M1 := by
  obtain ⟨h1, rfl⟩ := prng_some hk
  exact i_rng2 ha (by omega) hm hg hs hs2
theorem x_slSO {lo hi : Option Expr} {l w : Option Int} {p2 : Pos} (ha : XE X a ρ M (.str s) M1) (hlo : XO X lo ρ M1 l M2) (hhi : XO X hi ρ M2 w M3) (h : pcutS s l w = some t) : XE X (.Subscript a (.Slice lo hi none p2) pos) ρ M (.str t) M3 :=
  (pcutS_some h).2 ▸ x_slS ha hlo hhi (pcutS_some h).1
theorem cutD_map {α β : Type} {f : α → β} {xs : List α} {l w : Option Int} : cutD (xs.map f) l w = (cutD xs l w).map f := by
  unfold cutD; rw [List.length_map, List.map_take, List.map_drop]
theorem n_slLm {lo hi : Option Expr} {l w : Option Int} {p2 : Pos} (ha : XE X a ρ M (.lst (xs.map f)) M1) (hlo : XO X lo ρ M1 l M2) (hhi : XO X hi ρ M2 w M3) : XN X (.Subscript a (.Slice lo hi none p2) pos) ρ M (.lst ((cutD xs l w).map f)) M3 := by
  rw [← cutD_map]; exact n_slL ha hlo hhi
theorem n_slRm {lo hi : Option Expr} {l w : Option Int} {p2 : Pos} (ha : XE X a ρ M (.rlst (xs.map f)) M1) (hlo : XO X lo ρ M1 l M2) (hhi : XO X hi ρ M2 w M3) : XN X (.Subscript a (.Slice lo hi none p2) pos) ρ M (.lst ((cutD xs l w).map f)) M3 := by
  rw [← cutD_map]; exact n_slR ha hlo hhi
theorem n_slOm {lo hi : Option Expr} {l w : Option Int} {p2 : Pos} (k : Nat) (ha : XE X a ρ M (.adr q) M1) (hlo : XO X lo ρ M1 l M2) (hhi : XO X hi ρ M2 w M3) (hk : M3[k]? = some (q, .lst (xs.map f))) : XN X (.Subscript a (.Slice lo hi none p2) pos) ρ M (.lst ((cutD xs l w).map f)) M3 := by
  rw [← cutD_map]; exact n_slO k ha hlo hhi hk
theorem x_slTm {lo hi : Option Expr} {l w : Option Int} {p2 : Pos} (ha : XE X a ρ M (.tup (xs.map f)) M1) (hlo : XO X lo ρ M1 l M2) (hhi : XO X hi ρ M2 w M3) : XE X (.Subscript a (.Slice lo hi none p2) pos) ρ M (.tup ((cutD xs l w).map f)) M3 := by
  rw [← cutD_map]; exact x_slT ha hlo hhi
theorem x_lenm (ha : XA X [a] ρ M [d] M1) (hq : SeqD M1 d (xs.map f)) (hm : X.mg "len" = none) (hg : Gl X "len" := by rfl) (he : starEach [a] X.env = (false, eval a X.env) :: starEach [] X.env := by exact star_of rfl) :
    XE X (.Call (.Name "len" p) [a] [] pos) ρ M (.int (xs.length : Nat)) M1 := by
  have := x_len (p := p) (pos := pos) ha hq hm hg he
  rw [List.length_map] at this
  exact this
theorem x_lenSO (ha : XA X [a] ρ M [.str s] M1) (h : plen s = some r) (hm : X.mg "len" = none) (hg : Gl X "len" := by rfl) (he : starEach [a] X.env = (false, eval a X.env) :: starEach [] X.env := by exact star_of rfl) :
    XE X (.Call (.Name "len" p) [a] [] pos) ρ M (.int r) M1 := (plen_some h).2 ▸ x_lenS ha (plen_some h).1 hm hg he
theorem x_joinO {ss : List Str} (ho : XE X a ρ M (.str s) M1) (ha : XA X [e] ρ M1 [d] M2) (hq : SeqD M2 d (ss.map D.str)) (h : pjoin s ss = some t)
    (hbase : attributeBase a "join" X.env (eval a X.env) = eval a X.env := by exact base_of rfl)
    (hfew : ((backTo pos (starEach [e] X.env)).all (fun x => !x.1) && (backToKw pos (keywordEach [] X.env)).all (fun x => x.1.isSome)
      && decide ([e].length + ([] : List Keyword).length + (if ([] : List Keyword).isEmpty then 0 else 1) < 30)) = true := by exact fewargs rfl (by decide))
    (hline : (apos.endLine == pos.line) = true := by rfl) (hs : starEach [e] X.env = (false, eval e X.env) :: starEach [] X.env := by exact star_of rfl) (hplain : (backTo pos (starEach [] X.env)).any (·.1) = false := by exact nostars rfl) :
    XE X (.Call (.Attribute a "join" apos) [e] [] pos) ρ M (.str t) M2 := (pjoin_some h).2 ▸ x_join ho ha hq (pjoin_some h).1 hbase hfew hline hs hplain
theorem eraseIdx_mapD {α β : Type} {f : α → β} : ∀ {xs : List α} {n : Nat}, (xs.map f).eraseIdx n = (xs.eraseIdx n).map f
  | [], _ => rfl
  | _ :: _, 0 => rfl
  | x :: xs, n + 1 => congrArg (f x :: ·) eraseIdx_mapD
theorem x_popO (k : Nat) {y : α × List α} (ho : XE X a ρ M (.adr q) M1) (ha : XA X [e] ρ M1 [.int i] M2) (hk1 : M1[k]? = some (q, .lst ds)) (hk : M2[k]? = some (q, .lst (xs.map f))) (hd : ppop xs i = some y)
    (hbase : attributeBase a "pop" X.env (eval a X.env) = eval a X.env := by exact base_of rfl)
    (hfew : ((backTo pos (starEach [e] X.env)).all (fun x => !x.1) && (backToKw pos (keywordEach [] X.env)).all (fun x => x.1.isSome)
      && decide ([e].length + ([] : List Keyword).length + (if ([] : List Keyword).isEmpty then 0 else 1) < 30)) = true := by exact fewargs rfl (by decide))
    (hline : (apos.endLine == pos.line) = true := by rfl) (hs : starEach [e] X.env = (false, eval e X.env) :: starEach [] X.env := by exact star_of rfl) (hplain : (backTo pos (starEach [] X.env)).any (·.1) = false := by exact nostars rfl) :
    XE X (.Call (.Attribute a "pop" apos) [e] [] pos) ρ M (f y.1) (M2.set k (q, .lst (y.2.map f))) := by
  obtain ⟨h0, h1, h2, h3⟩ := ppop_some hd
  have e1 : ((i.toNat : Nat) : Int) = i := by omega
  rw [← h3, ← eraseIdx_mapD]
  exact x_popAt k (n := i.toNat) ho (by rw [e1]; exact ha) hk1 hk (by rw [List.getElem?_map, h2]; rfl) hbase hfew hline hs hplain (by rw [List.length_map]; exact h1)
theorem x_appendO (k : Nat) (ho : XE X a ρ M (.adr q) M1) (ha : XA X [e] ρ M1 [f v] M2) (hk1 : M1[k]? = some (q, .lst ds)) (hk : M2[k]? = some (q, .lst (xs.map f))) (h : psnoc xs v = some ys)
    (hbase : attributeBase a "append" X.env (eval a X.env) = eval a X.env := by exact base_of rfl)
    (hfew : ((backTo pos (starEach [e] X.env)).all (fun x => !x.1) && (backToKw pos (keywordEach [] X.env)).all (fun x => x.1.isSome)
      && decide ([e].length + ([] : List Keyword).length + (if ([] : List Keyword).isEmpty then 0 else 1) < 30)) = true := by exact fewargs rfl (by decide))
    (hline : (apos.endLine == pos.line) = true := by rfl) (hs : starEach [e] X.env = (false, eval e X.env) :: starEach [] X.env := by exact star_of rfl) (hplain : (backTo pos (starEach [] X.env)).any (·.1) = false := by exact nostars rfl) :
    XE X (.Call (.Attribute a "append" apos) [e] [] pos) ρ M .non (M2.set k (q, .lst (ys.map f))) := by
  obtain ⟨h1, rfl⟩ := psnoc_some h
  rw [List.map_append]
  exact x_append k ho ha hk1 hk (by rw [List.length_map]; exact h1) hbase hfew hline hs hplain
theorem x_extendO (k : Nat) (ho : XE X a ρ M (.adr q) M1) (ha : XA X [e] ρ M1 [.lst (zs.map f)] M2) (hk1 : M1[k]? = some (q, .lst ds)) (hk : M2[k]? = some (q, .lst (xs.map f))) (h : pcat xs zs = some ys)
    (hbase : attributeBase a "extend" X.env (eval a X.env) = eval a X.env := by exact base_of rfl)
    (hfew : ((backTo pos (starEach [e] X.env)).all (fun x => !x.1) && (backToKw pos (keywordEach [] X.env)).all (fun x => x.1.isSome)
      && decide ([e].length + ([] : List Keyword).length + (if ([] : List Keyword).isEmpty then 0 else 1) < 30)) = true := by exact fewargs rfl (by decide))
    (hline : (apos.endLine == pos.line) = true := by rfl) (hs : starEach [e] X.env = (false, eval e X.env) :: starEach [] X.env := by exact star_of rfl) (hplain : (backTo pos (starEach [] X.env)).any (·.1) = false := by exact nostars rfl) :
    XE X (.Call (.Attribute a "extend" apos) [e] [] pos) ρ M .non (M2.set k (q, .lst (ys.map f))) := by
  obtain ⟨h1, rfl⟩ := pcat_some h
  rw [List.map_append]
  exact x_extend k ho ha hk1 hk (by rw [List.length_map, List.length_map]; exact h1) hbase hfew hline hs hplain
theorem st_setO {rest : List Stmt} {Z : Ends} {G0 : Hp} {oe ie : Expr} {p2 : Pos} (kk : Nat) (he : XE X e ρ M (f v) M1) (ho : XE X oe ρ M1 (.adr q) M2) (hi : XE X ie ρ M2 (.int i) M3) (hk : M3[kk]? = some (q, .lst (xs.map f))) (hj : pset xs i v = some ys)
    (k : St X rest Z G0 ρ (M3.set kk (q, .lst (ys.map f)))) (hs : swapsWithSole [.Subscript oe ie p2] e pos.line X.env = pure false := by exact sws_of rfl) (hw : swappedStores [.Subscript oe ie p2] e X.env = pure none := by first | exact sst_of1 rfl rfl | exact sst_of rfl | rfl)
    (h1 : (assignEach [.Subscript oe ie p2] X.env).map (·.2) = [assign (.Subscript oe ie p2) X.env] := by exact asg_one rfl)
    (ha : ∀ v, assign (.Subscript oe ie p2) X.env v = (do
      let ov ← holding [v] (eval oe X.env)
      let iv ← holding [v, ov] (eval ie X.env)
      standAt p2
      holding [v, ov, iv] (setItem ov iv v)
      release [v, ov, iv] []) := by exact asg_sub rfl) : St X (.Assign [.Subscript oe ie p2] e pos :: rest) Z G0 ρ M := by
  obtain ⟨j, h2, rfl⟩ := pset_some hj
  rw [List.map_set] at k
  exact st_setL kk he ho hi hk (by rw [List.length_map]; exact h2) k hs hw h1 ha
theorem n_sortedO {ns : List Int} (ha : XA X [a] ρ M [d] M1) (hq : SeqD M1 d (ns.map D.int)) (ht : ∀ ds, d ≠ .tup ds := by intro _ h; cases h) (hm : X.mg "sorted" = none) (hg : Gl X "sorted" := by rfl) (he : starEach [a] X.env = (false, eval a X.env) :: starEach [] X.env := by exact star_of rfl) :
    XN X (.Call (.Name "sorted" p) [a] [] pos) ρ M (.lst ((sortI ns).map D.int)) M1 := n_sortedI ha hq (fun ns' h1 h2 => sorted_one (h1.trans (sortI_perm ns).symm) h2 (sortI_le ns)) ht hm hg he
theorem x_maxO {ns : List Int} {m : Int} (hc : X.calm = true) (ha : XA X [a] ρ M [.lst (ns.map D.int)] M1) (h : pmaxL ns = some m) (hm : X.mg "max" = none) (hg : Gl X "max" := by rfl) (he : starEach [a] X.env = (false, eval a X.env) :: starEach [] X.env := by exact star_of rfl) :
    XE X (.Call (.Name "max" p) [a] [] pos) ρ M (.int m) M1 := by
  have h' := List.max?_eq_some_iff.mp h
  exact x_maxL hc ha h'.1 h'.2 hm hg he
theorem c_eqO (hu : X.A.units + 64 < cLine) {k : Bool} (ha : XE X a ρ M d1 M1) (hb : XE X b ρ M1 d2 M2) (h : peq d1 d2 = some k) : XC X .Eq a b ρ M (.bl k) M2 := by
  obtain ⟨h1, h2, rfl⟩ := peq_some h
  exact c_eqD hu ha hb h1 h2
theorem c_neO (hu : X.A.units + 64 < cLine) {k : Bool} (ha : XE X a ρ M d1 M1) (hb : XE X b ρ M1 d2 M2) (h : peq d1 d2 = some k) : XC X .NotEq a b ρ M (.bl (!k)) M2 := by
  obtain ⟨h1, h2, rfl⟩ := peq_some h
  exact c_neD hu ha hb h1 h2
theorem Wd.dropN {K : PySem.W.Frag} {G H : Hp} {M : Mem} (w : Wd K G M H) (n : Nat) : Wd K G (M.drop n) H := w.sub (List.drop_sublist n M)
theorem At.dropN {K : PySem.W.Frag} {G0 H : Hp} {σ : L2.St} {ρ : Env} {M : Mem} (w : At K G0 ρ M σ H) (n : Nat) : At K G0 ρ (M.drop n) σ H := w.drop _ (List.drop_sublist n M)
end
end Wk

/-! Wk: further forms that the printer uses. -/
namespace Wk
open PySem PySem.Spec PyProof.Rows L2 Evl
theorem nf {c : Bool} (h : c = false) : ¬ c = true := by rw [h]; exact Bool.false_ne_true
section
variable {X : Cx} {e a b c : Expr} {es : List Expr} {ρ : Env} {M M1 M2 M3 : Mem} {d d1 d2 : D} {ds : List D} {pos p apos : Pos} {i j r : Int} {q : Addr} {x : Str} {α β : Type} {f : α → D} {xs ys zs : List α} {v : α} {s t u : Str}
theorem isNon_opt (h : ∀ x, (f x).isNon = false) {o : Option α} : (eO f o).isNon = o.isNone := by
  cases o with
  | none => rfl
  | some x => exact h x
theorem c_isNO {k : Bool} (ho : d.isNon = k) (ha : XE X a ρ M d M1) (hb : XE X b ρ M1 .non M2) : XC X .Is a b ρ M (.bl k) M2 := ho ▸ c_isN ha hb
theorem c_notNO {k : Bool} (ho : d.isNon = k) (ha : XE X a ρ M d M1) (hb : XE X b ρ M1 .non M2) : XC X .IsNot a b ρ M (.bl (!k)) M2 := ho ▸ c_notN ha hb
/-- a list, frozen or owned -/
inductive LsD (M : Mem) : D → List D → Prop where
  | lst (ds : List D) : LsD M (.lst ds) ds
  | own (k : Nat) (p : Addr) (ds : List D) (h : M[k]? = some (p, .lst ds)) : LsD M (.adr p) ds
theorem LsD.get {K : PySem.W.Frag} {G H : Hp} {x : V} (h : LsD M d ds) (w : Wd K G M H) (r : Rep K G d x) : ∃ a vs, x = .ref a ∧ H a = some (.lst vs) ∧ RepL K G ds vs := by
  cases h with
  | lst => obtain ⟨a, vs, rfl, h, rv⟩ := of_lst r; exact ⟨a, vs, rfl, w.ex _ _ h, rv⟩
  | own k p _ hk => obtain ⟨vs, hv, rv⟩ := (w.at hk).2; exact ⟨p, vs, of_adr r, hv, rv⟩
theorem n_catQ (ha : XE X a ρ M d1 M1) (hb : XE X b ρ M1 d2 M2) (qa : LsD M2 d1 (xs.map f)) (qb : LsD M2 d2 (ys.map f)) (h : pcat xs ys = some zs) : XN X (.BinOp a .Add b pos) ρ M (.lst (zs.map f)) M2 := by
  obtain ⟨h1, rfl⟩ := pcat_some h
  rw [List.map_append]
  exact XN.bin (pe_op op_cat pe_sem pe_sem) ha hb fun G H x y Q w r1 r2 q => by
    obtain ⟨p, vs, rfl, hp, rv⟩ := qa.get w r1
    obtain ⟨p2, vs2, rfl, hp2, rv2⟩ := qb.get w r2
    exact ⟨p, p2, vs, vs2, rfl, rfl, hp, hp2, by rw [rv.length, rv2.length, List.length_map, List.length_map]; exact h1, fun z hz => q z G _ (Ex.refl G) (wd_newL w hz (rv.append rv2))⟩
/-- what is read as plain data -/
inductive RdD (M : Mem) : D → D → Prop where
  | self (d : D) : RdD M d d
  | own (k : Nat) (p : Addr) (ds : List D) (h : M[k]? = some (p, .lst ds)) : RdD M (.adr p) (.lst ds)
theorem RdD.dp {K : PySem.W.Frag} {G H : Hp} {x : V} {d' : D} (h : RdD M d d') (w : Wd K G M H) (r : Rep K G d x) (hk : d'.ok = true) : Dp K H x d'.py := by
  cases h with
  | self => exact rep_dp w.ex d x hk r
  | own k p ds hm =>
    obtain ⟨vs, hv, rv⟩ := (w.at hm).2
    rw [of_adr r]
    unfold D.ok at hk
    unfold D.py
    exact .lst (SqL.of hv) (rep_dps w.ex ds vs hk rv)
theorem c_eqQ (hu : X.A.units + 64 < cLine) {k : Bool} {e1 e2 : D} (ha : XE X a ρ M d1 M1) (hb : XE X b ρ M1 d2 M2) (qa : RdD M2 d1 e1) (qb : RdD M2 d2 e2) (h : peq e1 e2 = some k) : XC X .Eq a b ρ M (.bl k) M2 := by
  obtain ⟨h1, h2, rfl⟩ := peq_some h
  exact XC.bin (op_eqD hu) ha hb fun G H x y Q w r1 r2 q => ⟨e1.py, e2.py, qa.dp w r1 h1.1, qb.dp w r2 h2.1, h1.2, h2.2, q.use (Ex.refl _) w rep_bl⟩
theorem c_neQ (hu : X.A.units + 64 < cLine) {k : Bool} {e1 e2 : D} (ha : XE X a ρ M d1 M1) (hb : XE X b ρ M1 d2 M2) (qa : RdD M2 d1 e1) (qb : RdD M2 d2 e2) (h : peq e1 e2 = some k) : XC X .NotEq a b ρ M (.bl (!k)) M2 := by
  obtain ⟨h1, h2, rfl⟩ := peq_some h
  exact XC.bin (op_neD hu) ha hb fun G H x y Q w r1 r2 q => ⟨e1.py, e2.py, qa.dp w r1 h1.1, qb.dp w r2 h2.1, h1.2, h2.2, q.use (Ex.refl _) w rep_bl⟩
/-- a comprehension that may leave items out -/
def filO (f : α → Option (Option β)) : List α → Option (List β)
  | [] => some []
  | x :: xs => (f x).bind fun y => (filO f xs).bind fun ys => some (y.toList ++ ys)
theorem filO_append {f : α → Option (Option β)} : ∀ {xs : List α} {x : α} {ys : List β} {y : Option β}, filO f xs = some ys → f x = some y → filO f (xs ++ [x]) = some (ys ++ y.toList)
  | [], x, ys, y, h, h2 => by
    cases h
    show (f x).bind _ = _
    rw [h2]
    cases y <;> rfl
  | w :: ws, x, ys, y, h, h2 => by
    have h' : ((f w).bind fun y => (filO f ws).bind fun ys => some (y.toList ++ ys)) = some ys := h
    obtain ⟨z, g1, g2⟩ := Option.bind_eq_some_iff.mp h'
    obtain ⟨zs, g3, g4⟩ := Option.bind_eq_some_iff.mp g2
    cases g4
    show (f w).bind _ = _
    rw [g1]
    show (filO f (ws ++ [x])).bind _ = _
    rw [filO_append g3 h2, List.append_assoc]; rfl
theorem filO_split {f : α → Option (Option β)} : ∀ {xs ys : List α} {zs : List β}, filO f (xs ++ ys) = some zs → ∃ us ws, filO f xs = some us ∧ filO f ys = some ws ∧ zs = us ++ ws
  | [], ys, zs, h => ⟨[], zs, rfl, h, rfl⟩
  | x :: xs, ys, zs, h => by
    have h' : ((f x).bind fun y => (filO f (xs ++ ys)).bind fun ys => some (y.toList ++ ys)) = some zs := h
    obtain ⟨z, g1, g2⟩ := Option.bind_eq_some_iff.mp h'
    obtain ⟨zs', g3, g4⟩ := Option.bind_eq_some_iff.mp g2
    cases g4
    obtain ⟨us, ws, h1, h2, rfl⟩ := filO_split g3
    exact ⟨z.toList ++ us, ws, by show (f x).bind _ = _; rw [g1]; show (filO f xs).bind _ = _; rw [h1]; rfl, h2, by rw [List.append_assoc]⟩
theorem filO_length {f : α → Option (Option β)} : ∀ {xs : List α} {ys : List β}, filO f xs = some ys → ys.length ≤ xs.length
  | [], ys, h => by cases h; exact Nat.le_refl _
  | x :: xs, ys, h => by
    have h' : ((f x).bind fun y => (filO f xs).bind fun ys => some (y.toList ++ ys)) = some ys := h
    obtain ⟨z, g1, g2⟩ := Option.bind_eq_some_iff.mp h'
    obtain ⟨zs', g3, g4⟩ := Option.bind_eq_some_iff.mp g2
    have := filO_length g3
    cases g4
    cases z with
    | none => show zs'.length ≤ _; rw [List.length_cons]; omega
    | some z => show (z :: zs').length ≤ _; rw [List.length_cons, List.length_cons]; omega
theorem l_P {tg iter elt : Expr} {ifs : List Expr} {scope : Scope} {en : α → D} {en2 : β → D} {f : α → Option (Option β)} {ys : List β} (own : List (Str × Nat)) (hi : XI X tg iter ρ M (xs.map en) M1) (hf : filO f xs = some ys) (hl : xs.length ≤ sizeLine)
    (turn : ∀ x y, x ∈ xs → f x = some y → ∃ ρ2 k, InB X scope (fun Y => XG Y tg (en x) (own.map (·.2)) (wipeD ρ (own.map (·.2))) ρ2) ∧ InB X scope (fun Y => ∀ q acc, XTs Y ifs ρ2 ((q, .lst acc) :: M1) k ((q, .lst acc) :: M1)) ∧
      (k = true → ∃ z, y = some z ∧ InB X scope (fun Y => ∀ q acc, XE Y elt ρ2 ((q, .lst acc) :: M1) (en2 z) ((q, .lst acc) :: M1))) ∧ (k = false → y = none)) : XL X elt tg iter ifs scope own ρ M (ys.map en2) M1 := by
  refine l_any own hi (fun i acc M' => M' = M1 ∧ ∃ us, filO f (xs.take i) = some us ∧ acc = us.map en2) ⟨rfl, [], rfl, rfl⟩ (fun i d acc M' hd hI => ?_) (fun acc M2 hI => ?_)
  · obtain ⟨x, hx, rfl⟩ := map_at hd
    obtain ⟨rfl, us, h1, rfl⟩ := hI
    obtain ⟨h2, h3⟩ := take_drop_at hx
    rw [h3] at hf
    obtain ⟨us', ws, h4, h5, _⟩ := filO_split hf
    obtain ⟨y, h6, _⟩ := Option.bind_eq_some_iff.mp h5
    obtain ⟨ρ2, k, hg, ht, he, hn⟩ := turn x y (List.mem_of_getElem? hx) h6
    refine ⟨ρ2, k, M', hg, fun s H C cl fp q => ht s H C cl fp q _, fun hk => ?_, fun hk => ⟨rfl, us, ?_, rfl⟩⟩
    · obtain ⟨z, rfl, hz⟩ := he hk
      refine ⟨en2 z, M', fun s H C cl fp q => hz s H C cl fp q _, ?_, rfl, us ++ [z], by rw [h2]; exact filO_append h1 h6, by rw [List.map_append]; rfl⟩
      rw [List.length_map]
      have h7 := filO_length h1
      rw [List.length_take] at h7
      have := (List.getElem?_eq_some_iff.mp hx).1
      omega
    · have := hn hk
      subst this
      rw [h2]
      have h7 := filO_append h1 h6
      rw [h7]
      show some (us ++ []) = some us
      rw [List.append_nil]
  · obtain ⟨rfl, us, h1, rfl⟩ := hI
    rw [List.length_map, List.take_length, hf] at h1
    cases h1
    exact ⟨rfl, rfl⟩
end
end Wk

/-! Wk: dicts with tuples of texts as keys, list of a text, index, isinstance. -/
namespace Wk
open PySem PySem.Spec PyProof.Rows L2 Evl

/-! ### d.values() -/
def valsO (p d : Addr) : HO := .ext fun h => h.IsValuesView p d
theorem valsO_ok {P : Program} {w : World} {H : Hp} {h : Heap} {p d : Addr} (e : h.get? p = some { cls := .type "dict_values", data := .fields #[.ref d] }) : ObjOk P w H h p (valsO p d) :=
  ⟨⟨_, e, rfl, rfl⟩, ⟨_, e⟩, fun h1 h2 x k => let ⟨o, ho, r⟩ := x; ⟨o, k o ho, r⟩⟩
theorem tuple_of_kdl {prog : Program} {w : World} {A : Around} {E : Value → Shared → Prop} {s : Shared} {T : String} {r d : Addr} {n : Nat} {P : Nat → Value → Prop} {OK : Heap → Prop} {Q : Value → Shared → Prop}
    (K : PySem.W.KdlSrc prog w T r d n P OK) (hh : A.handled = none) (hok : OK s.heap) (hn : n ≤ sizeLine)
    (hQ : ∀ (h' : Heap) (tk : Nat) (acc : Array Value), (∀ b o, s.heap.get? b = some o → h'.get? b = some o) → ItemsOf P acc n →
      Q (.ref h'.objs.size) { s with heap := h'.push { cls := .type "tuple", data := .seq acc }, toks := tk }) :
    wpAny (model prog w) A (call (.type "tuple") [.ref r]) Q E s := by
  refine callType_codes (Q₁ := fun obj s₁ => s₁.TypeIs obj "tuple" ∧ Q obj s₁) F.called_tuple (F.typeCall_tuple_1 _) F.entry_object_init ?_ fun obj s₁ h₁ => ?_
  · refine codeAny_of_tree ?_
    show wpAny _ A.in1.in1 (do checkBuiltinCall "tuple.__new__" ⟨[.type "tuple", .ref r], []⟩; again (.builtin "tuple.__new__" ⟨[.type "tuple", .ref r], []⟩)) _ _ s
    refine wpAny_bind (wpAny_of_eq (F.newCall_tuple_1 _) (wpAny_pure ⟨plainId_quiet F.plain_tuple_new _, codeAny_builtin F.entry_tuple_new ?_⟩))
    rw [Around.under_plainId F.plain_tuple_new _]
    have hsub := sub_tuple_self
    have hinit := init_tuple_lookup
    have hmh := madeHere_tuple
    have hTI : s.TypeIs (.ref r) T := K.type s hok
    have hh1 : A.in1.handled = none := hh
    have hb : (Value.type T == Value.type "tuple") = false := K.notTuple
    wp_walk using wpAny_typeOf hTI, PySem.W.kdu_collect (A := A.in1.in1) K hh1 hok hn
    intro h' tk acc hk hacc
    show wpAny _ _ (Builtin.Tuple.tupleExact acc.toList.toArray >>= fun v => ret v) _ _ _
    unfold Builtin.Tuple.tupleExact
    refine wpAny_bind (wpAny_newObj_type ?_ (by show acc.toList.toArray.size ≤ sizeLine; simp only [Array.toArray_toList]; rw [hacc.1]; exact hn))
    refine wpAny_pure ?_
    have e : acc.toList.toArray = acc := by simp
    rw [e]
    exact ⟨⟨_, Heap.get?_push_size _ rfl, rfl⟩, hQ h' tk acc hk hacc⟩
  · exact ⟨h₁.1, F.args_object_init_2 obj _, object_init_meets F.called_tuple.init.lookup F.called_tuple.made (by decide) prog w A.in1 _ s₁ ⟨h₁.1, rfl, h₁.2⟩⟩
section
variable {X : Cx}
theorem mt_valuesT : MtR X "dict.values" (fun x xs H Q => ∃ (a : Addr) (kvs : List (List L2.Key × V)), x = .ref a ∧ xs = [] ∧ H a = some (.dT kvs) ∧ ∀ p, H p = none → Q (.ref p) (upd H p (valsO p a))) := by
  intro pins s σ H x xs v us Q I rx rxs h
  obtain ⟨a, kvs, rfl, rfl, ha, q⟩ := h
  cases rx
  cases rxs
  obtain ⟨z, hd, xs', rel, o, es, ep, ho, hx, hdat, _⟩ := dt_of I.hok ha
  have hf : H s.heap.objs.size = none := I.hok.fresh (Nat.le_refl _)
  have hr : s.heap.DictRaw a es ep := ⟨o, ho, hx, hdat⟩
  refine call_meetsIn F.slot_dict_values hr.typeIs F.entry_dict_values (F.args_dict_values_1 _) (meets_dict_values_raw a hd) ⟨⟨es, ep, hr⟩, ?_⟩
  exact ⟨.ref s.heap.objs.size, upd H s.heap.objs.size (valsO s.heap.objs.size a), I.laid (t' := s.toks) (fun b u e => Heap.get?_push_of_some _ e) (Nat.le_refl _) (valsO_ok (Heap.get?_push_size _ rfl)), rfl, q _ hf⟩
theorem call_tuple_vals (hc : X.calm = true) : CallR X (.type "tuple") (fun xs H Q => ∃ p a kvs, xs = [V.ref p] ∧ H p = some (valsO p a) ∧ H a = some (.dT kvs) ∧ NewT H (kvs.map (·.2)) Q) := by
  intro pins s σ H xs us Q I r h
  obtain ⟨p, d, kvs, rfl, hp, hd, q⟩ := h
  obtain ⟨u, rfl, rx⟩ := r.one
  cases rx
  obtain ⟨hv, _, _⟩ := (show ObjOk X.prog X.w H s.heap p (valsO p d) from I.hok p _ hp)
  obtain ⟨z, hs, ks, pr, o, es, ep, ho, hx, hdt, he, hn⟩ := dt_of I.hok hd
  have l1 : es.size = ks.length := size_of_entries he
  have l2 : kvs.length = ks.length := Paired.length pr
  refine tuple_of_kdl (PySem.KdlSrc.rawValues (es := es) (ep := ep)) (I.ok.hd hc) ⟨hv, o, ho, hx, hdt⟩ (by omega) fun h' tk acc' kp it => ?_
  have ea : acc'.toList = ks.map fun x => x.2.2 := by
    have hl : acc'.toList.length = ks.length := by rw [Array.length_toList, it.1]; exact l1
    apply List.ext_getElem?
    intro j
    rw [List.getElem?_map]
    cases hj : acc'.toList[j]? with
    | none =>
      have h1 := List.getElem?_eq_none_iff.mp hj
      rw [List.getElem?_eq_none (by omega)]
      all_goals rfl
    | some v =>
      obtain ⟨hi, hv⟩ := it.2 j v (by rw [← Array.getElem?_toList]; exact hj)
      have hen : es[j]? = some es[j] := Array.getElem?_eq_getElem hi
      have qe := entry_at he j
      rw [hen] at qe
      cases hb : ks[j]? with
      | none =>
        rw [hb] at qe
        exact nomatch (show some es[j] = none from qe)
      | some b =>
        rw [hb] at qe
        have e2 : es[j] = entryOfKey (tupleKind (mixKind X.prog X.w)) b := Option.some.inj qe
        rw [hv, e2]
        all_goals rfl
  have rv : ∀ {kvs : List (List L2.Key × V)} {ks : List (List L2.Key × Addr × Value)}, KT H kvs ks → Vals (kvs.map (·.2)) (ks.map fun x => x.2.2) := by
    intro kvs ks pr
    induction pr with
    | nil => exact .nil
    | cons h t ih => exact .cons h.2.2 ih
  have I1 : Inv X pins σ H { s with heap := h', toks := tk } := I.kept (t' := tk) kp
  have := new_tup (h' := h') (tk := tk) (s := s) (xs := kvs.map (·.2)) (its := ks.map fun x => x.2.2) (Q := Q) I1 (rv pr) (by rw [List.length_map]; omega) q
  rw [← ea, Array.toArray_toList] at this
  exact this
end

/-! ### data: keys -/
def kD : L2.Key → D
  | .inl i => .int i
  | .inr s => .str s
theorem rep_keys {K : PySem.W.Frag} {G : Hp} : ∀ {ks : List L2.Key} {vs : List V}, RepL K G (ks.map kD) vs → vs = ks.map kV
  | [], _, h => by unfold RepL at h; exact h
  | .inl i :: ks, _, h => by
    rw [List.map_cons] at h
    unfold RepL at h
    obtain ⟨v, r, rfl, a, b⟩ := h
    rw [List.map_cons, ← rep_keys b, of_int (show Rep K G (.int i) v from a)]; rfl
  | .inr i :: ks, _, h => by
    rw [List.map_cons] at h
    unfold RepL at h
    obtain ⟨v, r, rfl, a, b⟩ := h
    rw [List.map_cons, ← rep_keys b, of_str (show Rep K G (.str i) v from a)]; rfl
/-- a key of parts -/
abbrev kP2 {α β : Type} (f : α → L2.Key) (g : β → L2.Key) (x : α × β) : List L2.Key := [f x.1, g x.2]
theorem kP2_ss {a b : Str × Str} (h : kP2 Sum.inr Sum.inr a = kP2 Sum.inr Sum.inr b) : a = b := by
  obtain ⟨x, y⟩ := a
  obtain ⟨z, w⟩ := b
  simp only [kP2, List.cons.injEq, Sum.inr.injEq, and_true] at h
  rw [h.1, h.2]
/-- an owned dict -/
abbrev mDT {κ α : Type} (kf : κ → List L2.Key) (vf : α → D) (al : List (κ × α)) : MO := .dT (al.map fun p => kf p.1) (al.map fun p => vf p.2)
section
variable {κ α : Type} [DecidableEq κ]
def dget (al : List (κ × α)) (k : κ) : Option α := (al.find? fun p => decide (p.1 = k)).map (·.2)
def dputT (al : List (κ × α)) (k : κ) (v : α) : List (κ × α) :=
  if (al.any fun p => decide (p.1 = k)) = true then al.map (fun p => if p.1 = k then (p.1, v) else p) else al ++ [(k, v)]
def dput (al : List (κ × α)) (k : κ) (v : α) : Option (List (κ × α)) := if al.length < sizeLine then some (dputT al k v) else none
def dhas (al : List (κ × α)) (k : κ) : Bool := al.any fun p => decide (p.1 = k)
theorem dput_some {al al' : List (κ × α)} {k : κ} {v : α} (h : dput al k v = some al') : al.length < sizeLine ∧ dputT al k v = al' := by
  unfold dput at h; split at h
  · cases h; exact ⟨‹_›, rfl⟩
  · cases h
/-- the two stand for each other -/
structure DRel {ι : Type} [DecidableEq ι] (K : PySem.W.Frag) (G : Hp) (kf : κ → ι) (vf : α → D) (al : List (κ × α)) (kvs : List (ι × V)) : Prop where
  k : kvs.map (·.1) = al.map fun p => kf p.1
  v : RepL K G (al.map fun p => vf p.2) (kvs.map (·.2))
variable {ι : Type} [DecidableEq ι] {K : PySem.W.Frag} {G : Hp} {kf : κ → ι} {vf : α → D}
theorem DRel.nil : DRel K G kf vf [] [] := ⟨rfl, RepL.nil⟩
theorem DRel.uncons {p : κ × α} {al : List (κ × α)} {kvs : List (ι × V)} (h : DRel K G kf vf (p :: al) kvs) : ∃ u r, kvs = (kf p.1, u) :: r ∧ Rep K G (vf p.2) u ∧ DRel K G kf vf al r := by
  obtain ⟨h1, h2⟩ := h
  cases kvs with
  | nil => cases h1
  | cons q r =>
    rw [List.map_cons, List.map_cons, List.cons.injEq] at h1
    rw [List.map_cons, List.map_cons] at h2
    unfold RepL at h2
    obtain ⟨v, r', e, a, b⟩ := h2
    rw [List.cons.injEq] at e
    obtain ⟨q1, q2⟩ := q
    refine ⟨q2, r, ?_, ?_, h1.2, ?_⟩
    · rw [← h1.1]
    · rw [show q2 = v from e.1]; exact a
    · rw [e.2]; exact b
theorem DRel.cons {p : κ × α} {al : List (κ × α)} {u : V} {r : List (ι × V)} (a : Rep K G (vf p.2) u) (h : DRel K G kf vf al r) : DRel K G kf vf (p :: al) ((kf p.1, u) :: r) :=
  ⟨by rw [List.map_cons, List.map_cons, h.k], by rw [List.map_cons, List.map_cons]; exact RepL.cons a h.v⟩
theorem DRel.length {al : List (κ × α)} {kvs : List (ι × V)} (h : DRel K G kf vf al kvs) : kvs.length = al.length := by
  have := congrArg List.length h.k
  rw [List.length_map, List.length_map] at this
  exact this
theorem DRel.get (inj : ∀ a b, kf a = kf b → a = b) {k : κ} : ∀ {al : List (κ × α)} {kvs : List (ι × V)}, DRel K G kf vf al kvs →
    (dget al k = none ∧ valV kvs (kf k) = none) ∨ ∃ x u, dget al k = some x ∧ valV kvs (kf k) = some u ∧ Rep K G (vf x) u
  | [], kvs, h => by
    have := h.length
    have : kvs = [] := List.length_eq_zero_iff.mp this
    subst this
    exact .inl ⟨rfl, rfl⟩
  | p :: al, kvs, h => by
    obtain ⟨u, r, rfl, a, t⟩ := h.uncons
    by_cases e : p.1 = k
    · refine .inr ⟨p.2, u, ?_, valV_pos (by show kf p.1 = kf k; rw [e]), a⟩
      unfold dget
      rw [List.find?_cons, decide_eq_true e]; rfl
    · have e2 : ¬ kf p.1 = kf k := fun h => e (inj _ _ h)
      rw [valV_neg e2]
      have : dget (p :: al) k = dget al k := by
        unfold dget
        rw [List.find?_cons, decide_eq_false e]
      rw [this]
      exact DRel.get inj t
theorem dget_has {al : List (κ × α)} {k : κ} : (dget al k).isSome = dhas al k := by
  unfold dget dhas
  rw [Option.isSome_map]
  induction al with
  | nil => rfl
  | cons p al ih =>
    rw [List.find?_cons, List.any_cons]
    by_cases e : p.1 = k
    · rw [decide_eq_true e]; rfl
    · rw [decide_eq_false e, Bool.false_or]; exact ih
theorem DRel.repl (inj : ∀ a b, kf a = kf b → a = b) {k : κ} {x : α} {y : V} (ry : Rep K G (vf x) y) : ∀ {al : List (κ × α)} {kvs : List (ι × V)}, DRel K G kf vf al kvs →
    DRel K G kf vf (al.map fun p => if p.1 = k then (p.1, x) else p) (kvs.map fun kv => if kv.1 = kf k then (kv.1, y) else kv)
  | [], kvs, h => by
    have : kvs = [] := List.length_eq_zero_iff.mp h.length
    subst this
    exact DRel.nil
  | p :: al, kvs, h => by
    obtain ⟨u, r, rfl, a, t⟩ := h.uncons
    rw [List.map_cons, List.map_cons]
    by_cases e : p.1 = k
    · rw [if_pos e, if_pos (by show kf p.1 = kf k; rw [e])]
      exact DRel.cons (p := (p.1, x)) ry (DRel.repl inj ry t)
    · rw [if_neg e, if_neg (fun h => e (inj _ _ h))]
      exact DRel.cons a (DRel.repl inj ry t)
theorem DRel.append {al al2 : List (κ × α)} {kvs kvs2 : List (ι × V)} (h : DRel K G kf vf al kvs) (h2 : DRel K G kf vf al2 kvs2) : DRel K G kf vf (al ++ al2) (kvs ++ kvs2) :=
  ⟨by rw [List.map_append, List.map_append, h.k, h2.k], by rw [List.map_append, List.map_append]; exact h.v.append h2.v⟩
theorem DRel.put (inj : ∀ a b, kf a = kf b → a = b) {k : κ} {x : α} {y : V} (ry : Rep K G (vf x) y) {al : List (κ × α)} {kvs : List (ι × V)} (h : DRel K G kf vf al kvs) :
    DRel K G kf vf (dputT al k x) (putK kvs (kf k) y) := by
  have e : (kvs.any fun kv => decide (kv.1 = kf k)) = (al.any fun p => decide (p.1 = k)) := by
    rw [valV_any, show (al.any fun p => decide (p.1 = k)) = dhas al k from rfl, ← dget_has]
    rcases h.get inj (k := k) with ⟨h1, h2⟩ | ⟨a, u, h1, h2, _⟩
    · rw [h1, h2]; rfl
    · rw [h1, h2]; rfl
  unfold putK dputT
  rw [e]
  by_cases q : (al.any fun p => decide (p.1 = k)) = true
  · rw [if_pos q, if_pos q]; exact h.repl inj ry
  · rw [if_neg q, if_neg q]; exact h.append (DRel.cons ry DRel.nil)
end
section
variable {X : Cx} {e a b oe ie : Expr} {es : List Expr} {rest : List Stmt} {ρ : Env} {M M1 M2 M3 : Mem} {d : D} {ds : List D} {pos pos' p apos : Pos} {i j r : Int} {q : Addr} {κ α : Type} [DecidableEq κ] {kf : κ → List L2.Key} {vf : α → D} {al al' : List (κ × α)} {key : κ} {v : α} {s t u : Str} {Z : Ends} {G0 : Hp}
theorem n_dctT : XN X (.Dict [] [] pos) ρ M (mDT kf vf ([] : List (κ × α))) M := .mk fun G σ H Q sl w q =>
  Sem.of pe_dnewT fun p hp => q p G _ (Ex.refl G) (w.newO hp ⟨[], upd_same, rfl, RepL.nil⟩)
theorem mr_drel {K : PySem.W.Frag} {G H : Hp} (h : MRep K G H q (mDT kf vf al)) : ∃ kvs, H q = some (.dT kvs) ∧ DRel K G kf vf al kvs := by
  obtain ⟨kvs, h1, h2, h3⟩ := h
  exact ⟨kvs, h1, h2, h3⟩
/-- d[key] = e -/
theorem st_dput (hu : X.A.units + 1 < cLine) (inj : ∀ a b, kf a = kf b → a = b) (k : Nat) (he : XE X e ρ M (vf v) M1) (ho : XE X oe ρ M1 (.adr q) M2) (hi : XE X ie ρ M2 (.ktup ((kf key).map kD)) M3) (hk : M3[k]? = some (q, mDT kf vf al)) (hp : dput al key v = some al')
    (kk : St X rest Z G0 ρ (M3.set k (q, mDT kf vf al'))) (hs : swapsWith e (some (.Subscript oe ie pos')) pos.line X.env = pure false := by first | exact sw_of rfl | rfl) : St X (.Assign [.Subscript oe ie pos'] e pos :: rest) Z G0 ρ M := St.mk' fun G σ H e0 sl w =>
  cons_of (ps_dput hu pe_sem pe_sem pe_sem hs) (he.run G σ H _ sl w fun x G1 H1 e1 w1 r1 => ho.run G1 σ H1 _ (sl.mono e1) w1 fun y G2 H2 e2 w2 r2 => hi.run G2 σ H2 _ (sl.mono (e1.trans e2)) w2 fun z G3 H3 e3 w3 r3 => by
    obtain ⟨kvs, hv, rel⟩ := mr_drel (w3.at hk).2
    obtain ⟨bt, vs, rfl, hb, rv⟩ := of_ktup r3
    have := rep_keys rv; subst this
    obtain ⟨hl, rfl⟩ := dput_some hp
    refine ⟨q, _, of_adr r2, DPut.t hv (w3.ex _ _ hb) (by rw [rel.length]; exact hl), ?_⟩
    have rel2 := rel.put inj (k := key) (r1.mono (e2.trans e3))
    exact kk.run (((e0.trans e1).trans e2).trans e3) (sl.mono ((e1.trans e2).trans e3)) (w3.set hk ⟨_, upd_same, rel2.k, rel2.v⟩))
/-- d[key] -/
theorem x_dget (hu : X.A.units + 1 < cLine) (inj : ∀ a b, kf a = kf b → a = b) (k : Nat) (ho : XE X a ρ M (.adr q) M1) (hi : XE X b ρ M1 (.ktup ((kf key).map kD)) M2) (hk : M2[k]? = some (q, mDT kf vf al)) (hp : dget al key = some v) (hs : NoSl b := by exact plainIx_of rfl) :
    XE X (.Subscript a b pos) ρ M (vf v) M2 := .mk fun G σ H Q sl w q0 =>
  Sem.of (pe_dget hu pe_sem pe_sem hs) (ho.run G σ H _ sl w fun x G1 H1 e1 w1 r1 => hi.run G1 σ H1 _ (sl.mono e1) w1 fun y G2 H2 e2 w2 r2 => by
    obtain ⟨kvs, hv, rel⟩ := mr_drel (w2.at hk).2
    obtain ⟨bt, vs, rfl, hb, rv⟩ := of_ktup r2
    have := rep_keys rv; subst this
    rcases rel.get inj (k := key) with ⟨h1, _⟩ | ⟨x', u, h1, h2, h3⟩
    · rw [h1] at hp; cases hp
    · rw [h1] at hp; cases hp
      refine ⟨q, u, of_adr r1, ?_, q0.use (e1.trans e2) w2 h3⟩
      have := DGet.t (k := kf key) hv (w2.ex _ _ hb)
      rw [h2] at this
      exact this)
theorem c_inDT (hu : X.A.units + 1 < cLine) (inj : ∀ a b, kf a = kf b → a = b) (k : Nat) (hi : XE X a ρ M (.ktup ((kf key).map kD)) M1) (ho : XE X b ρ M1 (.adr q) M2) (hk : M2[k]? = some (q, mDT kf vf al)) : XC X .In a b ρ M (.bl (dhas al key)) M2 := .mk fun G σ H Q sl w q0 =>
  SemC.of (pc_din hu pe_sem pe_sem) (hi.run G σ H _ sl w fun x G1 H1 e1 w1 r1 => ho.run G1 σ H1 _ (sl.mono e1) w1 fun y G2 H2 e2 w2 r2 => by
    obtain ⟨kvs, hv, rel⟩ := mr_drel (w2.at hk).2
    obtain ⟨bt, vs, rfl, hb, rv⟩ := of_ktup (r1.mono e2)
    have := rep_keys rv; subst this
    have dg := DGet.t (k := kf key) hv (w2.ex _ _ hb)
    refine ⟨q, _, of_adr r2, dg, ?_⟩
    have e : (valV kvs (kf key)).isSome = dhas al key := by
      rw [← dget_has]
      rcases rel.get inj (k := key) with ⟨h1, h2⟩ | ⟨x', u, h1, h2, h3⟩
      · rw [h1, h2]; rfl
      · rw [h1, h2]; rfl
    rw [e]
    exact q0.use (e1.trans e2) w2 rep_bl)
theorem x_lenDT (k : Nat) (ha : XA X [a] ρ M [.adr q] M1) (hk : M1[k]? = some (q, mDT kf vf al)) (hm : X.mg "len" = none) (hg : Gl X "len" := by rfl) (he : starEach [a] X.env = (false, eval a X.env) :: starEach [] X.env := by exact star_of rfl) :
    XE X (.Call (.Name "len" p) [a] [] pos) ρ M (.int (al.length : Nat)) M1 := XE.callB call_len_dT boot_len' ha (fun G H vs Q w rs q0 => by
  obtain ⟨v, rfl, r⟩ := rs.one
  obtain ⟨kvs, hv, rel⟩ := mr_drel (w.at hk).2
  rw [of_adr r]
  exact ⟨q, kvs, rfl, hv, q0.use (Ex.refl G) w (by rw [rel.length]; exact rep_int)⟩) hm hg (by decide) (by decide) he (by rfl)
theorem ty_dT {k : Nat} (hk : M1[k]? = some (q, mDT kf vf al)) : ∀ G H v, Wd X.K G M1 H → Rep X.K G (.adr q) v → tyV X.K "dict" v H := fun G H v w r => by
  obtain ⟨kvs, hv, _⟩ := mr_drel (w.at hk).2
  rw [of_adr r]
  exact .inr (.inr (.inl ⟨rfl, .inr ⟨kvs, hv⟩⟩))
/-- tuple(d.values()) -/
theorem x_tupVals {p2 : Pos} (hc : X.calm = true) (k : Nat) (ho : XE X a ρ M (.adr q) M1) (hk : M1[k]? = some (q, mDT kf vf al)) (hm : X.mg "tuple" = none) (hg : Gl X "tuple" := by rfl)
    (hbase : attributeBase a "values" X.env (eval a X.env) = eval a X.env := by exact base_of rfl) (hline : (apos.endLine == p2.line) = true := by rfl)
    (he : starEach [.Call (.Attribute a "values" apos) [] [] p2] X.env = (false, eval (.Call (.Attribute a "values" apos) [] [] p2) X.env) :: starEach [] X.env := by exact star_of rfl) :
    XE X (.Call (.Name "tuple" p) [.Call (.Attribute a "values" apos) [] [] p2] [] pos) ρ M (.tup (al.map fun p => vf p.2)) M1 := .mk fun G σ H Q sl w q0 =>
  Sem.of (pe_callTy (call_tuple_vals hc) hg hm boot_tuple (pa_cons (pe_bm0 PySem.F.plainAttrs_dict PySem.F.slot_dict_values PySem.F.type_dict_values mt_valuesT pe_sem hbase hline) pa_nil he) (by decide) (by decide) he (by rfl))
    (ho.run G σ H _ sl w fun v G1 H1 e1 w1 r1 => by
      refine ⟨ty_dT hk G1 H1 v w1 r1, ?_⟩
      obtain ⟨kvs, hv, rel⟩ := mr_drel (w1.at hk).2
      refine ⟨q, kvs, of_adr r1, rfl, hv, fun pv hpv => ?_⟩
      have ne : q ≠ pv := fun e => by subst e; rw [hpv] at hv; cases hv
      have w2 := w1.newF hpv (valsO pv q)
      have e2 := w1.exF hpv (valsO pv q)
      refine ⟨pv, q, kvs, rfl, upd_same, by rw [upd_ne ne]; exact hv, fun l o h1 h2 hl => ?_⟩
      exact q0.use ((e1.trans e2).trans (w2.exF hl _)) (w2.newF hl _) (rep_tup (pt_new h1 h2) ((rel.v.mono e2 _).mono (w2.exF hl _) _)))
/-! ### list of a text -/
def pchars (s : Str) : Option (List Str) := if s.cps.size ≤ sizeLine then some (s.cps.toList.map fun c => ⟨#[c]⟩) else none
theorem pchars_some {s : Str} {xs : List Str} (h : pchars s = some xs) : s.cps.size ≤ sizeLine ∧ (s.cps.toList.map fun c => (⟨#[c]⟩ : Str)) = xs := by
  unfold pchars at h; split at h
  · cases h; exact ⟨‹_›, rfl⟩
  · cases h
theorem vals_of : ∀ {xs : List V} {us : List Value}, us.length = xs.length → (∀ (j : Nat) (v : V) (u : Value), xs[j]? = some v → us[j]? = some u → RelV v u) → Vals xs us
  | [], us, hl, _ => by
    have : us = [] := List.length_eq_zero_iff.mp hl
    subst this
    exact .nil
  | x :: xs, [], hl, _ => by cases hl
  | x :: xs, u :: us, hl, h => .cons (h 0 x u rfl rfl) (vals_of (by simpa using hl) fun j v w h1 h2 => h (j + 1) v w (by simpa using h1) (by simpa using h2))
theorem call_list_txt (hc : X.calm = true) : CallR X (.type "list") (fun xs H Q => ∃ s : Str, xs = [.str s] ∧ s.cps.size ≤ sizeLine ∧ ∀ l, H l = none → Q (.ref l) (upd H l (.lst ((s.cps.toList.map fun c => (⟨#[c]⟩ : Str)).map V.str)))) := by
  intro pins s σ H xs us Q I r h
  obtain ⟨x, rfl, hz, q⟩ := h
  obtain ⟨u, rfl, t, rfl⟩ := vals1 r
  refine PySem.call_list_str (I.ok.hd hc) x t (fun h' tk acc c' hk hS hacc => ?_) hz
  have hl : acc.toList.length = x.cps.toList.length := by rw [Array.length_toList, hacc.1, Array.length_toList]
  refine ⟨.ref s.heap.objs.size, _, I.laid (t' := tk) (o := .lst ((x.cps.toList.map fun c => (⟨#[c]⟩ : Str)).map V.str)) hk (Nat.le_refl _) ⟨?_, acc.toList, c', ?_, ?_⟩, rfl, q _ (I.hok.fresh (Nat.le_refl _))⟩
  · rw [List.length_map, List.length_map, Array.length_toList]; exact hz
  · refine vals_of (by rw [hl, List.length_map, List.length_map]) fun j v u hv hu => ?_
    rw [List.getElem?_map, List.getElem?_map] at hv
    obtain ⟨c, uu, h1, h2⟩ := hacc.2 j u (by rw [← Array.getElem?_toList]; exact hu)
    rw [← Array.getElem?_toList] at h1
    rw [h1] at hv
    cases hv
    exact ⟨uu, h2⟩
  · rw [Array.toArray_toList]; exact hS
theorem n_listStr {xs : List Str} (hc : X.calm = true) (ha : XA X [a] ρ M [.str s] M1) (h : pchars s = some xs) (hm : X.mg "list" = none) (hg : Gl X "list" := by rfl) (he : starEach [a] X.env = (false, eval a X.env) :: starEach [] X.env := by exact star_of rfl) :
    XN X (.Call (.Name "list" p) [a] [] pos) ρ M (.lst (xs.map D.str)) M1 := XN.callTy (call_list_txt hc) boot_list ha (fun G H vs Q w rs q => by
  obtain ⟨v, rfl, r⟩ := rs.one
  obtain ⟨hz, rfl⟩ := pchars_some h
  rw [of_str r]
  exact ⟨s, rfl, hz, fun l hl => q l G _ (Ex.refl G) (wd_newL w hl RepL.of_strs)⟩) hm hg (by decide) (by decide) he (by rfl)
/-! ### t.index(x) -/
def pindex (xs : List Str) (x : Str) : Option Int := if x ∈ xs then some ((xs.findIdx (· == x) : Nat) : Int) else none
theorem pindex_some {xs : List Str} {x : Str} {i : Int} (h : pindex xs x = some i) : ∃ j : Nat, i = (j : Nat) ∧ xs[j]? = some x ∧ ∀ m, m < j → xs[m]? ≠ some x := by
  unfold pindex at h; split at h
  · rename_i hm
    cases h
    have hl : xs.findIdx (· == x) < xs.length := List.findIdx_lt_length_of_exists ⟨x, hm, by simp⟩
    refine ⟨_, rfl, ?_, fun m hm h => ?_⟩
    · have := List.findIdx_getElem (w := hl)
      rw [List.getElem?_eq_getElem hl]
      simpa using this
    · have := List.not_of_lt_findIdx hm
      have hml : m < xs.length := by omega
      rw [List.getElem?_eq_getElem hml] at h
      simp at this h
      exact this h
  · cases h
theorem x_indexTS {xs : List Str} {x : Str} (ho : XE X a ρ M (.tup (xs.map D.str)) M1) (ha : XA X [e] ρ M1 [.str x] M2) (h : pindex xs x = some i)
    (hbase : attributeBase a "index" X.env (eval a X.env) = eval a X.env := by exact base_of rfl)
    (hfew : ((backTo pos (starEach [e] X.env)).all (fun x => !x.1) && (backToKw pos (keywordEach [] X.env)).all (fun x => x.1.isSome)
      && decide ([e].length + ([] : List Keyword).length + (if ([] : List Keyword).isEmpty then 0 else 1) < 30)) = true := by exact fewargs rfl (by decide))
    (hline : (apos.endLine == pos.line) = true := by rfl) (hs : starEach [e] X.env = (false, eval e X.env) :: starEach [] X.env := by exact star_of rfl) (hplain : (backTo pos (starEach [] X.env)).any (·.1) = false := by exact nostars rfl) :
    XE X (.Call (.Attribute a "index" apos) [e] [] pos) ρ M (.int i) M2 := .mk fun G σ H Q sl w q0 =>
  Sem.of (pe_tupIdx pe_sem pa_sem hbase hfew hline hs hplain) (ho.run G σ H _ sl w fun v G1 H1 e1 w1 r1 => by
    obtain ⟨p, vs, rfl, hp, rv⟩ := of_tup r1
    have := rv.strs; subst this
    refine ⟨⟨p, _, rfl, hp.mono w1.ex⟩, ha.run G1 σ H1 _ (sl.mono e1) w1 fun zs G2 H2 e2 w2 r2 => ?_⟩
    obtain ⟨z, rfl, rz⟩ := r2.one
    obtain ⟨j, rfl, h1, h2⟩ := pindex_some h
    exact ⟨p, xs, x, j, rfl, by rw [of_str rz], ((hp.mono e2).mono w2.ex).sq, h1, h2, q0.use (e1.trans e2) w2 rep_int⟩)
/-! ### isinstance -/
def D.tyn : D → String
  | .non => "NoneType" | .bl _ => "bool" | .int _ => "int" | .str _ => "str"
  | .tup _ => "tuple" | .lst _ => "list" | _ => "?"
def tyIs (t T : String) : Bool := t == T || (t == "bool" && T == "int")
theorem kit_ty {K : PySem.W.Frag} {t T : String} (ht : t = "NoneType" ∨ t = "bool" ∨ t = "int" ∨ t = "str" ∨ t = "tuple" ∨ t = "list") (hT : T = "bool" ∨ T = "int" ∨ T = "str" ∨ T = "tuple" ∨ T = "list") :
    PySem.W.kitOne K (.type t) (.type T) = some (tyIs t T) := by
  rcases ht with rfl | rfl | rfl | rfl | rfl | rfl <;> rcases hT with rfl | rfl | rfl | rfl | rfl <;> rfl
theorem x_ty {T : String} {x : Str} (hv : bootBuiltins x = some (.type T)) (hm : X.mg x = none) (hg : Gl X x := by rfl) (hn : x ≠ "__name__" := by decide) (hd : (x == ("__debug__" : Str)) = false := by decide) : XE X (.Name x pos) ρ M (.ty T) M :=
  x_c (v := .ty T) (pe_bltn hg hm hv rfl hn hd) fun _ => by unfold Rep; rfl
theorem rep_tyx {K : PySem.W.Frag} {G H : Hp} {v : V} (e : Ex G H) (h : Rep K G d v) (hd : d.tyn = "NoneType" ∨ d.tyn = "bool" ∨ d.tyn = "int" ∨ d.tyn = "str" ∨ d.tyn = "tuple" ∨ d.tyn = "list") : TyX K H v (.type d.tyn) := by
  cases d with
  | non => rw [of_non h]; exact .base .non
  | bl b => rw [of_bl h]; exact .base (.bl b)
  | int b => rw [of_int h]; exact .base (.int b)
  | str b => rw [of_str h]; exact .base (.str b)
  | tup b => obtain ⟨a, vs, rfl, ⟨o, hp, _⟩, _⟩ := of_tup h; exact .fTuple (e _ _ hp)
  | lst b => obtain ⟨a, vs, rfl, hp, _⟩ := of_lst h; exact .base (.lst (e _ _ hp))
  | ktup b => simp [D.tyn] at hd
  | rlst b => simp [D.tyn] at hd
  | dK b c => simp [D.tyn] at hd
  | exc b c => simp [D.tyn] at hd
  | exs b c e => simp [D.tyn] at hd
  | exm b c => simp [D.tyn] at hd
  | dT b c => simp [D.tyn] at hd
  | dN a b c => simp [D.tyn] at hd
  | adr b => simp [D.tyn] at hd
  | ty b => simp [D.tyn] at hd
theorem x_isinst {T : String} (ha : XA X [a, b] ρ M [d, .ty T] M1) (hd : d.tyn = "NoneType" ∨ d.tyn = "bool" ∨ d.tyn = "int" ∨ d.tyn = "str" ∨ d.tyn = "tuple" ∨ d.tyn = "list") (hT : T = "bool" ∨ T = "int" ∨ T = "str" ∨ T = "tuple" ∨ T = "list")
    (hm : X.mg "isinstance" = none) (hg : Gl X "isinstance" := by rfl) (he : starEach [a, b] X.env = (false, eval a X.env) :: starEach [b] X.env := by exact star_of rfl) (hpl : (backTo pos (starEach [b] X.env)).any (·.1) = false := by exact nostars rfl) :
    XE X (.Call (.Name "isinstance" p) [a, b] [] pos) ρ M (.bl (tyIs d.tyn T)) M1 := XE.callB call_isi boot_isinstance ha (fun G H vs Q w rs q => by
  obtain ⟨v, c, rfl, r, rc⟩ := rs.two
  rw [of_ty rc]
  exact ⟨v, .ty T, .type d.tyn, .type T, tyIs d.tyn T, rfl, .ty T, rep_tyx w.ex r hd, kit_ty hd hT, q.use (Ex.refl G) w rep_bl⟩) hm hg (by decide) (by decide) he hpl
end
end Wk

/-! Wk: a def that makes a deck; small things. -/
namespace Wk
open PySem PySem.Spec PyProof.Rows L2 Evl

theorem map_snd {κ α β : Type} (f : α → β) (al : List (κ × α)) : (al.map (·.2)).map f = al.map fun p => f p.2 := by rw [List.map_map]; rfl
theorem hu1 {n c : Nat} (h : n + 64 < c) : n + 1 < c := by omega
def spDk (K : PySem.W.Frag) (R : List D → Deck → Prop) : Sp := fun vs H Q _ => ∃ G F ds dk, RepL K G ds vs ∧ Wd K G F H ∧ R ds dk ∧ ∀ a c G' H', Ex G G' → Wd K G' (Deck.mem a c dk ++ F) H' → Q (.ref a) H'
section
variable {P : Program} {w : World} {K : PySem.W.Frag} {mg : Str → Option Value} {base : Heap}
theorem fn_okDk {x qual : Str} {st : Stmt} {f : Addr} {fd : FuncData} {N ps : List Str} {k : Nat} {R : List D → Deck → Prop} (F : Fun K x qual st f fd) (S : FnScope N ps (defScope st)) (hl : ∀ ds dk, R ds dk → ds.length = ps.length)
    (body : ∀ (cdv : Value) (A : Around) (outer : List PySem.Env) (s : Shared) (H0 : Hp) (E : XK), Room k (A.deeper (envOfC qual (defScope st) s.heap.objs.size f cdv)) → ∀ (G0 : Hp) (F : Mem) ds dk (Q : VK), R ds dk →
      (∀ a c G' H', Ex G0 G' → Wd K G' (Deck.mem a c dk ++ F) H' → Q (.ref a) H') → St (cxF P w K mg base N qual (defScope st) f cdv A outer s H0 E) (defBody st) { nx := fun _ H' => Q .non H', rt := Q } G0 (startD N ds) F) :
    FnOk P w K mg base CX0 (k + 1) f fd ps (spDk K R) := by
  refine F.ok S (fun vs H Q E h => ?_) (fun cdv A outer s H vs Q E hr h => ?_)
  · obtain ⟨G, F, ds, dk, r, _, hR, _⟩ := h
    rw [r.length, hl ds dk hR]
  · obtain ⟨G, F, ds, dk, r, wd, hR, q⟩ := h
    exact ⟨_, pss_sem, (body cdv A outer s H E hr G F ds dk Q hR q).run (Ex.refl G) (sl_start r) wd⟩
end
structure XDk (X : Cx) (e : Expr) (ρ : Env) (M : Mem) (dk : Deck) (M' : Mem) : Prop where
  run : ∀ (G : Hp) (σ : L2.St) (H : Hp) (Q : VK), Sl X.K G ρ σ → Wd X.K G M H → (∀ a c G' H', Ex G G' → Wd X.K G' (Deck.mem a c dk ++ M') H' → Q (.ref a) H') → Sem X e σ H Q
structure DefDk (P : Program) (w : World) (K : PySem.W.Frag) (mg : Str → Option Value) (base : Heap) (k : Nat) (x : Str) (ps : List Str) (R : List D → Deck → Prop) : Prop where
  ex : ∃ f fd, FnOk P w K mg base CX0 k f fd ps (spDk K R) ∧ mg x = some (.ref f) ∧ PySem.W.keepIn K (.ref f) = true ∧ Binds K fd ps []
section
variable {X : Cx} {ρ : Env} {M M1 M2 : Mem} {d : D} {ds : List D} {k k' : Nat} {ps : List Str} {x : Str} {p pos pos' : Pos} {e : Expr} {es : List Expr} {R : List D → Deck → Prop} {dk : Deck} {rest : List Stmt} {Z : Ends} {G0 : Hp} {o : MO} {i : Int}
theorem x_callDk (F : DefDk X.prog X.w X.K X.mg X.base k x ps R) (hr : Room k' X.A) (hk : k ≤ k') (ha : XA X (e :: es) ρ M ds M1) (hR : R ds dk)
    (hg : Gl X x := by rfl) (hdb : (x == ("__debug__" : Str)) = false := by decide) (he : starEach (e :: es) X.env = (false, eval e X.env) :: starEach es X.env := by exact star_of rfl) (hpl : (backTo pos (starEach es X.env)).any (·.1) = false := by exact nostars rfl) :
    XDk X (.Call (.Name x p) (e :: es) [] pos) ρ M dk M1 := .mk fun G σ H Q sl w q => by
  obtain ⟨f, fd, h1, h2, h3, h4⟩ := F.ex
  refine Sem.of (pe_call (E := E0) h1 (hr.mono hk) hg h2 h3 h4 .nil pass0 pa_sem hdb he hpl) (ha.run G σ H _ sl w fun vs G1 H1 e1 w1 r1 => ?_)
  show spDk X.K R (vs ++ []) H1 Q E0
  rw [List.append_nil]
  exact ⟨G1, M1, ds, dk, r1, w1, hR, fun a c G' H' e' w' => q a c G' H' (e1.trans e') w'⟩
theorem st_newDk {x : Str} (i : Nat) (he : XDk X e ρ M dk M1) (k : ∀ a c, St X rest Z G0 (ρ.set i (some (.adr a))) (Deck.mem a c dk ++ M1)) (hN : X.N.Nodup) (hi : X.N[i]? = some x := by rfl) (hx : Loc X.env.scope x := by first | exact Or.inl rfl | exact Or.inr rfl)
    (hs : swapsWith e (some (.Name x pos')) pos.line X.env = pure false := by first | exact sw_of rfl | rfl) (hf : X.fn x = true ∨ X.env.scope.names.lookup x = some .local := by first | exact .inl rfl | exact .inr rfl) :
    St X (.Assign [.Name x pos'] e pos :: rest) Z G0 ρ M := St.mk' fun G σ H e0 sl w =>
  cons_of (ps_set hN hi hx pe_sem hs hf) (he.run G σ H _ sl w fun a c G' H' e' w' => (k a c).run (e0.trans e') ((sl.mono e').set i rep_adr) w')
theorem st_retX (he : XN X e ρ M o M1) (h : ∀ q G H, Ex G0 G → Wd X.K G ((q, o) :: M1) H → Z.rt (.ref q) H) : St X (.Return (some e) pos :: rest) Z G0 ρ M := St.mk' fun G σ H e0 sl w =>
  cons_of (ps_ret pe_sem) (he.run G σ H _ sl w fun q G' H' e' w' => h q G' H' (e0.trans e') w')
theorem x_isinst2 {a b : Expr} {T : String} {k : Bool} (ha : XA X [a, b] ρ M [d, .ty T] M1) (hd : d.tyn = "NoneType" ∨ d.tyn = "bool" ∨ d.tyn = "int" ∨ d.tyn = "str" ∨ d.tyn = "tuple" ∨ d.tyn = "list") (hT : T = "bool" ∨ T = "int" ∨ T = "str" ∨ T = "tuple" ∨ T = "list") (hb : tyIs d.tyn T = k)
    (hm : X.mg "isinstance" = none) (hg : Gl X "isinstance" := by rfl) (he : starEach [a, b] X.env = (false, eval a X.env) :: starEach [b] X.env := by exact star_of rfl) (hpl : (backTo pos (starEach [b] X.env)).any (·.1) = false := by exact nostars rfl) :
    XE X (.Call (.Name "isinstance" p) [a, b] [] pos) ρ M (.bl k) M1 := by
  subst hb
  exact x_isinst ha hd hT hm hg he hpl
/-- a module's constants -/
theorem x_gSe {x s : Str} (hm : ∃ t, X.mg x = some (.str s t)) (hg : Gl X x := by rfl) (hd : (x == ("__debug__" : Str)) = false := by decide) : XE X (.Name x pos) ρ M (.str s) M := by
  obtain ⟨t, h⟩ := hm
  exact x_gS h hg hd
theorem x_gIe {x : Str} (hm : ∃ t, X.mg x = some (.int i t)) (hg : Gl X x := by rfl) (hd : (x == ("__debug__" : Str)) = false := by decide) : XE X (.Name x pos) ρ M (.int i) M := by
  obtain ⟨t, h⟩ := hm
  exact x_gI h hg hd
end
end Wk

/-! Wk: plain laws of partial functions: it answers, and the answer is so. -/
namespace Wk
open PySem L2

def Ok {α : Type} (m : Option α) (P : α → Prop) : Prop := ∃ r, m = some r ∧ P r
section
variable {α β S : Type} {P P' : α → Prop} {Q : β → Prop} {m : Option α} {f : α → Option β} {x : α} {a b : Option α} {c : Bool}
theorem Ok.bind (h : Ok m P) (k : ∀ r, P r → Ok (f r) Q) : Ok (m.bind f) Q := by
  obtain ⟨r, rfl, hp⟩ := h
  exact k r hp
theorem Ok.ret (h : P x) : Ok (some x) P := ⟨x, rfl, h⟩
theorem Ok.of (h : m = some x) (hp : P x) : Ok m P := ⟨x, h, hp⟩
theorem Ok.imp (h : Ok m P) (k : ∀ r, P r → P' r) : Ok m P' := let ⟨r, e, hp⟩ := h; ⟨r, e, k r hp⟩
theorem Ok.let {x : α} (k : Ok (f x) Q) : Ok ((some x).bind f) Q := k
theorem Ok.eqn (h : m = some x) (k : Ok (f x) Q) : Ok (m.bind f) Q := by rw [h]; exact k
theorem Ok.ite (h1 : c = true → Ok a P) (h2 : c = false → Ok b P) : Ok (if c = true then a else b) P := by
  cases c with
  | true => exact h1 rfl
  | false => exact h2 rfl
theorem Ok.itep {p : Prop} [Decidable p] (h1 : p → Ok a P) (h2 : ¬ p → Ok b P) : Ok (if p then a else b) P := by
  by_cases h : p
  · rw [if_pos h]; exact h1 h
  · rw [if_neg h]; exact h2 h
theorem Ok.val (h : Ok m P) : ∃ r, m = some r ∧ P r := h
theorem Ok.and {P2 : α → Prop} (h : Ok m P) (h2 : ∀ r, m = some r → P r → P2 r) : Ok m (fun r => P r ∧ P2 r) := let ⟨r, e, hp⟩ := h; ⟨r, e, hp, h2 r e hp⟩
theorem Ok.keep (h : Ok m P) : Ok m (fun r => m = some r ∧ P r) := let ⟨r, e, hp⟩ := h; ⟨r, e, e, hp⟩
end
section
variable {α β S R : Type}
theorem foldO_inv {f : S → α → Option S} {I : S → Prop} : ∀ {xs : List α} {s : S}, I s → (∀ s x, x ∈ xs → I s → Ok (f s x) I) → Ok (foldO f s xs) I
  | [], s, h, _ => ⟨s, rfl, h⟩
  | x :: xs, s, h, k => Ok.bind (k s x List.mem_cons_self h) fun r hr => foldO_inv hr fun s y hy hi => k s y (List.mem_cons_of_mem _ hy) hi
/-- by what is behind -/
theorem foldO_pre {f : S → α → Option S} {I : List α → S → Prop} {xs : List α} {s : S} (h : I [] s) (k : ∀ pre x post s, xs = pre ++ x :: post → I pre s → Ok (f s x) (I (pre ++ [x]))) : Ok (foldO f s xs) (I xs) := by
  have key : ∀ (post pre : List α) (s : S), xs = pre ++ post → I pre s → Ok (foldO f s post) (I xs) := by
    intro post
    induction post with
    | nil => intro pre s e hi; rw [List.append_nil] at e; subst e; exact ⟨s, rfl, hi⟩
    | cons x post ih =>
      intro pre s e hi
      exact Ok.bind (k pre x post s e hi) fun r hr => ih (pre ++ [x]) r (by rw [e, List.append_assoc]; rfl) hr
  exact key xs [] s rfl h
/-- by the number of turns -/
theorem foldO_num {f : S → α → Option S} {I : Nat → S → Prop} {xs : List α} {s : S} (h : I 0 s) (k : ∀ i x s, xs[i]? = some x → I i s → Ok (f s x) (I (i + 1))) : Ok (foldO f s xs) (I xs.length) := by
  refine (foldO_pre (I := fun pre s => I pre.length s) h fun pre x post s e hi => ?_)
  refine (k pre.length x s (by rw [e, List.getElem?_append_right (Nat.le_refl _), Nat.sub_self]; rfl) hi).imp fun r hr => ?_
  rw [List.length_append]; exact hr
theorem foldO_eq {f : S → α → Option S} {g : S → α → S} {I : S → Prop} : ∀ {xs : List α} {s : S}, I s → (∀ s x, x ∈ xs → I s → f s x = some (g s x) ∧ I (g s x)) → foldO f s xs = some (xs.foldl g s)
  | [], s, h, _ => rfl
  | x :: xs, s, h, k => by
    obtain ⟨h1, h2⟩ := k s x List.mem_cons_self h
    show (f s x).bind _ = _
    rw [h1]
    exact foldO_eq h2 fun s y hy hi => k s y (List.mem_cons_of_mem _ hy) hi
theorem mapO_eq {f : α → Option β} {g : α → β} : ∀ {xs : List α}, (∀ x ∈ xs, f x = some (g x)) → mapO f xs = some (xs.map g)
  | [], _ => rfl
  | x :: xs, k => by
    show (f x).bind _ = _
    rw [k x List.mem_cons_self]
    show (mapO f xs).bind _ = _
    rw [mapO_eq fun y hy => k y (List.mem_cons_of_mem _ hy)]
    rfl
theorem mapO_ok {f : α → Option β} {Q : α → β → Prop} : ∀ {xs : List α}, (∀ x ∈ xs, Ok (f x) (Q x)) → Ok (mapO f xs) (fun ys => ys.length = xs.length ∧ ∀ (i : Nat) (x : α) (y : β), xs[i]? = some x → ys[i]? = some y → Q x y)
  | [], _ => ⟨[], rfl, rfl, fun i x y h => by simp at h⟩
  | x :: xs, k => by
    refine Ok.bind (k x List.mem_cons_self) fun y hy => Ok.bind (mapO_ok fun z hz => k z (List.mem_cons_of_mem _ hz)) fun ys hys => Ok.ret ⟨by rw [List.length_cons, List.length_cons, hys.1], fun i a b ha hb => ?_⟩
    cases i with
    | zero => simp at ha hb; subst ha; subst hb; exact hy
    | succ i => exact hys.2 i a b (by simpa using ha) (by simpa using hb)
theorem filO_eq {f : α → Option (Option β)} {pr : α → Bool} {g : α → β} : ∀ {xs : List α}, (∀ x ∈ xs, f x = some (if pr x = true then some (g x) else none)) → filO f xs = some ((xs.filter pr).map g)
  | [], _ => rfl
  | x :: xs, k => by
    show (f x).bind _ = _
    rw [k x List.mem_cons_self]
    show (filO f xs).bind _ = _
    rw [filO_eq fun y hy => k y (List.mem_cons_of_mem _ hy), List.filter_cons]
    cases pr x <;> rfl
/-- the state and what is told so far -/
theorem mapS_acc {f : S → α → Option (β × S)} {I : List β → S → Prop} {xs : List α} {s : S} (h : I [] s) (k : ∀ acc s x, x ∈ xs → acc.length < xs.length → I acc s → Ok (f s x) (fun y => I (acc ++ [y.1]) y.2)) :
    Ok (mapS f s xs) (fun r => r.1.length = xs.length ∧ I r.1 r.2) := by
  have key : ∀ (post : List α) (acc : List β) (s : S), (∀ x ∈ post, x ∈ xs) → acc.length + post.length = xs.length → I acc s → Ok (mapS f s post) (fun r => r.1.length = post.length ∧ I (acc ++ r.1) r.2) := by
    intro post
    induction post with
    | nil => intro acc s _ _ hi; exact ⟨([], s), rfl, rfl, by rw [List.append_nil]; exact hi⟩
    | cons x post ih =>
      intro acc s hm hl hi
      rw [List.length_cons] at hl
      refine Ok.bind (k acc s x (hm x List.mem_cons_self) (by omega) hi) fun y hy => Ok.bind (ih (acc ++ [y.1]) y.2 (fun z hz => hm z (List.mem_cons_of_mem _ hz)) (by rw [List.length_append, List.length_singleton]; omega) hy) fun r hr => Ok.ret ⟨?_, ?_⟩
      · show (y.1 :: r.1).length = _
        rw [List.length_cons, List.length_cons, hr.1]
      · have := hr.2
        rw [List.append_assoc] at this
        exact this
  exact (key xs [] s (fun _ h => h) (by simp) h).imp fun r hr => hr
theorem mapS_inv {f : S → α → Option (β × S)} {I : S → Prop} {Q : β → Prop} {xs : List α} {s : S} (h : I s) (k : ∀ s x, x ∈ xs → I s → Ok (f s x) (fun y => Q y.1 ∧ I y.2)) :
    Ok (mapS f s xs) (fun r => r.1.length = xs.length ∧ (∀ y ∈ r.1, Q y) ∧ I r.2) := by
  refine (mapS_acc (I := fun acc s => (∀ y ∈ acc, Q y) ∧ I s) ⟨fun y hy => absurd hy (by simp), h⟩ fun acc s x hx hl hi => ?_)
  refine (k s x hx hi.2).imp fun y hy => ⟨fun z hz => ?_, hy.2⟩
  rcases List.mem_append.mp hz with hz | hz
  · exact hi.1 z hz
  · rw [List.mem_singleton.mp hz]; exact hy.1
/-- with a plain function, the state untouched -/
theorem mapS_pure {f : S → α → Option (β × S)} {g : α → β} {s : S} : ∀ {xs : List α}, (∀ x ∈ xs, f s x = some (g x, s)) → mapS f s xs = some (xs.map g, s)
  | [], _ => rfl
  | x :: xs, k => by
    show (f s x).bind _ = _
    rw [k x List.mem_cons_self]
    show (mapS f s xs).bind _ = _
    rw [mapS_pure fun y hy => k y (List.mem_cons_of_mem _ hy)]
    rfl
theorem forR_nx {f : S → α → Option (Fl S R)} {I : S → Prop} : ∀ {xs : List α} {s : S}, I s → (∀ s x, x ∈ xs → I s → Ok (f s x) (fun y => ∃ s', y = .nx s' ∧ I s')) → Ok (forR f s xs) (fun y => ∃ s', y = .nx s' ∧ I s')
  | [], s, h, _ => ⟨_, rfl, s, rfl, h⟩
  | x :: xs, s, h, k => by
    refine Ok.bind (k s x List.mem_cons_self h) fun y hy => ?_
    obtain ⟨s', rfl, hs⟩ := hy
    exact forR_nx hs fun s y hy hi => k s y (List.mem_cons_of_mem _ hy) hi
theorem whileO_ok {c : S → Option Bool} {f : S → Option S} {I : S → Prop} (mu : S → Nat) (k : ∀ s, I s → Ok (c s) (fun b => b = true → Ok (f s) (fun s' => I s' ∧ mu s' < mu s))) : ∀ {s : S}, I s → Ok (whileO c f s) (fun r => I r ∧ c r = some false) := by
  have key : ∀ (n : Nat) (s : S), mu s < n → I s → Ok (whileO c f s) (fun r => I r ∧ c r = some false) := by
    intro n
    induction n with
    | zero => intro s h; omega
    | succ n ih =>
      intro s hn hi
      obtain ⟨b, hb, hk⟩ := k s hi
      cases b with
      | false => exact ⟨s, whileO_stop hb, hi, hb⟩
      | true =>
        obtain ⟨s', h1, h2, h3⟩ := hk rfl
        obtain ⟨r, h4, h5⟩ := ih s' (by omega) h2
        exact ⟨r, whileO_step hb h1 h4, h5⟩
  exact fun {s} hi => key (mu s + 1) s (by omega) hi
end
/-! guards -/
theorem ok_mod {i j : Int} (h : 0 < j) : Ok (pmod i j) (fun r => r = i % j ∧ 0 ≤ r ∧ r < j) := ⟨i % j, if_pos h, rfl, Int.emod_nonneg _ (by omega), Int.emod_lt_of_pos _ h⟩
theorem log_le {n : Nat} {k : Nat} (h : n < 2 ^ k) (hk : 0 < k) : n.log2 < k := by
  by_cases hn : n = 0
  · subst hn; simpa using hk
  · exact (Nat.log2_lt hn).mpr h
theorem ok_div {i j : Int} (h : 0 < j) (h2 : j < 2 ^ 64) : Ok (pdiv i j) (fun r => r = i / j) := by
  refine ⟨i / j, if_pos ⟨h, ?_⟩, rfl⟩
  have : j.natAbs < 2 ^ 64 := by omega
  have := log_le this (by decide)
  omega
theorem eq_mul {i j : Int} (h1 : -(2 ^ 64) < i) (h2 : i < 2 ^ 64) (h3 : -(2 ^ 64) < j) (h4 : j < 2 ^ 64) : pmul i j = some (i * j) := by
  refine if_pos ?_
  have := log_le (n := i.natAbs) (k := 64) (by omega) (by decide)
  have := log_le (n := j.natAbs) (k := 64) (by omega) (by decide)
  omega
theorem ok_mul {i j : Int} (h1 : -(2 ^ 64) < i) (h2 : i < 2 ^ 64) (h3 : -(2 ^ 64) < j) (h4 : j < 2 ^ 64) : Ok (pmul i j) (fun r => r = i * j) := ⟨i * j, eq_mul h1 h2 h3 h4, rfl⟩
theorem eq_pix {α : Type} {xs : List α} {i : Nat} {x : α} (h : xs[i]? = some x) : pix xs (i : Nat) = some x := by
  unfold pix atI ixN
  have hi := (List.getElem?_eq_some_iff.mp h).1
  rw [if_pos (by omega), if_pos (by omega)]
  show xs[((i : Nat) : Int).toNat]? = _
  rw [Int.toNat_natCast, h]
theorem ok_pix {α : Type} {xs : List α} {i : Int} (h0 : 0 ≤ i) (h1 : i < xs.length) : Ok (pix xs i) (fun x => xs[i.toNat]? = some x ∧ x ∈ xs) := by
  obtain ⟨n, rfl⟩ : ∃ n : Nat, i = n := ⟨i.toNat, by omega⟩
  have hn : n < xs.length := by omega
  refine ⟨xs[n], eq_pix (List.getElem?_eq_getElem hn), ?_, List.getElem_mem hn⟩
  rw [Int.toNat_natCast]; exact List.getElem?_eq_getElem hn
theorem eq_last {α : Type} {xs : List α} {x : α} : pix (xs ++ [x]) (-1) = some x := by
  unfold pix atI ixN
  rw [if_neg (by omega), if_pos (by rw [List.length_append, List.length_singleton]; omega)]
  show (xs ++ [x])[(-1 + ((xs ++ [x]).length : Int)).toNat]? = _
  have : (-1 + ((xs ++ [x]).length : Int)).toNat = xs.length := by rw [List.length_append, List.length_singleton]; omega
  rw [this, List.getElem?_append_right (Nat.le_refl _), Nat.sub_self]; rfl
theorem eq_rng {lo hi : Int} (h1 : 0 ≤ lo) (h2 : lo ≤ 16777216) (h3 : 0 ≤ hi) (h4 : hi ≤ 16777216) : prng lo hi = some (rgI lo hi) := if_pos ⟨h1, h2, h3, h4⟩
theorem rgI_mem {lo hi k : Int} : k ∈ rgI lo hi ↔ lo ≤ k ∧ k < hi := by
  unfold rgI
  rw [List.mem_map]
  constructor
  · rintro ⟨m, hm, rfl⟩
    rw [List.mem_range] at hm
    omega
  · rintro ⟨h1, h2⟩
    exact ⟨(k - lo).toNat, List.mem_range.mpr (by omega), by omega⟩
theorem rgI_get {lo hi : Int} {i : Nat} (h : i < (hi - lo).toNat) : (rgI lo hi)[i]? = some (lo + (i : Nat)) := by
  unfold rgI
  rw [List.getElem?_map, List.getElem?_range h]; rfl
theorem rgI_nodup {lo hi : Int} : (rgI lo hi).Nodup := by
  unfold rgI
  refine List.pairwise_map.mpr (List.nodup_range.imp fun {a b} h => ?_)
  omega
theorem ok_set {α : Type} {xs : List α} {i : Int} {v : α} (h0 : 0 ≤ i) (h1 : i < xs.length) : Ok (pset xs i v) (fun r => r = xs.set i.toNat v) := by
  refine ⟨xs.set i.toNat v, ?_, rfl⟩
  unfold pset ixN
  rw [if_pos h0, if_pos h1]; rfl
theorem eq_pop {α : Type} {xs : List α} {i : Nat} {x : α} (h : xs[i]? = some x) (hl : xs.length < 2 ^ 63) : ppop xs (i : Nat) = some (x, xs.eraseIdx i) := by
  unfold ppop
  rw [if_pos ⟨by omega, hl⟩, Int.toNat_natCast, h]; rfl
theorem perm_erase {α : Type} : ∀ {xs : List α} {n : Nat} {x : α}, xs[n]? = some x → (x :: xs.eraseIdx n).Perm xs
  | [], n, x, h => by simp at h
  | y :: ys, 0, x, h => by simp at h; subst h; exact List.Perm.refl _
  | y :: ys, n + 1, x, h => (List.Perm.swap y x _).trans ((perm_erase (by simpa using h)).cons y)
theorem ok_pop {α : Type} {xs : List α} {i : Int} (h0 : 0 ≤ i) (h1 : i < xs.length) (hl : xs.length < 2 ^ 63) : Ok (ppop xs i) (fun r => (r.1 :: r.2).Perm xs ∧ r.2.length + 1 = xs.length) := by
  obtain ⟨n, rfl⟩ : ∃ n : Nat, i = n := ⟨i.toNat, by omega⟩
  have hn : n < xs.length := by omega
  refine ⟨(xs[n], xs.eraseIdx n), eq_pop (List.getElem?_eq_getElem hn) hl, perm_erase (List.getElem?_eq_getElem hn), ?_⟩
  show (xs.eraseIdx n).length + 1 = _
  rw [List.length_eraseIdx_of_lt hn]
  omega
theorem eq_snoc {α : Type} {s : List α} {t : α} (h : s.length < 16777216) : psnoc s t = some (s ++ [t]) := if_pos (by rw [sizeLine_eq]; exact h)
theorem eq_cat {α : Type} {s t : List α} (h : s.length + t.length ≤ 16777216) : pcat s t = some (s ++ t) := if_pos (by rw [sizeLine_eq]; exact h)
theorem eq_add {s t : Str} (h : s.length + t.length ≤ 16777216) : padd s t = some (s ++ t) := if_pos (by rw [sizeLine_eq]; exact h)
theorem eq_fit {α : Type} {n : Nat} {x : α} (h : n < 16777216) : pfit n x = some x := if_pos (by rw [sizeLine_eq]; exact h)
theorem eq_rep {α : Type} {s : List α} {k : Int} (h0 : 0 ≤ k) (h : k ≤ 16777216) (h2 : s.length * k.toNat ≤ 16777216) : prep s k = some (List.replicate k.toNat s).flatten := if_pos ⟨h, by omega, by rw [sizeLine_eq]; exact h2⟩
theorem eq_cutS {s : Str} {lo hi : Option Int} (h : s.length ≤ 16777216) : pcutS s lo hi = some (cutS s lo hi) := if_pos (by rw [sizeLine_eq]; exact h)
theorem eq_len {s : Str} (h : s.length ≤ 16777216) : plen s = some ((s.length : Nat) : Int) := if_pos (by rw [sizeLine_eq]; exact h)
theorem eq_chars {s : Str} (h : s.cps.size ≤ 16777216) : pchars s = some (s.cps.toList.map fun c => ⟨#[c]⟩) := if_pos (by rw [sizeLine_eq]; exact h)
theorem eq_pixS {s : Str} {i : Nat} {c : Nat} (h : s.cps.toList[i]? = some c) (hl : s.length ≤ 16777216) : pixS s (i : Nat) = some ⟨#[c]⟩ := by
  unfold pixS
  rw [if_pos (by rw [sizeLine_eq]; exact hl), show atI s.cps.toList ((i : Nat) : Int) = some c from eq_pix h]; rfl
theorem ok_pixS {s : Str} {i : Int} (h0 : 0 ≤ i) (h1 : i < s.length) (hl : s.length ≤ 16777216) : Ok (pixS s i) (fun r => ∃ c ∈ s.cps.toList, r = ⟨#[c]⟩) := by
  obtain ⟨n, rfl⟩ : ∃ n : Nat, i = n := ⟨i.toNat, by omega⟩
  have hn : n < s.cps.toList.length := by
    have : s.length = s.cps.toList.length := by rw [Array.length_toList]; rfl
    omega
  exact ⟨_, eq_pixS (List.getElem?_eq_getElem hn) hl, _, List.getElem_mem hn, rfl⟩
theorem eq_index {xs : List Str} {x : Str} (h : x ∈ xs) : pindex xs x = some ((xs.findIdx (· == x) : Nat) : Int) := if_pos h
end Wk

/-! Wk: dicts whose keys are texts or numbers. -/
namespace Wk
open PySem PySem.Spec PyProof.Rows L2 Evl
abbrev mDK {κ α : Type} (kf : κ → L2.Key) (vf : α → D) (al : List (κ × α)) : MO := .dK (al.map fun p => kf p.1) (al.map fun p => vf p.2)
abbrev eDK {κ α : Type} (kf : κ → L2.Key) (vf : α → D) (al : List (κ × α)) : D := .dK (al.map fun p => kf p.1) (al.map fun p => vf p.2)
theorem inj_inr {a b : Str} (h : (Sum.inr a : L2.Key) = Sum.inr b) : a = b := Sum.inr.inj h
theorem inj_inl {a b : Int} (h : (Sum.inl a : L2.Key) = Sum.inl b) : a = b := Sum.inl.inj h
theorem rep_key {K : PySem.W.Frag} {G : Hp} : ∀ {k : L2.Key} {v : V}, Rep K G (kD k) v → v = kV k
  | .inl i, v, h => of_int h
  | .inr s, v, h => of_str h
def dmerge {κ α : Type} [DecidableEq κ] (al ps : List (κ × α)) : List (κ × α) := ps.foldl (fun s p => dputT s p.1 p.2) al
section
variable {X : Cx} {e a b oe ie : Expr} {es : List Expr} {rest : List Stmt} {ρ : Env} {M M1 M2 M3 : Mem} {d : D} {ds : List D} {pos pos' p apos : Pos} {i j r : Int} {q : Addr} {κ α : Type} [DecidableEq κ] {kf : κ → L2.Key} {vf : α → D} {al al' : List (κ × α)} {key : κ} {v : α} {s t u : Str} {Z : Ends} {G0 : Hp}
theorem n_dctK : XN X (.Dict [] [] pos) ρ M (mDK kf vf ([] : List (κ × α))) M := .mk fun G σ H Q sl w q =>
  Sem.of pe_dnewK fun p hp => q p G _ (Ex.refl G) (w.newO hp ⟨[], upd_same, rfl, RepL.nil⟩)
theorem mr_dk {K : PySem.W.Frag} {G H : Hp} (h : MRep K G H q (mDK kf vf al)) : ∃ kvs, H q = some (.dK kvs) ∧ DRel K G kf vf al kvs := by
  obtain ⟨kvs, h1, h2, h3⟩ := h
  exact ⟨kvs, h1, h2, h3⟩
/-- what may be read as a dict, under M -/
inductive DctD (kf : κ → L2.Key) (vf : α → D) (M : Mem) : D → List (κ × α) → Prop where
  | frz (al : List (κ × α)) : DctD kf vf M (eDK kf vf al) al
  | own (k : Nat) (p : Addr) (al : List (κ × α)) (h : M[k]? = some (p, mDK kf vf al)) : DctD kf vf M (.adr p) al
theorem DctD.get {K : PySem.W.Frag} {G H : Hp} {x : V} (h : DctD kf vf M d al) (w : Wd K G M H) (r : Rep K G d x) : ∃ a kvs, x = .ref a ∧ H a = some (.dK kvs) ∧ DRel K G kf vf al kvs := by
  cases h with
  | frz => obtain ⟨a, kvs, rfl, h1, h2, h3⟩ := of_dK r; exact ⟨a, kvs, rfl, w.ex _ _ h1, h2, h3⟩
  | own k p _ hk => obtain ⟨kvs, hv, rel⟩ := mr_dk (w.at hk).2; exact ⟨p, kvs, of_adr r, hv, rel⟩
/-- d[key] = e -/
theorem st_dputK (hu : X.A.units + 1 < cLine) (inj : ∀ a b, kf a = kf b → a = b) (k : Nat) (he : XE X e ρ M (vf v) M1) (ho : XE X oe ρ M1 (.adr q) M2) (hi : XE X ie ρ M2 (kD (kf key)) M3) (hk : M3[k]? = some (q, mDK kf vf al)) (hp : dput al key v = some al')
    (kk : St X rest Z G0 ρ (M3.set k (q, mDK kf vf al'))) (hs : swapsWith e (some (.Subscript oe ie pos')) pos.line X.env = pure false := by first | exact sw_of rfl | rfl) : St X (.Assign [.Subscript oe ie pos'] e pos :: rest) Z G0 ρ M := St.mk' fun G σ H e0 sl w =>
  cons_of (ps_dput hu pe_sem pe_sem pe_sem hs) (he.run G σ H _ sl w fun x G1 H1 e1 w1 r1 => ho.run G1 σ H1 _ (sl.mono e1) w1 fun y G2 H2 e2 w2 r2 => hi.run G2 σ H2 _ (sl.mono (e1.trans e2)) w2 fun z G3 H3 e3 w3 r3 => by
    obtain ⟨kvs, hv, rel⟩ := mr_dk (w3.at hk).2
    have := rep_key r3; subst this
    obtain ⟨hl, rfl⟩ := dput_some hp
    have rel2 := rel.put inj (k := key) (r1.mono (e2.trans e3))
    exact ⟨q, _, of_adr r2, DPut.k hv (by rw [rel.length]; exact hl), kk.run (((e0.trans e1).trans e2).trans e3) (sl.mono ((e1.trans e2).trans e3)) (w3.set hk ⟨_, upd_same, rel2.k, rel2.v⟩)⟩)
/-- d[key] -/
theorem x_dgetK (hu : X.A.units + 1 < cLine) (inj : ∀ a b, kf a = kf b → a = b) (ho : XE X a ρ M d M1) (hi : XE X b ρ M1 (kD (kf key)) M2) (hq : DctD kf vf M2 d al) (hp : dget al key = some v) (hs : NoSl b := by exact plainIx_of rfl) :
    XE X (.Subscript a b pos) ρ M (vf v) M2 := .mk fun G σ H Q sl w q0 =>
  Sem.of (pe_dget hu pe_sem pe_sem hs) (ho.run G σ H _ sl w fun x G1 H1 e1 w1 r1 => hi.run G1 σ H1 _ (sl.mono e1) w1 fun y G2 H2 e2 w2 r2 => by
    obtain ⟨c, kvs, rfl, hv, rel⟩ := hq.get w2 (r1.mono e2)
    have := rep_key r2; subst this
    rcases rel.get inj (k := key) with ⟨h1, _⟩ | ⟨x', u, h1, h2, h3⟩
    · rw [h1] at hp; cases hp
    · rw [h1] at hp; cases hp
      refine ⟨c, u, rfl, ?_, q0.use (e1.trans e2) w2 h3⟩
      have := DGet.k (k := kf key) hv
      rw [h2] at this
      exact this)
theorem dhas_val {K : PySem.W.Frag} {G : Hp} (inj : ∀ a b, kf a = kf b → a = b) {kvs : List (L2.Key × V)} (rel : DRel K G kf vf al kvs) : (valV kvs (kf key)).isSome = dhas al key := by
  rw [← dget_has]
  rcases rel.get inj (k := key) with ⟨h1, h2⟩ | ⟨x', u, h1, h2, h3⟩
  · rw [h1, h2]; rfl
  · rw [h1, h2]; rfl
theorem c_inK (hu : X.A.units + 1 < cLine) (inj : ∀ a b, kf a = kf b → a = b) (hi : XE X a ρ M (kD (kf key)) M1) (ho : XE X b ρ M1 d M2) (hq : DctD kf vf M2 d al) : XC X .In a b ρ M (.bl (dhas al key)) M2 := .mk fun G σ H Q sl w q0 =>
  SemC.of (pc_din hu pe_sem pe_sem) (hi.run G σ H _ sl w fun x G1 H1 e1 w1 r1 => ho.run G1 σ H1 _ (sl.mono e1) w1 fun y G2 H2 e2 w2 r2 => by
    obtain ⟨c, kvs, rfl, hv, rel⟩ := hq.get w2 r2
    have := rep_key r1; subst this
    exact ⟨c, _, rfl, DGet.k (k := kf key) hv, by rw [dhas_val inj rel]; exact q0.use (e1.trans e2) w2 rep_bl⟩)
theorem c_notInK (hu : X.A.units + 1 < cLine) (inj : ∀ a b, kf a = kf b → a = b) (hi : XE X a ρ M (kD (kf key)) M1) (ho : XE X b ρ M1 d M2) (hq : DctD kf vf M2 d al) : XC X .NotIn a b ρ M (.bl (!dhas al key)) M2 := .mk fun G σ H Q sl w q0 =>
  SemC.of (pc_dnotin hu pe_sem pe_sem) (hi.run G σ H _ sl w fun x G1 H1 e1 w1 r1 => ho.run G1 σ H1 _ (sl.mono e1) w1 fun y G2 H2 e2 w2 r2 => by
    obtain ⟨c, kvs, rfl, hv, rel⟩ := hq.get w2 r2
    have := rep_key r1; subst this
    exact ⟨c, _, rfl, DGet.k (k := kf key) hv, by rw [dhas_val inj rel]; exact q0.use (e1.trans e2) w2 rep_bl⟩)
theorem x_lenK (ha : XA X [a] ρ M [d] M1) (hq : DctD kf vf M1 d al) (hm : X.mg "len" = none) (hg : Gl X "len" := by rfl) (he : starEach [a] X.env = (false, eval a X.env) :: starEach [] X.env := by exact star_of rfl) :
    XE X (.Call (.Name "len" p) [a] [] pos) ρ M (.int (al.length : Nat)) M1 := XE.callB call_lenD boot_len' ha (fun G H vs Q w rs q0 => by
  obtain ⟨v, rfl, r⟩ := rs.one
  obtain ⟨c, kvs, rfl, hv, rel⟩ := hq.get w r
  exact ⟨c, kvs, rfl, hv, by rw [rel.length]; exact q0.use (Ex.refl G) w rep_int⟩) hm hg (by decide) (by decide) he (by rfl)
/-- an owned dict is frozen: at place k, held by name i -/
theorem st_frzK {sts : List Stmt} (i k : Nat) (hi : ρ[i]? = some (some (.adr q))) (hk : M[k]? = some (q, mDK kf vf al)) (h : St X sts Z G0 (ρ.set i (some (eDK kf vf al))) (M.eraseIdx k)) : St X sts Z G0 ρ M := .mk fun σ H ⟨G, e, sl, w⟩ => by
  obtain ⟨kvs, hv, rel⟩ := mr_dk (w.at hk).2
  have e2 := w.exFreeze (o := .dK kvs) hk
  obtain ⟨v, hv2, rv⟩ := sl.get i _ hi
  have sl2 := (sl.mono e2).set i (d := eDK kf vf al) (v := v) (by rw [of_adr rv]; unfold Rep; exact ⟨q, kvs, rfl, upd_same, rel.k, rel.v.mono e2 _⟩)
  have : σ.set i (some v) = σ := by
    refine List.ext_getElem? fun j => ?_
    by_cases hj : i = j
    · subst hj
      rw [List.getElem?_set_self (List.getElem?_eq_some_iff.mp hv2).1, hv2]
    · rw [List.getElem?_set_ne hj]
  rw [this] at sl2
  exact h.go σ H ⟨_, e.trans e2, sl2, w.freeze hk hv⟩
theorem drel_merge {K : PySem.W.Frag} {G : Hp} (inj : ∀ a b, kf a = kf b → a = b) : ∀ {ps : List (κ × α)} {kps : List (L2.Key × V)} {al : List (κ × α)} {kvs : List (L2.Key × V)}, DRel K G kf vf al kvs → DRel K G kf vf ps kps → DRel K G kf vf (dmerge al ps) (mergeK kvs kps)
  | [], kps, al, kvs, h, hp => by
    have : kps = [] := List.length_eq_zero_iff.mp hp.length
    subst this
    exact h
  | p :: ps, kps, al, kvs, h, hp => by
    obtain ⟨u, r, rfl, a, t⟩ := hp.uncons
    show DRel K G kf vf (dmerge (dputT al p.1 p.2) ps) (mergeK (putK kvs (kf p.1) u) r)
    exact drel_merge inj (h.put inj a) t
/-- dict(list of pairs) -/
theorem n_dictP {ps : List (κ × α)} (hc : X.calm = true) (inj : ∀ a b, kf a = kf b → a = b) (ha : XA X [a] ρ M [.lst (ps.map fun x => .tup [kD (kf x.1), vf x.2])] M1) (hm : X.mg "dict" = none) (hg : Gl X "dict" := by rfl) (he : starEach [a] X.env = (false, eval a X.env) :: starEach [] X.env := by exact star_of rfl) :
    XN X (.Call (.Name "dict" p) [a] [] pos) ρ M (mDK kf vf (dmerge [] ps)) M1 := XN.callTy (call_dictP hc) boot_dict ha (fun G H vs Q w rs q => by
  obtain ⟨v, rfl, r⟩ := rs.one
  obtain ⟨c, us, rfl, hu, ru⟩ := of_lst r
  have key : ∀ {ps : List (κ × α)} {us : List V}, RepL X.K G (ps.map fun x => D.tup [kD (kf x.1), vf x.2]) us → ∃ (as : List Addr) (kvs : List (L2.Key × V)), us = as.map V.ref ∧ Paired (fun p kv => SqT X.K H p [kV kv.1, kv.2]) as kvs ∧ DRel X.K G kf vf ps kvs := by
    intro ps
    induction ps with
    | nil => intro us h; unfold RepL at h; subst h; exact ⟨[], [], rfl, .nil, DRel.nil⟩
    | cons p ps ih =>
      intro us h
      rw [List.map_cons] at h
      unfold RepL at h
      obtain ⟨v, r, rfl, h1, h2⟩ := h
      obtain ⟨as, kvs, rfl, hp, rel⟩ := ih h2
      obtain ⟨x, ws, rfl, hx, rw'⟩ := of_tup h1
      obtain ⟨y, z, rfl, hy, hz⟩ := rw'.two
      have := rep_key hy; subst this
      exact ⟨x :: as, (kf p.1, z) :: kvs, rfl, .cons (hx.mono w.ex).sq hp, DRel.cons hz rel⟩
  obtain ⟨as, kvs, rfl, hp, rel⟩ := key ru
  have rel2 := drel_merge inj (DRel.nil (K := X.K) (G := G) (kf := kf) (vf := vf)) rel
  exact ⟨c, as, kvs, rfl, SqL.of (w.ex _ _ hu), hp, fun l hl => q l G _ (Ex.refl G) (w.newO hl ⟨_, upd_same, rel2.k, rel2.v⟩)⟩) hm hg (by decide) (by decide) he (by rfl)
theorem x_frzD (h : XN X e ρ M (mDK kf vf al) M1) : XE X e ρ M (eDK kf vf al) M1 := x_frzK h
end
end Wk

/-! Wk: dict(zip(t, u)) of tuples. -/
namespace Wk
open PySem PySem.Spec PyProof.Rows L2 Evl
section
variable {prog : Program} {w : World} {A : Around} {E : Value → Shared → Prop} {s : Shared} {z TI TO T i1 i2 : Addr} {f : Bool} {oT : Obj} {fp1 fp2 : List Addr} {n1 n2 i : Nat} {P1 P2 : Nat → Value → Prop} {St1 St2 : Nat → Heap → Prop}
/-- the next pair while the last one is still held -/
theorem zipHeldItem {Q : Value → Shared → Prop} (S : ZipSep2 z TI TO i1 i2 fp1 fp2) (D1 : Draws prog w A i1 fp1 n1 P1 St1) (D2 : Draws prog w A i2 fp2 n2 P2 St2)
    (hz : IsZipHeld s.heap z TI TO T f) (hT : s.heap.get? T = some oT) (hTI : IsPair s.heap TI (.ref i1) (.ref i2)) (st1 : St1 i s.heap) (st2 : St2 i s.heap) (b1 : i < n1) (b2 : i < n2)
    (hQ : ∀ x y h' tk, P1 i x → P2 i y → IsZipHeld h' z TI TO T true → St1 (i + 1) h' → St2 (i + 1) h' → IsPair h' s.heap.objs.size x y →
      (∀ c o, c ≠ z → c ≠ i1 → c ≠ i2 → s.heap.get? c = some o → h'.get? c = some o) → Q (.ref s.heap.objs.size) { s with heap := h', toks := tk }) :
    wpAny (model prog w) A (Builtin.«zip.__next__» ⟨[.ref z], []⟩) (fun fin s' => ∃ v, fin = .done (.ret v) ∧ Q v s') E s := by
  have z1 : z ≠ i1 := fun e => S.zf1 (e ▸ S.mem1)
  have z2 : z ≠ i2 := fun e => S.zf2 (e ▸ S.mem2)
  have n12 : i1 ≠ i2 := fun e => S.sep1_2 (e ▸ S.mem2)
  show wpAny _ _ (field (.ref z) 2 >>= fun _ => _) _ _ _
  refine wpAny_bind (wpAny_field (i := 2) hz rfl (x := .bool false) rfl ?_); show wpAny _ _ (field (.ref z) 3 >>= fun _ => _) _ _ _
  refine wpAny_bind (wpAny_field (i := 3) hz rfl (x := .ref TI) rfl (wpAny_bind (wpAny_seqItems hTI rfl ?_))); show wpAny _ _ (Builtin.SmallTypes.ownedTupleIsFree (.ref z) >>= fun _ => _) _ _ _
  refine wpAny_bind (PySem.wpAny_tupleHeld_zip hz hT fun g hg sg => ?_); simp only [Bool.false_eq_true, if_false]; refine wpAny_bind ?_; rw [← Array.forIn_toList]; simp only [List.forIn_cons, List.forIn_nil]
  refine wpAny_bind (wpAny_bind (wpAny_holding (show wpAny _ _ (Builtin.SmallTypes.nextOf (.ref i1) >>= fun _ => _) _ _ _ from wpAny_bind (D1.item i { s with heap := g } _ _ b1 (D1.over st1 sg S.zf1) fun x g1 tk1 hx s1 sb1 => wpAny_pure (wpAny_pure ?_)))))
  have sb1 : Heap.SameBut i1 g g1 := sb1
  refine wpAny_bind (wpAny_bind (wpAny_holding (show wpAny _ _ (Builtin.SmallTypes.nextOf (.ref i2) >>= fun _ => _) _ _ _ from wpAny_bind (D2.item i { s with heap := g1, toks := tk1 } _ _ b2 (D2.over (D2.over st2 sg S.zf2) sb1 S.sep1_2) fun y g2 tk2 hy s2 sb2 => wpAny_pure (wpAny_pure (wpAny_pure ?_))))))
  have sb2 : Heap.SameBut i2 g1 g2 := sb2
  show wpAny _ _ (newTuple [x, y] >>= fun _ => _) _ _ _
  refine wpAny_bind (wpAny_newTuple (wpAny_pure ⟨_, rfl, ?_⟩))
  have hsz : g2.objs.size = s.heap.objs.size := (sb2.1.trans sb1.1).trans sg.1
  have up : ∀ c o, g2.get? c = some o → (g2.push { cls := .type "tuple", data := .seq #[x, y] }).get? c = some o := fun c o e => Heap.get?_push_of_some _ e
  have hp : IsPair (g2.push { cls := .type "tuple", data := .seq #[x, y] }) s.heap.objs.size x y := by rw [← hsz]; exact Heap.get?_push_size _ rfl
  show Q (.ref g2.objs.size) _
  rw [hsz]
  refine hQ x y _ tk2 hx hy (up _ _ (sb2.extBut _ _ z2 (sb1.extBut _ _ z1 hg))) (D1.frame _ _ _ (D1.over s1 sb2 S.sep2_1) fun b _ o e => up b o e) (D2.frame _ _ _ s2 fun b _ o e => up b o e) hp fun c o c0 c1 c2 e => up c o (sb2.extBut _ _ c2 (sb1.extBut _ _ c1 (sg.extBut _ _ c0 e)))
theorem zipHeldEnd {Q : Fin → Shared → Prop} (S : ZipSep2 z TI TO i1 i2 fp1 fp2) (D1 : Draws prog w A i1 fp1 n1 P1 St1) (D2 : Draws prog w A i2 fp2 n2 P2 St2)
    (hz : IsZipHeld s.heap z TI TO T f) (hT : s.heap.get? T = some oT) (hTI : IsPair s.heap TI (.ref i1) (.ref i2)) (st1 : St1 n1 s.heap)
    (hE : ∀ h' e tk, (∀ c o, c ≠ z → c ≠ i1 → c ≠ i2 → s.heap.get? c = some o → h'.get? c = some o) → (∃ o, h'.get? e = some o ∧ o.cls = .type "StopIteration") → E (.ref e) { s with heap := h', toks := tk }) :
    wpAny (model prog w) A (Builtin.«zip.__next__» ⟨[.ref z], []⟩) Q E s := by
  show wpAny _ _ (field (.ref z) 2 >>= fun _ => _) _ _ _
  refine wpAny_bind (wpAny_field (i := 2) hz rfl (x := .bool false) rfl ?_); show wpAny _ _ (field (.ref z) 3 >>= fun _ => _) _ _ _
  refine wpAny_bind (wpAny_field (i := 3) hz rfl (x := .ref TI) rfl (wpAny_bind (wpAny_seqItems hTI rfl ?_))); show wpAny _ _ (Builtin.SmallTypes.ownedTupleIsFree (.ref z) >>= fun _ => _) _ _ _
  refine wpAny_bind (PySem.wpAny_tupleHeld_zip hz hT fun g hg sg => ?_); simp only [Bool.false_eq_true, if_false]; refine wpAny_bind ?_; rw [← Array.forIn_toList]; simp only [List.forIn_cons, List.forIn_nil]
  exact wpAny_bind (wpAny_bind (wpAny_holding (show wpAny _ _ (Builtin.SmallTypes.nextOf (.ref i1) >>= fun _ => _) _ _ _ from wpAny_bind (D1.done { s with heap := g } _ _ (D1.over st1 sg S.zf1) fun g1 e eb he => hE g1 e s.toks (fun c o c0 c1 _ x => eb _ _ c1 (sg.extBut _ _ c0 x)) he))))
end
section
variable {prog : Program} {w : World}
theorem hd_in1 {A : Around} (h : A.handled = none) : A.in1.handled = none := h
/-- zip(t, u), t and u tuples of one length, as what dict() is given -/
theorem pairZipT (z TI TO i1 i2 l1 l2 : Addr) (Z : ZipApart z TI TO i1 i2 l1 l2) (S : ZipSep2 z TI TO i1 i2 [i1, l1] [i2, l2]) (n1 : l1 ≠ i1) (n2 : l2 ≠ i2) (xs ys : Array Value) (hl : ys.size = xs.size) :
    PairArg prog w "zip" z [z, TI, TO, i1, i2, l1, l2] [z, TO, i1, i2] xs.size (fun i k v => xs[i]? = some k ∧ ys[i]? = some v)
      (fun h => IsZip h z TI TO .none ∧ IsPair h TI (.ref i1) (.ref i2) ∧ (∃ a b, IsPair h TO a b) ∧ (h.IsTupleIter i1 l1 0 ∧ h.IsTuple l1 xs) ∧ (h.IsTupleIter i2 l2 0 ∧ h.IsTuple l2 ys)) where
  type := fun s ok => ⟨_, ok.1, rfl⟩
  notDict := by decide
  keep := fun h h' ⟨hz, hTI, ⟨a, b, hTO⟩, ⟨t1, q1⟩, t2, q2⟩ hk => ⟨hk _ _ hz, hk _ _ hTI, ⟨a, b, hk _ _ hTO⟩, ⟨t1.at fun o e => hk _ o e, q1.at fun o e => hk _ o e⟩, t2.at fun o e => hk _ o e, q2.at fun o e => hk _ o e⟩
  there := fun h ⟨hz, hTI, ⟨a, c, hTO⟩, ⟨⟨o1, h1, _⟩, o3, h3, _⟩, ⟨o2, h2, _⟩, o4, h4, _⟩ b hb => by
    simp only [List.mem_cons, List.not_mem_nil, or_false] at hb
    rcases hb with rfl | rfl | rfl | rfl | rfl | rfl | rfl
    · exact ⟨_, hz⟩
    · exact ⟨_, hTI⟩
    · exact ⟨_, hTO⟩
    · exact ⟨_, h1⟩
    · exact ⟨_, h2⟩
    · exact ⟨_, h3⟩
    · exact ⟨_, h4⟩
  sub := fun b hb => by
    simp only [List.mem_cons, List.not_mem_nil, or_false] at hb ⊢
    rcases hb with rfl | rfl | rfl | rfl <;> simp
  noKeys := fun A s Q E hA ok h => PySem.getAttrOr_miss_zip ok.1 rfl rfl rfl PySem.zip_no_keys (by decide +kernel) hA h
  iter := fun A s d Q E hA ⟨hz, hTI, hTO, st1, st2⟩ hd hdf h => by
    simp only [List.mem_cons, List.not_mem_nil, or_false, not_or] at hdf
    obtain ⟨dz, dTI, dTO, di1, di2, dl1, dl2⟩ := hdf
    have D1 : Draws prog w A.in1 i1 [i1, l1] xs.size (fun i v => xs[i]? = some v) (fun i h => h.IsTupleIter i1 l1 i ∧ h.IsTuple l1 xs) := PySem.Draws.tuple (hd_in1 hA) i1 l1 n1 xs
    have D2 : Draws prog w A.in1 i2 [i2, l2] ys.size (fun i v => ys[i]? = some v) (fun i h => h.IsTupleIter i2 l2 i ∧ h.IsTuple l2 ys) := PySem.Draws.tuple (hd_in1 hA) i2 l2 n2 ys
    let St : Nat → Heap → Prop := fun i h => IsPair h TI (.ref i1) (.ref i2) ∧ (h.IsTupleIter i1 l1 i ∧ h.IsTuple l1 xs) ∧ (h.IsTupleIter i2 l2 i ∧ h.IsTuple l2 ys) ∧
      ((IsZip h z TI TO .none ∧ ∃ a b, IsPair h TO a b) ∨ ∃ T f oT, IsZipHeld h z TI TO T f ∧ h.get? T = some oT ∧ T ≠ z ∧ T ≠ i1 ∧ T ≠ i2 ∧ T ≠ d)
    refine wpAny_pyIter_zip hz (h z [z, TO, i1, i2] St s.heap s.toks ?_ ⟨hTI, st1, st2, .inl ⟨hz, hTO⟩⟩ (fun _ _ e => e) fun b hb => .inl hb)
    have nz : ∀ {s₁ : Shared}, IsZip s₁.heap z TI TO .none ∨ (∃ T f, IsZipHeld s₁.heap z TI TO T f) → s₁.TypeIs (.ref z) "zip" := fun h => h.elim (fun e => ⟨_, e, rfl⟩) fun ⟨T, f, e⟩ => ⟨_, e, rfl⟩
    refine ⟨?_, fun i h1 h2 st hk => ?_, fun i s1 Q1 E1 hi st hds hQ => ?_, fun s1 Q1 E1 st hQ => ?_⟩
    · intro hm
      simp only [List.mem_cons, List.not_mem_nil, or_false] at hm
      rcases hm with e | e | e | e
      · exact dz e
      · exact dTO e
      · exact di1 e
      · exact di2 e
    · obtain ⟨a1, ⟨a2, a3⟩, ⟨a4, a5⟩, a6⟩ := st
      refine ⟨hk _ _ (Ne.symm dTI) a1, ⟨a2.at fun o e => hk _ o (Ne.symm di1) e, a3.at fun o e => hk _ o (Ne.symm dl1) e⟩, ⟨a4.at fun o e => hk _ o (Ne.symm di2) e, a5.at fun o e => hk _ o (Ne.symm dl2) e⟩, ?_⟩
      rcases a6 with ⟨b1, x, y, b2⟩ | ⟨T, f, oT, b1, b2, r1, r2, r3, r4⟩
      · exact .inl ⟨hk _ _ (Ne.symm dz) b1, x, y, hk _ _ (Ne.symm dTO) b2⟩
      · exact .inr ⟨T, f, oT, hk _ _ (Ne.symm dz) b1, hk _ _ r4 b2, r1, r2, r3, r4⟩
    · obtain ⟨a1, a2, a4, a6⟩ := st
      have lt : ∀ {c o}, s1.heap.get? c = some o → s1.heap.objs.size ≠ c := fun e => Nat.ne_of_gt (Heap.lt_size e)
      have m1 : s1.heap.objs.size ≠ i1 := let ⟨_, e, _⟩ := a2.1; lt e
      have m2 : s1.heap.objs.size ≠ i2 := let ⟨_, e, _⟩ := a4.1; lt e
      rcases a6 with ⟨b1, x0, y0, b2⟩ | ⟨T, f, oT, b1, b2, r1, r2, r3, r4⟩
      · refine PySem.wpAny_pyNext_zipD2_item S D1 D2 b1 a1 b2 a2 a4 hi (by rw [hl]; exact hi) fun x y h' tk p1 p2 c1 c2 c3 c4 c5 _ hk => ?_
        refine hQ s1.heap.objs.size x y h' tk ⟨p1, p2⟩ (.inl ⟨_, c5, rfl, _, rfl⟩) ⟨hk _ _ S.TIz S.TITO S.TIi1 S.TIi2 a1, c3, c4, .inr ⟨s1.heap.objs.size, false, _, c1, c5, lt b1, m1, m2, Nat.ne_of_gt hds⟩⟩ fun c o hc e => ?_
        simp only [List.mem_cons, List.not_mem_nil, or_false, not_or] at hc
        exact hk c o hc.1 hc.2.1 hc.2.2.1 hc.2.2.2 e
      · unfold pyNext
        refine wpAny_bind (wpAny_attempt (wpAny_callSpecial?_slot (name := Str.ofString "__next__") (nz (.inr ⟨T, f, b1⟩)) PySem.F.slot_zip_next (wpAny_call_entry PySem.F.slot_zip_next (nz (.inr ⟨T, f, b1⟩)) PySem.F.entry_zip_next
          (zipHeldItem S D1 D2 b1 b2 a1 a2 a4 hi (by rw [hl]; exact hi) fun x y h' tk p1 p2 c1 c3 c4 c5 hk => wpAny_pure ?_) (PySem.F.args_zip_next_1 _))))
        refine hQ s1.heap.objs.size x y h' tk ⟨p1, p2⟩ (.inl ⟨_, c5, rfl, _, rfl⟩) ⟨hk _ _ S.TIz S.TIi1 S.TIi2 a1, c3, c4, .inr ⟨T, true, oT, c1, hk _ _ r1 r2 r3 b2, r1, r2, r3, r4⟩⟩ fun c o hc e => ?_
        simp only [List.mem_cons, List.not_mem_nil, or_false, not_or] at hc
        exact hk c o hc.1 hc.2.2.1 hc.2.2.2 e
    · obtain ⟨a1, a2, a4, a6⟩ := st
      rcases a6 with ⟨b1, x0, y0, b2⟩ | ⟨T, f, oT, b1, b2, r1, r2, r3, r4⟩
      · refine PySem.wpAny_pyNext_zipD2_end S D1 D2 b1 a1 b2 a2 a4 (Nat.le_refl _) (by rw [hl]; exact Nat.le_refl _) (.inl rfl) fun h' tk hk => hQ h' tk fun c o hc e => ?_
        simp only [List.mem_cons, List.not_mem_nil, or_false, not_or] at hc
        exact hk c o hc.1 hc.2.1 hc.2.2.1 hc.2.2.2 e
      · unfold pyNext
        refine wpAny_bind (wpAny_attempt (wpAny_callSpecial?_slot (name := Str.ofString "__next__") (nz (.inr ⟨T, f, b1⟩)) PySem.F.slot_zip_next (wpAny_call_entry PySem.F.slot_zip_next (nz (.inr ⟨T, f, b1⟩)) PySem.F.entry_zip_next
          (zipHeldEnd S D1 D2 b1 b2 a1 a2 fun h' e tk hk he => ?_) (PySem.F.args_zip_next_1 _))))
        obtain ⟨o, ho, hc⟩ := he
        refine wpAny_bind (wpAny_isInstance (T := "StopIteration") (b := true) ⟨o, ho, hc⟩ isSubtype_stop (wpAny_pure (hQ h' tk fun c o hc e => ?_)))
        simp only [List.mem_cons, List.not_mem_nil, or_false, not_or] at hc
        exact hk c o hc.1 hc.2.2.1 hc.2.2.2 e
end
section
variable {X : Cx} {e e2 : Expr} {p p2 q pos : Pos} {ta : TA}
def tDZ (K : PySem.W.Frag) (ta : TA) : TE := fun σ H Q => ta σ H fun vs H1 => ∃ (a b : Addr) (kvs : List (L2.Key × V)), vs = [.ref a, .ref b] ∧ SqT K H1 a (kvs.map fun x => kV x.1) ∧ SqT K H1 b (kvs.map (·.2)) ∧ ∀ p, H1 p = none → Q (.ref p) (upd H1 p (.dK (mergeK [] kvs)))
theorem notIn2 (c a b : Nat) (h1 : c ≠ a) (h2 : c ≠ b) : c ∉ [a, b] := by
  intro h
  rcases List.mem_cons.mp h with e | h
  · exact h1 e
  · exact h2 (List.mem_singleton.mp h)
theorem sepNe (I l1 l2 : Nat) (h1 : l1 < I) (h2 : l2 < I) : (I + 2 ≠ I + 4 ∧ I + 3 ≠ I + 4 ∧ I + 2 ≠ I + 3 ∧ I + 2 ≠ I ∧ I + 2 ≠ I + 1 ∧ I + 4 ≠ I ∧ I + 4 ≠ I + 1 ∧ I + 3 ≠ I ∧ I + 3 ≠ I + 1) ∧ (I + 4 ≠ l1 ∧ I + 4 ≠ l2 ∧ I + 3 ≠ l1 ∧ I + 3 ≠ l2 ∧ I ≠ I + 1 ∧ I ≠ l2 ∧ I + 1 ≠ I ∧ I + 1 ≠ l1) := by omega
theorem zipSep (I l1 l2 : Nat) (h1 : l1 < I) (h2 : l2 < I) : ZipSep2 (I + 4) (I + 2) (I + 3) I (I + 1) [I, l1] [I + 1, l2] := by
  obtain ⟨⟨a1, a2, a3, a4, a5, a6, a7, a8, a9⟩, b1, b2, b3, b4, b5, b6, b7, b8⟩ := sepNe I l1 l2 h1 h2
  exact ⟨a1, a2, a3, a4, List.mem_cons_self, notIn2 _ _ _ a6 b1, notIn2 _ _ _ a8 b3, a5, List.mem_cons_self, notIn2 _ _ _ a7 b2, notIn2 _ _ _ a9 b4, notIn2 _ _ _ b5 b6, notIn2 _ _ _ b7 b8⟩
theorem natNe (I l : Nat) (h : l < I) : l ≠ I ∧ l ≠ I + 1 := by omega
theorem notNew (I c : Nat) (h : c < I) : c ∉ [I + 4, I + 3, I, I + 1] := by simp only [List.mem_cons, List.not_mem_nil, or_false]; omega
theorem kvs_of (P : Program) (w : World) : ∀ {kvs : List (L2.Key × V)} {its its2 : List Value}, Vals (kvs.map fun x => kV x.1) its → Vals (kvs.map (·.2)) its2 →
    ∃ prs : List (L2.Key × Value), KV kvs prs ∧ prs.length = its.length ∧ its2.length = its.length ∧ ∀ (i : Nat) (k v : Value), its[i]? = some k → its2[i]? = some v → ∃ y, prs[i]? = some (y, v) ∧ keyIs y k = true
  | [], its, its2, h, h2 => by
    cases h; cases h2
    exact ⟨[], .nil, rfl, rfl, fun i k v e => by simp at e⟩
  | kv :: kvs, its, its2, h, h2 => by
    rw [List.map_cons] at h h2
    cases h with
    | cons r t =>
      cases h2 with
      | cons r2 t2 =>
        rename_i u us v vs
        obtain ⟨prs, k1, k2, k3, k4⟩ := kvs_of P w t t2
        refine ⟨(kv.1, v) :: prs, .cons ⟨rfl, r2⟩ k1, by rw [List.length_cons, List.length_cons, k2], by rw [List.length_cons, List.length_cons, k3], fun i k w e1 e2 => ?_⟩
        cases i with
        | zero =>
          simp at e1 e2
          subst e1; subst e2
          exact ⟨kv.1, rfl, kV_is (P := P) (w := w) r⟩
        | succ i =>
          obtain ⟨y, h1, h2⟩ := k4 i k w (by simpa using e1) (by simpa using e2)
          exact ⟨y, by simpa using h1, h2⟩
theorem pe_dictZip (hc : X.calm = true) (hg : Gl X "dict") (hm : X.mg "dict" = none) (hg2 : Gl X "zip") (hm2 : X.mg "zip" = none) (ha : PA X [e, e2] ta)
    (hs : starEach [e, e2] X.env = (false, eval e X.env) :: starEach [e2] X.env) (hpl : (backTo q (starEach [e2] X.env)).any (·.1) = false)
    (hs2 : starEach [.Call (.Name "zip" p2) [e, e2] [] q] X.env = (false, eval (.Call (.Name "zip" p2) [e, e2] [] q) X.env) :: starEach [] X.env) :
    PE X (.Call (.Name "dict" p) [.Call (.Name "zip" p2) [e, e2] [] q] [] pos) (tDZ X.K ta) := by
  refine ⟨fun pins s σ H Q I h => ?_⟩
  refine Call_ (ld_blt I hg hm boot_dict (PyProof.Rows.callWith_type1 (args_cons ?_ hs2) hs2 rfl))
  refine Call_ (ld_blt I hg2 hm2 PyProof.Rows.boot_zip (PyProof.Rows.callWith_type1 (thn (ha.run q pins s σ H _ I h) fun us s1 ⟨vs, H1, I1, r1, q1⟩ => ?_) hs hpl))
  obtain ⟨a, b, kvs, rfl, hqa, hqb, q1⟩ := q1
  cases r1 with
  | cons r rr =>
    cases rr with
    | cons r' rr =>
      cases rr
      cases r
      cases r'
      obtain ⟨its, rv, p1, hz1⟩ := I1.tuple hqa
      obtain ⟨its2, rv2, p22, hz2⟩ := I1.tuple hqb
      obtain ⟨o1, ho1, _⟩ := id p1
      obtain ⟨o2, ho2, _⟩ := id p22
      obtain ⟨prs, k1, k2, k3, k4⟩ := kvs_of X.prog X.w rv rv2
      have la : a < s1.heap.objs.size := Heap.lt_size ho1
      have lb : b < s1.heap.objs.size := Heap.lt_size ho2
      refine RZ.call_zipT (show s1.heap.IsTuple a its.toArray from p1) (show s1.heap.IsTuple b its2.toArray from p22) fun h' hz hTI hTO h1 h2 hsz hk => args_nil ?_
      have S := zipSep s1.heap.objs.size a b la lb
      have I2 : Inv X pins σ H1 { s1 with heap := h' } := I1.kept (t' := s1.toks) hk
      have P := pairZipT (prog := X.prog) (w := X.w) (s1.heap.objs.size + 4) (s1.heap.objs.size + 2) (s1.heap.objs.size + 3) s1.heap.objs.size (s1.heap.objs.size + 1) a b (PySem.W.ktu_apart s1.heap.objs.size a b la lb) S (natNe _ _ la).1 (natNe _ _ lb).2 its.toArray its2.toArray (by rw [List.size_toArray, List.size_toArray, k3])
      have hszI : its.toArray.size ≤ sizeLine := by rw [List.size_toArray, ← rv.length]; exact hz1
      refine PySem.call_dict_pairs (knd := mixKind X.prog X.w) (kvs := prs) (s := { s1 with heap := h' }) P (I2.ok.hd hc) ⟨hz, hTI, ⟨_, _, hTO⟩, ⟨h1, ?_⟩, h2, ?_⟩ ⟨by rw [k2, List.size_toArray], fun i k v hh => ?_⟩ hszI fun h2' tk hd hk2 => ?_
      · obtain ⟨o, ho, x⟩ := p1; exact ⟨o, hk _ _ ho, x⟩
      · obtain ⟨o, ho, x⟩ := p22; exact ⟨o, hk _ _ ho, x⟩
      · exact k4 i k v (by simpa using hh.1) (by simpa using hh.2)
      · have hlen : (mergeK [] kvs).length ≤ sizeLine := by
          refine Nat.le_trans (length_mergeK kvs []) ?_
          rw [List.length_nil, Nat.zero_add]
          have := k1.length
          rw [this, k2, ← rv.length]; exact hz1
        have hm' : (h'.objs.size == sysModules) = false := beq_eq_false_iff_ne.mpr (Nat.ne_of_gt I2.big)
        have hk3 : ∀ c o, s1.heap.get? c = some o → h2'.get? c = some o := fun c o ec => hk2 c o (notNew _ _ (Heap.lt_size ec)) (hk _ _ ec)
        refine ⟨.ref h'.objs.size, upd H1 h'.objs.size (.dK (mergeK [] kvs)), I1.laid (t' := tk) hk3 (by rw [hsz]; omega) ⟨hlen, hm', merged [] prs, KV.merge k1 .nil, hd⟩, rfl, q1 _ (I1.hok.fresh (by rw [hsz]; omega))⟩
end
section
variable {X : Cx} {e e2 : Expr} {p p2 q pos : Pos} {ρ : Env} {M M1 : Mem} {κ α : Type} [DecidableEq κ] {kf : κ → L2.Key} {vf : α → D} {ks : List κ} {xs : List α}
theorem n_dictZip (hc : X.calm = true) (inj : ∀ a b, kf a = kf b → a = b) (ha : XA X [e, e2] ρ M [.tup (ks.map fun k => kD (kf k)), .tup (xs.map vf)] M1) (hl : ks.length = xs.length) (hm : X.mg "dict" = none) (hm2 : X.mg "zip" = none) (hg : Gl X "dict" := by rfl) (hg2 : Gl X "zip" := by rfl)
    (hs : starEach [e, e2] X.env = (false, eval e X.env) :: starEach [e2] X.env := by exact star_of rfl) (hpl : (backTo q (starEach [e2] X.env)).any (·.1) = false := by exact nostars rfl)
    (hs2 : starEach [.Call (.Name "zip" p2) [e, e2] [] q] X.env = (false, eval (.Call (.Name "zip" p2) [e, e2] [] q) X.env) :: starEach [] X.env := by exact star_of rfl) :
    XN X (.Call (.Name "dict" p) [.Call (.Name "zip" p2) [e, e2] [] q] [] pos) ρ M (mDK kf vf (dmerge [] (ks.zip xs))) M1 := .mk fun G σ H Q sl w q0 =>
  Sem.of (pe_dictZip hc hg hm hg2 hm2 pa_sem hs hpl hs2) (ha.run G σ H _ sl w fun vs G1 H1 e1 w1 r1 => by
    obtain ⟨v, u, rfl, h1, h2⟩ := r1.two
    obtain ⟨a, va, rfl, ha1, ra⟩ := of_tup h1
    obtain ⟨b, vb, rfl, hb1, rb⟩ := of_tup h2
    have key : ∀ {ks : List κ} {xs : List α} {va vb : List V}, ks.length = xs.length → RepL X.K G1 (ks.map fun k => kD (kf k)) va → RepL X.K G1 (xs.map vf) vb →
        ∃ kvs : List (L2.Key × V), va = kvs.map (fun x => kV x.1) ∧ vb = kvs.map (·.2) ∧ DRel X.K G1 kf vf (ks.zip xs) kvs := by
      intro ks
      induction ks with
      | nil =>
        intro xs va vb hl h1 h2
        have : xs = [] := List.length_eq_zero_iff.mp (by simpa using hl.symm)
        subst this
        unfold RepL at h1 h2
        subst h1; subst h2
        exact ⟨[], rfl, rfl, DRel.nil⟩
      | cons k ks ih =>
        intro xs va vb hl h1 h2
        cases xs with
        | nil => cases hl
        | cons x xs =>
          rw [List.map_cons] at h1 h2
          unfold RepL at h1 h2
          obtain ⟨v1, r1, rfl, a1, t1⟩ := h1
          obtain ⟨v2, r2, rfl, a2, t2⟩ := h2
          obtain ⟨kvs, rfl, rfl, rel⟩ := ih (by simpa using hl) t1 t2
          have := rep_key a1; subst this
          exact ⟨(kf k, v2) :: kvs, rfl, rfl, DRel.cons (p := (k, x)) a2 rel⟩
    obtain ⟨kvs, rfl, rfl, rel⟩ := key hl ra rb
    have rel2 := drel_merge inj (DRel.nil (K := X.K) (G := G1) (kf := kf) (vf := vf)) rel
    exact ⟨a, b, kvs, rfl, (ha1.mono w1.ex).sq, (hb1.mono w1.ex).sq, fun l hl => q0 l G1 _ e1 (w1.newO hl ⟨_, upd_same, rel2.k, rel2.v⟩)⟩)
end
end Wk

/-! Wk: enumerate and zip as what is walked. -/
namespace Wk
open PySem PySem.Spec PyProof.Rows L2 Evl
/-- the tuple at a, each item in a new pair with its place -/
def IteT (K : PySem.W.Frag) (a : Addr) : It :=
  ⟨fun i H => ∃ (xs : List V) (x : V), SqT K H a xs ∧ xs[i]? = some x, fun i H v H' => ∃ T x, v = .ref T ∧ H T = none ∧ H' = upd H T (.tup [.int (i : Nat), x]) ∧ ∀ xs, SqT K H a xs → xs[i]? = some x, fun i H => ∃ xs : List V, SqT K H a xs ∧ xs.length ≤ i⟩
abbrev EnSt (a e it : Addr) (i : Nat) (h : Heap) : Prop := (∃ old, IsEnum h e it ((i : Nat) : Int) old) ∧ h.IsTupleIter it a i
theorem two_lt {c e it n : Nat} (h : c ∈ [e, it]) (h1 : e < n) (h2 : it < n) : c < n := by
  rcases List.mem_cons.mp h with rfl | h
  · exact h1
  · rw [List.mem_singleton.mp h]; exact h2
theorem turn_enumT {P : Program} {w : World} {K : PySem.W.Frag} {elts : List Expr} {kk : Nat} {tpos : Pos} (a e it : Addr) (ne : e ≠ it) (nea : a ≠ e) (nia : a ≠ it) :
    Turn P w K (.Tuple elts kk tpos) (IteT K a) [e, it] e (EnSt a e it) where
  mem := List.mem_cons_self
  obj := fun i h ⟨⟨old, he⟩, o, ho, hc, hd⟩ b hb => by
    rcases List.mem_cons.mp hb with rfl | hb
    · exact ⟨_, he, fun v q => nomatch q⟩
    · rw [List.mem_singleton.mp hb]; exact ⟨o, ho, fun v q => by rw [hd] at q; cases q⟩
  keep := fun i h h' ⟨⟨old, he⟩, hi⟩ k => ⟨⟨old, k e List.mem_cons_self _ he⟩, hi.at fun o q => k it (List.mem_cons_of_mem _ List.mem_cons_self) o q⟩
  item := by
    intro X hP hw hK hc i pins s σ H E I hf ⟨⟨old, he⟩, hit⟩ ⟨xs, x, hq, hx⟩
    subst hP hw hK
    obtain ⟨its, rv, p, hz⟩ := I.tuple hq
    obtain ⟨u, hu, ru⟩ := rv.get hx
    have le : e < s.heap.objs.size := Heap.lt_size he
    have li : it < s.heap.objs.size := let ⟨_, q, _⟩ := hit; Heap.lt_size q
    have D : Draws X.prog X.w X.A.in1 it [it, a] its.toArray.size (fun i v => its.toArray[i]? = some v) (fun i h => h.IsTupleIter it a i ∧ h.IsTuple a its.toArray) := PySem.Draws.tuple (hd_in1 (I.ok.hd hc)) it a nia its.toArray
    have hlt : i < its.toArray.size := by rw [List.size_toArray]; exact (List.getElem?_eq_some_iff.mp hu).1
    refine PySem.wpAny_pyNext_enum_itemD D he ⟨hit, p⟩ hlt ne (by simp only [List.mem_cons, List.not_mem_nil, or_false, not_or]; exact ⟨ne, Ne.symm nea⟩) fun u' h' tk hu' ho hit' hT hsz hk => ⟨_, rfl, wpAny_letOwnedTupleGo_enum (s := { s with heap := h', toks := tk + 1 }) ho fun h2 he2 sb => ?_⟩
    have : u' = u := by
      have h1 : its[i]? = some u' := by simpa using hu'
      rw [hu] at h1; exact (Option.some.inj h1).symm
    subst this
    have hT2 : h2.get? s.heap.objs.size = some { cls := .type "tuple", data := .seq #[.int i tk, u'] } := (sb.2 _ (Nat.ne_of_gt le)).trans hT
    have new : ObjOk X.prog X.w (upd H s.heap.objs.size (.tup [.int (i : Nat), x])) h2 s.heap.objs.size (.tup [.int (i : Nat), x]) := ⟨by show 2 ≤ sizeLine; decide, [.int i tk, u'], .cons ⟨_, rfl⟩ (.cons ru .nil), _, hT2, rfl, _, rfl⟩
    have I1 := I.turnedNew (t' := tk + 1) (ch := [e, it]) (fun b ob hb q => by
      simp only [List.mem_cons, List.not_mem_nil, or_false, not_or] at hb
      exact (sb.2 b hb.1).trans (hk b ob hb.1 hb.2 q)) hf (Nat.le_refl _) new
    refine ⟨.ref s.heap.objs.size, _, I1, rfl, ⟨_, x, rfl, I.hok.fresh (Nat.le_refl _), rfl, fun ys hy => by rw [I.tuple_inj hy hq]; exact hx⟩, ⟨⟨u', ?_⟩, hit'.1.at fun o q => (sb.2 it (Ne.symm ne)).trans q⟩, fun b hb => ?_⟩
    · have e1 : ((i + 1 : Nat) : Int) = (i : Int) + 1 := by omega
      rw [e1]; exact he2
    · rw [upd_ne (Nat.ne_of_lt (two_lt hb le li))]
      exact (hf b hb).1
  done := by
    intro X hP hw hK hc i pins s σ H E I hf ⟨⟨old, he⟩, hit⟩ ⟨xs, hq, hx⟩
    subst hP hw hK
    obtain ⟨its, rv, p, hz⟩ := I.tuple hq
    obtain ⟨f0, f1, f2, f3, f4, f5⟩ := hf it (List.mem_cons_of_mem _ List.mem_cons_self)
    have hl := rv.length
    have hT : s.TypeIs (.ref e) "enumerate" := ⟨_, he, rfl⟩
    unfold pyNext
    refine wpAny_bind (wpAny_attempt (wpAny_callSpecial?_slot (name := Str.ofString "__next__") hT PySem.F.slot_enumerate_next (wpAny_call_entry PySem.F.slot_enumerate_next hT PySem.F.entry_enumerate_next
      (show wpAny _ _ (field (.ref e) 2 >>= fun _ => _) _ _ _ from wpAny_bind (wpAny_field (i := 2) he rfl (x := .ref it) rfl (wpAny_bind (PySem.wpAny_nextOf_tuple_end (hd_in1 (I.ok.hd hc)) hit p (by simp; omega) fun h' z eb hz' => ?_)))) (PySem.F.args_enumerate_next_1 _))))
    obtain ⟨o, ho, hco⟩ := hz'
    exact wpAny_bind (wpAny_isInstance (T := "StopIteration") (b := true) ⟨o, ho, hco⟩ isSubtype_stop (wpAny_pure ⟨rfl, I.turned (t' := s.toks) (fun b o hb q => eb b o hb q) f0 f1 f3 f4 f5⟩))
  self := fun A i s Q E ⟨⟨_, he⟩, _⟩ h => wpAny_pyIter_enum he h
theorem meets_enumT (l : Addr) (xs : Array Value) : Meets (Builtin.«enumerate.__new__» ⟨[.type "enumerate", .ref l], []⟩) (fun _ R s => s.heap.IsTuple l xs ∧
      R (.ok (.ret (.ref (s.heap.push { cls := .type "tuple_iterator", data := .fields #[.ref l, .int 0 0] }).objs.size)))
        { s with heap := (s.heap.push { cls := .type "tuple_iterator", data := .fields #[.ref l, .int 0 0] }).push { cls := .type "enumerate", data := .fields #[.none, .bool false, .ref s.heap.objs.size, rawInt 0, .none, .none] } }) :=
  .of_wp fun prog w A R s h => by
    obtain ⟨hp, g, d, tk, os⟩ := s
    obtain ⟨hl, h⟩ := h
    have hsub := sub_enumerate
    have hL : Heap.IsTuple (Shared.heap ⟨hp, g, d, tk, os⟩) l xs := hl
    wp_walk
    refine wpAny_stack_any fun st => wpAny_pure ?_
    split
    · rename_i c _ _ _ _ _
      cases (c == Value.type "enumerate") <;> (wp_walk using wpAny_pyIter_tuple hL; exact ⟨_, rfl, h⟩)
    · wp_walk using wpAny_pyIter_tuple hL
      exact ⟨_, rfl, h⟩
section
variable {prog : Program} {w : World} {A : Around} {E : Value → Shared → Prop} {s : Shared}
theorem call_enumT {l : Addr} {xs : Array Value} {Q : Value → Shared → Prop} (hL : s.heap.IsTuple l xs)
    (h : ∀ h', IsEnum h' (s.heap.objs.size + 1) s.heap.objs.size 0 .none → h'.IsTupleIter s.heap.objs.size l 0 → h'.objs.size = s.heap.objs.size + 2 → (∀ b o, s.heap.get? b = some o → h'.get? b = some o) → Q (.ref (s.heap.objs.size + 1)) { s with heap := h' }) :
    wpAny (model prog w) A (call (.type "enumerate") [.ref l]) Q E s := by
  refine callType_new PySem.F.called_enumerate (by decide) (PySem.F.typeCall_enumerate_1 _) (PySem.F.newCall_enumerate_1 _) (fun obj => PySem.F.args_object_init_2 obj _) PySem.F.entry_enumerate_new (meets_enumT l xs) ⟨hL, ?_⟩
  have hz : (s.heap.push { cls := .type "tuple_iterator", data := .fields #[.ref l, .int 0 0] }).objs.size = s.heap.objs.size + 1 := Heap.size_push ..
  show _ ∧ _
  rw [hz]
  have he := Heap.get?_push_size (s.heap.push { cls := .type "tuple_iterator", data := .fields #[.ref l, .int 0 0] }) (o := { cls := .type "enumerate", data := .fields #[.none, .bool false, .ref s.heap.objs.size, rawInt 0, .none, .none] }) rfl
  rw [hz] at he
  exact ⟨⟨_, he, rfl⟩, h _ he ⟨_, Heap.get?_push_of_some _ (Heap.get?_push_size _ rfl), rfl, rfl⟩ (by rw [Heap.size_push, hz]) fun b o x => Heap.get?_push_of_some _ (Heap.get?_push_of_some _ x)⟩
end
def iEnumT (K : PySem.W.Frag) (ta : TA) : TI := fun σ H R => ta σ H fun vs H1 => ∃ a xs, vs = [.ref a] ∧ SqT K H1 a xs ∧ R (IteT K a) H1
theorem neNew (I a : Nat) (h : a < I) : I + 1 ≠ I ∧ a ≠ I + 1 ∧ a ≠ I := by omega
theorem geNew (I b : Nat) (h : b ∈ [I + 1, I]) : I ≤ b := by
  rcases List.mem_cons.mp h with rfl | h
  · omega
  · rw [List.mem_singleton.mp h]; exact Nat.le_refl _
theorem pi_enumT {X : Cx} {e : Expr} {ta : TA} {p pos tpos : Pos} {elts : List Expr} {kk : Nat} (hg : Gl X "enumerate") (hm : X.mg "enumerate" = none) (ha : PA X [e] ta) (hs : starEach [e] X.env = [(false, eval e X.env)]) :
    PI X (.Tuple elts kk tpos) (.Call (.Name "enumerate" p) [e] [] pos) (iEnumT X.K ta) := by
  refine ⟨fun pins s σ H R I h => ?_⟩
  refine Call_ (ld_blt I hg hm boot_enumerate (PyProof.Rows.callWith_type1 (thn (ha.run pos pins s σ H _ I h) fun us s1 ⟨vs, H1, I1, r1, a, xs, ex, hq, q⟩ => ?_) hs rfl))
  subst ex
  cases r1 with
  | cons r rr =>
    cases rr
    cases r
    obtain ⟨its, rv, p', hz⟩ := I1.tuple hq
    obtain ⟨o1, ho1, _⟩ := id p'
    have la : a < s1.heap.objs.size := Heap.lt_size ho1
    obtain ⟨n1, n2, n3⟩ := neNew _ _ la
    refine call_enumT (show s1.heap.IsTuple a its.toArray from p') fun h' he hit hsz hk => wpAny_pyIter_enum he ?_
    have I2 : Inv X pins σ H1 { s1 with heap := h' } := I1.kept (t' := s1.toks) hk
    exact ⟨s1.heap.objs.size + 1, [s1.heap.objs.size + 1, s1.heap.objs.size], _, _, H1, rfl, I2, turn_enumT a (s1.heap.objs.size + 1) s1.heap.objs.size n1 n2 n3, ⟨⟨.none, he⟩, hit⟩, fun b hb => I1.fpOk (geNew _ _ hb) (I1.hok.fresh (geNew _ _ hb)), q⟩
/-! what is walked -/
def pairD (ds es : List D) : List D := (ds.zip es).map fun p => .ktup [p.1, p.2]
def placesD (ds : List D) : List D := pairD ((List.range ds.length).map fun i => D.int (i : Nat)) ds
theorem rep_ktup {K : PySem.W.Frag} {G : Hp} {a : Addr} {ds : List D} {vs : List V} (h : G a = some (.tup vs)) (r : RepL K G ds vs) : Rep K G (.ktup ds) (.ref a) := by
  unfold Rep; exact ⟨a, vs, rfl, h, r⟩
section
variable {X : Cx} {tg e e2 : Expr} {ρ : Env} {M M1 : Mem} {ds es : List D} {p pos tpos : Pos} {elts : List Expr} {kk : Nat}
theorem pairD_get {ds es : List D} {i : Nat} {d : D} (h : (pairD ds es)[i]? = some d) : ∃ x y, ds[i]? = some x ∧ es[i]? = some y ∧ d = .ktup [x, y] := by
  unfold pairD at h
  rw [List.getElem?_map] at h
  cases hz : (ds.zip es)[i]? with
  | none => rw [hz] at h; cases h
  | some p =>
    rw [hz] at h
    cases h
    have := List.getElem?_zip_eq_some.mp hz
    exact ⟨p.1, p.2, this.1, this.2, rfl⟩
theorem new_pair {K : PySem.W.Frag} {G H : Hp} {M : Mem} {T : Addr} {dx dy : D} {x y : V} (w : Wd K G M H) (hT : H T = none) (rx : Rep K G dx x) (ry : Rep K G dy y) :
    ∃ G', Ex G G' ∧ Wd K G' M (upd H T (.tup [x, y])) ∧ Rep K G' (.ktup [dx, dy]) (.ref T) :=
  ⟨_, w.exF hT _, w.newF hT _, rep_ktup upd_same (RepL.cons (rx.mono (w.exF hT _)) (RepL.cons (ry.mono (w.exF hT _)) RepL.nil))⟩
theorem i_enumT (ha : XA X [e] ρ M [.tup ds] M1) (hm : X.mg "enumerate" = none) (hg : Gl X "enumerate" := by rfl) (hs : starEach [e] X.env = [(false, eval e X.env)] := by exact star_one rfl) : XI X (.Tuple elts kk tpos) (.Call (.Name "enumerate" p) [e] [] pos) ρ M (placesD ds) M1 := .mk fun G σ H R sl w q =>
  SemI.of (pi_enumT hg hm pa_sem hs) (ha.run G σ H _ sl w fun vs G' H' e' w' r' => by
    obtain ⟨v, rfl, r⟩ := r'.one
    obtain ⟨a, vs, rfl, hv, rv⟩ := of_tup r
    have hlen : (placesD ds).length = ds.length := by unfold placesD pairD; rw [List.length_map, List.length_zip, List.length_map, List.length_range, Nat.min_self]
    refine ⟨a, vs, rfl, (hv.mono w'.ex).sq, q _ G' H' e' w' ⟨fun i G2 M2 H2 e2 w2 hi => ?_, fun i G2 M2 H2 x H3 e2 w2 y d hd => ?_, fun G2 M2 H2 e2 w2 => ?_⟩⟩
    · rw [hlen] at hi
      obtain ⟨x, hx, _⟩ := rv.get (List.getElem?_eq_getElem hi)
      exact ⟨vs, x, ((hv.mono e2).mono w2.ex).sq, hx⟩
    · obtain ⟨T, z, rfl, hT, rfl, y⟩ := y
      obtain ⟨d1, d2, h1, h2, rfl⟩ := pairD_get hd
      obtain ⟨z', hz, rz⟩ := rv.get h2
      have := y vs ((hv.mono e2).mono w2.ex).sq
      rw [hz] at this; cases this
      have hi : i < ds.length := (List.getElem?_eq_some_iff.mp h2).1
      rw [List.getElem?_map, List.getElem?_range hi] at h1
      cases h1
      exact new_pair w2 hT rep_int (rz.mono e2)
    · exact ⟨vs, ((hv.mono e2).mono w2.ex).sq, by rw [hlen]; exact Nat.le_of_eq rv.length⟩)
theorem i_enumL (ha : XA X [e] ρ M [.lst ds] M1) (hm : X.mg "enumerate" = none) (hg : Gl X "enumerate" := by rfl) (hs : starEach [e] X.env = [(false, eval e X.env)] := by exact star_one rfl) : XI X (.Tuple elts kk tpos) (.Call (.Name "enumerate" p) [e] [] pos) ρ M (placesD ds) M1 := .mk fun G σ H R sl w q =>
  SemI.of (pi_enum hg hm pa_sem hs) (ha.run G σ H _ sl w fun vs G' H' e' w' r' => by
    obtain ⟨v, rfl, r⟩ := r'.one
    obtain ⟨a, vs, rfl, hv, rv⟩ := of_lst r
    have hlen : (placesD ds).length = ds.length := by unfold placesD pairD; rw [List.length_map, List.length_zip, List.length_map, List.length_range, Nat.min_self]
    refine ⟨a, vs, rfl, SqL.of (w'.ex _ _ hv), q _ G' H' e' w' ⟨fun i G2 M2 H2 e2 w2 hi => ?_, fun i G2 M2 H2 x H3 e2 w2 y d hd => ?_, fun G2 M2 H2 e2 w2 => ?_⟩⟩
    · rw [hlen] at hi
      obtain ⟨x, hx, _⟩ := rv.get (List.getElem?_eq_getElem hi)
      exact ⟨vs, x, SqL.of (w2.ex _ _ (e2 _ _ hv)), hx⟩
    · obtain ⟨T, z, rfl, hT, rfl, y⟩ := y
      obtain ⟨d1, d2, h1, h2, rfl⟩ := pairD_get hd
      obtain ⟨z', hz, rz⟩ := rv.get h2
      have := y vs (SqL.of (w2.ex _ _ (e2 _ _ hv)))
      rw [hz] at this; cases this
      have hi : i < ds.length := (List.getElem?_eq_some_iff.mp h2).1
      rw [List.getElem?_map, List.getElem?_range hi] at h1
      cases h1
      exact new_pair w2 hT rep_int (rz.mono e2)
    · exact ⟨vs, SqL.of (w2.ex _ _ (e2 _ _ hv)), by rw [hlen]; exact Nat.le_of_eq rv.length⟩)
theorem zlen {ds es : List D} (hl : ds.length = es.length) : (pairD ds es).length = ds.length := by unfold pairD; rw [List.length_map, List.length_zip, hl, Nat.min_self]
theorem i_zipT (ha : XA X [e, e2] ρ M [.tup ds, .tup es] M1) (hl : ds.length = es.length) (hm : X.mg "zip" = none) (hg : Gl X "zip" := by rfl) (hs : starEach [e, e2] X.env = (false, eval e X.env) :: starEach [e2] X.env := by exact star_of rfl) (hpl : (backTo pos (starEach [e2] X.env)).any (·.1) = false := by exact nostars rfl) :
    XI X (.Tuple elts kk tpos) (.Call (.Name "zip" p) [e, e2] [] pos) ρ M (pairD ds es) M1 := .mk fun G σ H R sl w q =>
  SemI.of (RZ.pi_zipA hg hm pa_sem hs hpl) (ha.run G σ H _ sl w fun vs G' H' e' w' r' => by
    obtain ⟨v, u, rfl, r, r2⟩ := r'.two
    obtain ⟨a, vs, rfl, hv, rv⟩ := of_tup r
    obtain ⟨b, us, rfl, hu, ru⟩ := of_tup r2
    refine ⟨a, b, vs, us, rfl, .inr ⟨(hv.mono w'.ex).sq, (hu.mono w'.ex).sq, q _ G' H' e' w' ⟨fun i G2 M2 H2 e2 w2 hi => ?_, fun i G2 M2 H2 x H3 e2 w2 y d hd => ?_, fun G2 M2 H2 e2 w2 => ?_⟩⟩⟩
    · rw [zlen hl] at hi
      obtain ⟨x, hx, _⟩ := rv.get (List.getElem?_eq_getElem hi)
      obtain ⟨y, hy, _⟩ := ru.get (List.getElem?_eq_getElem (by rw [← hl]; exact hi))
      exact ⟨vs, us, x, y, ((hv.mono e2).mono w2.ex).sq, ((hu.mono e2).mono w2.ex).sq, hx, hy⟩
    · obtain ⟨T, z, z2, rfl, hT, rfl, y, y2⟩ := y
      obtain ⟨d1, d2, h1, h2, rfl⟩ := pairD_get hd
      obtain ⟨z', hz, rz⟩ := rv.get h1
      obtain ⟨z2', hz2, rz2⟩ := ru.get h2
      have e1 := y vs ((hv.mono e2).mono w2.ex).sq
      have e3 := y2 us ((hu.mono e2).mono w2.ex).sq
      rw [hz] at e1; cases e1
      rw [hz2] at e3; cases e3
      exact new_pair w2 hT (rz.mono e2) (rz2.mono e2)
    · exact ⟨vs, us, ((hv.mono e2).mono w2.ex).sq, ((hu.mono e2).mono w2.ex).sq, .inl (by rw [zlen hl]; exact Nat.le_of_eq rv.length)⟩)
theorem i_zipL (ha : XA X [e, e2] ρ M [.lst ds, .lst es] M1) (hl : ds.length = es.length) (hm : X.mg "zip" = none) (hg : Gl X "zip" := by rfl) (hs : starEach [e, e2] X.env = (false, eval e X.env) :: starEach [e2] X.env := by exact star_of rfl) (hpl : (backTo pos (starEach [e2] X.env)).any (·.1) = false := by exact nostars rfl) :
    XI X (.Tuple elts kk tpos) (.Call (.Name "zip" p) [e, e2] [] pos) ρ M (pairD ds es) M1 := .mk fun G σ H R sl w q =>
  SemI.of (RZ.pi_zipA hg hm pa_sem hs hpl) (ha.run G σ H _ sl w fun vs G' H' e' w' r' => by
    obtain ⟨v, u, rfl, r, r2⟩ := r'.two
    obtain ⟨a, vs, rfl, hv, rv⟩ := of_lst r
    obtain ⟨b, us, rfl, hu, ru⟩ := of_lst r2
    refine ⟨a, b, vs, us, rfl, .inl ⟨SqL.of (w'.ex _ _ hv), SqL.of (w'.ex _ _ hu), q _ G' H' e' w' ⟨fun i G2 M2 H2 e2 w2 hi => ?_, fun i G2 M2 H2 x H3 e2 w2 y d hd => ?_, fun G2 M2 H2 e2 w2 => ?_⟩⟩⟩
    · rw [zlen hl] at hi
      obtain ⟨x, hx, _⟩ := rv.get (List.getElem?_eq_getElem hi)
      obtain ⟨y, hy, _⟩ := ru.get (List.getElem?_eq_getElem (by rw [← hl]; exact hi))
      exact ⟨vs, us, x, y, SqL.of (w2.ex _ _ (e2 _ _ hv)), SqL.of (w2.ex _ _ (e2 _ _ hu)), hx, hy⟩
    · obtain ⟨T, z, z2, rfl, hT, rfl, y, y2⟩ := y
      obtain ⟨d1, d2, h1, h2, rfl⟩ := pairD_get hd
      obtain ⟨z', hz, rz⟩ := rv.get h1
      obtain ⟨z2', hz2, rz2⟩ := ru.get h2
      have e1 := y vs (SqL.of (w2.ex _ _ (e2 _ _ hv)))
      have e3 := y2 us (SqL.of (w2.ex _ _ (e2 _ _ hu)))
      rw [hz] at e1; cases e1
      rw [hz2] at e3; cases e3
      exact new_pair w2 hT (rz.mono e2) (rz2.mono e2)
    · exact ⟨vs, us, SqL.of (w2.ex _ _ (e2 _ _ hv)), SqL.of (w2.ex _ _ (e2 _ _ hu)), .inl (by rw [zlen hl]; exact Nat.le_of_eq rv.length)⟩)
/-- a pair that is walked is taken apart -/
theorem g_ktup {es : List Expr} {k n : Nat} {is : List Nat} {ρ1 : Env} (hc : X.calm = true) (h : XGs X es ds is ρ ρ1) (hl : ds.length = n := by rfl) (hn : (assignEach es X.env).length = n := by exact asg_len) (hst : (assignEach es X.env).findIdx? (·.1) = none := by exact asg_none rfl) :
    XG X (.Tuple es k pos) (.ktup ds) is ρ ρ1 := .mk fun G v σ H Q sl ex r q => by
  obtain ⟨a, vs, rfl, hv, rv⟩ := of_ktup r
  exact SemG.of (pg_tup hc pgs_sem hn hst) ⟨a, vs, rfl, SqT.of (ex _ _ hv), rv.length.trans hl, h.run G vs σ H Q sl ex rv q⟩
end
/-! typed -/
abbrev eK2 {α β : Type} (f : α → D) (g : β → D) (x : α × β) : D := .ktup [f x.1, g x.2]
def places {α : Type} (xs : List α) : List (Int × α) := ((List.range xs.length).map fun i => ((i : Nat) : Int)).zip xs
theorem pairD_map {α β : Type} (f : α → D) (g : β → D) (xs : List α) (ys : List β) : pairD (xs.map f) (ys.map g) = (xs.zip ys).map (eK2 f g) := by
  unfold pairD
  rw [List.zip_map, List.map_map]; rfl
theorem placesD_map {α : Type} (f : α → D) (xs : List α) : placesD (xs.map f) = (places xs).map (eK2 D.int f) := by
  unfold placesD places
  rw [List.length_map, ← pairD_map, List.map_map]; rfl
end Wk

/-! Wk: sets that are made of lists and tuples. -/
namespace Wk
open PySem PySem.Spec PyProof.Rows L2 Evl
/-- what is known of a set while it is filled -/
structure Fill (prog : Program) (w : World) (S : Addr) (n : Nat) (P : Nat → Value → Prop) (J : Nat → Heap → Prop) : Prop where
  keep : ∀ i h h', J i h → (∀ o, h.get? S = some o → h'.get? S = some o) → J i h'
  add : ∀ (A : Around) (i : Nat) (v : Value) (s : Shared) (Q : Bool → Shared → Prop) (E : Value → Shared → Prop), i < n → P i v → J i s.heap →
    (∀ b h' tk, s.toks ≤ tk → Heap.SameBut S s.heap h' → J (i + 1) h' → Q b { s with heap := h', toks := tk }) → wpAny (model prog w) A (setAdd S v) Q E s
section
variable {prog : Program} {w : World} {A : Around} {R : Result → Shared → Prop} {I : Addr} {fp wr : List Addr} {G : Array GenState → Array GenState → Prop} {n : Nat} {P : Nat → Value → Prop} {St : Nat → Shared → Prop} {J : Nat → Heap → Prop} {S : Addr}
theorem fillLoop (W : WalksS prog w A.in1 I fp wr G n P St) (hSf : S ∉ fp) (F : Fill prog w S n P J) : ∀ (k i : Nat) (s : Shared), n - i = k → i ≤ n → St i s → J i s.heap →
      (∀ s', Moved (S :: wr) G s s' → J n s'.heap → R (.ok (.ret .none)) s') → codeAny (model prog w) A (.builtin "set.update.loop" ⟨[.ref S, .ref I], []⟩) R s := by
  have nw : S ∉ wr := fun h => hSf (W.sub _ h)
  have up : ∀ b ∈ wr, b ∈ S :: wr := fun b hb => List.mem_cons_of_mem _ hb
  intro k
  induction k with
  | zero =>
    intro i s hk hi st hJ hR
    obtain rfl : i = n := by omega
    refine codeAny_builtin PyProof.Rows.F.entry_set_update_loop ?_
    rw [Around.under_plainId PyProof.Rows.F.plain_set_update_loop _]
    exact wpAny_bind (m := pyNext (.ref I)) (W.done s _ _ st fun s' hm => wpAny_pure (hR s' (hm.mono up) (F.keep _ _ _ hJ fun o e => hm.heap S _ nw e)))
  | succ k ih =>
    intro i s hk hi st hJ hR
    have hlt : i < n := by omega
    refine codeAny_builtin PyProof.Rows.F.entry_set_update_loop ?_
    rw [Around.under_plainId PyProof.Rows.F.plain_set_update_loop _]
    refine wpAny_bind (m := pyNext (.ref I)) (W.item i s _ _ hlt st fun v s' hP st' hm => ?_)
    show wpAny _ A.in1 (holding [v] (setAdd S v) >>= fun _ => _) _ _ s'
    refine wpAny_bind (wpAny_holding (F.add A.in1 i v s' _ _ hlt hP (F.keep _ _ _ hJ fun o e => hm.heap S _ nw e) fun b h' tk le sb hJ' => ?_))
    exact wpAny_pure ⟨plainId_quiet PyProof.Rows.F.plain_set_update_loop _, ih (i + 1) _ (by omega) hlt (W.frame _ s' _ _ st' le fun b hb o e => (sb.2 b (fun h : b = S => hSf (h ▸ hb))).trans e) hJ' fun s2 hm2 hJ2 => hR s2 (Moved.trans W.gtrans ((hm.mono up).then_heap le fun b o hb e => (sb.2 b (fun h : b = S => hb (h ▸ List.mem_cons_self))).trans e) hm2) hJ2⟩
end
section
variable {prog : Program} {w : World} {A : Around} {E : Value → Shared → Prop} {s : Shared} {J : Nat → Heap → Prop}
abbrev freshSet (led : Bool) : Obj := { cls := .type "set", dict := none, data := .set #[] 0 (.fresh 0 0 led) }
/-- what the walk of the argument is: a list's, a tuple's -/
def SeqArg (h : Heap) (l : Addr) (items : Array Value) : Prop := h.IsList l items ∨ h.IsTuple l items
theorem SeqArg.push {h : Heap} {l : Addr} {items : Array Value} (x : SeqArg h l items) (o : Obj) : SeqArg (h.push o) l items := x.imp (fun x => x.push o) fun x => x.push o
theorem SeqArg.lt {h : Heap} {l : Addr} {items : Array Value} (x : SeqArg h l items) : l < h.objs.size := x.elim (fun ⟨_, e, _⟩ => Heap.lt_size e) fun ⟨_, e, _⟩ => Heap.lt_size e
theorem notTwo (S I l : Nat) (h1 : l < S) (h2 : I = S + 1) : S ∉ [I, l] ∧ l ≠ I := by
  subst h2
  refine ⟨fun h => ?_, by omega⟩
  rcases List.mem_cons.mp h with e | h
  · omega
  · have := List.mem_singleton.mp h; omega
abbrev ledOf (w : World) : Bool := !w.params.followText "set-order"
theorem keepOld (n b : Nat) (h : b < n) : b ∉ [n, n + 1] := by
  intro hm
  rcases List.mem_cons.mp hm with e | hm
  · omega
  · have := List.mem_singleton.mp hm; omega
set_option maxHeartbeats 8000000 in
/-- set(x) of a list or a tuple: the set that is filled from the left -/
theorem call_set_fill {l : Addr} {items : Array Value} {Q : Value → Shared → Prop} (hh : A.handled = none) (hl : SeqArg s.heap l items) (F : Fill prog w s.heap.objs.size items.size (fun i v => items[i]? = some v) J)
    (h0 : ∀ h, h.get? s.heap.objs.size = some (freshSet (ledOf w)) → J 0 h)
    (hQ : ∀ h' tk, J items.size h' → (∀ b o, s.heap.get? b = some o → h'.get? b = some o) → Q (.ref s.heap.objs.size) { s with heap := h', toks := tk }) :
    wpAny (model prog w) A (call (.type "set") [.ref l]) Q E s := by
  have lS : l < s.heap.objs.size := hl.lt
  obtain ⟨c, tl, hmro⟩ := PySem.F.called_set.mro; have hmade := PySem.F.called_set.made; have hsub := PySem.F.called_set.sub
  refine wpAny_call (codeAny_of_tree (show wpAny _ _ (callAny (.type "set") _) _ _ _ from wpAny_pure ⟨Code.quiet_builtin _ (by decide +kernel), codeAny_builtin PySem.F.entry_type_call ?_⟩))
  rw [Around.under_plain (weight_type_call_type "set" [.ref l] []) rfl]; have h1 := PySem.F.called_set.notType; have h2 := PySem.F.called_set.canCreate; have hct := PySem.F.typeCall_set_1 (.ref l)
  repeat (any_goals (first | assumption | wp_step))
  refine codeAny_mono (code_set_led1 (.ref l) (E := E) (Q₁ := fun obj s₁ => obj = .ref s.heap.objs.size ∧ s₁ = { s with heap := s.heap.push (freshSet (ledOf w)) }) ⟨rfl, rfl⟩) fun r s₁ hr => ?_
  rcases r with e | fl; · exact hr
  cases fl with
  | ret obj =>
    obtain ⟨rfl, rfl⟩ := hr
    have gS : (s.heap.push (freshSet (ledOf w))).get? s.heap.objs.size = some (freshSet (ledOf w)) := Heap.get?_push_size _ rfl
    have tS : Shared.TypeIs { s with heap := s.heap.push (freshSet (ledOf w)) } (.ref s.heap.objs.size) "set" := ⟨_, gS, rfl⟩
    have zS : (s.heap.push (freshSet (ledOf w))).objs.size = s.heap.objs.size + 1 := Heap.size_push ..
    have hli := PySem.F.called_set.init.lookup; have hbi := PySem.F.called_set.init.bind (.ref s.heap.objs.size)
    repeat (any_goals (first | assumption | wp_step))
    have hh3 : A.in1.in1.in1.handled = none := hh
    obtain ⟨nI, nl⟩ := notTwo s.heap.objs.size (s.heap.push (freshSet (ledOf w))).objs.size l lS zS
    refine codeAny_mono (codeAny_call_builtin (R := wants (fun r s₂ => r = .none ∧ ∃ h' tk, s₂ = { s with heap := h', toks := tk } ∧ J items.size h' ∧ (∀ b o, s.heap.get? b = some o → h'.get? b = some o)) E)
      PySem.F.called_set.init.plain PySem.F.entry_set_init (check_set_init_1 tS ?_)) fun r₂ s₂ hr₂ => ?_
    ·
      rcases hl with hl | hl
      · obtain ⟨⟨oc, od, odt, osl⟩, hol, hcl, nl', hdl⟩ := hl
        simp only at hcl hdl
        subst hcl; subst hdl
        have hol2 := Heap.get?_push_of_some (freshSet (ledOf w)) hol
        have a1 := PySem.F.sub_list_set; have a2 := PySem.F.sub_list_frozenset; have a3 : (Value.type "list" == Value.type "dict") = false := by decide
        have hl1 : (s.heap.push (freshSet (ledOf w))).IsList l items := ⟨_, hol2, rfl, nl', rfl⟩
        unfold Builtin.«set.__init__» noKeywords Builtin.Frozenset.updateFrom
        generalize hPI : pyIter = PI; wp_walk; subst hPI
        refine wpAny_pyIter_list hl1 (wpAny_bind (wpAny_runValue (fillLoop ((Walks.list hh3 _ l nl items).toS) nI F (items.size - 0) 0 _ (by omega) (Nat.zero_le _) ⟨⟨_, Heap.get?_push_size _ rfl, rfl, rfl⟩, hl1.push _⟩ (h0 _ (Heap.get?_push_of_some _ gS)) fun s' hm hJ => ?_)))
        obtain ⟨h', g2, d', tk', os'⟩ := s'
        obtain rfl : g2 = s.gens := hm.gens
        obtain rfl : d' = s.drawn := hm.drawn
        obtain rfl : os' = s.os := hm.os
        refine wpAny_pure (wpAny_pure ⟨rfl, h', tk', rfl, hJ, fun b o e => hm.heap b o ?_ (Heap.get?_push_of_some _ (Heap.get?_push_of_some _ e))⟩)
        rw [zS]; exact keepOld _ _ (Heap.lt_size e)
      · obtain ⟨⟨oc, od, odt, osl⟩, hol, hcl, nl', hdl⟩ := hl
        simp only at hcl hdl
        subst hcl; subst hdl
        have hol2 := Heap.get?_push_of_some (freshSet (ledOf w)) hol
        have a1 := PySem.F.sub_tuple_set; have a2 := PySem.F.sub_tuple_frozenset; have a3 : (Value.type "tuple" == Value.type "dict") = false := by decide
        have hl1 : (s.heap.push (freshSet (ledOf w))).IsTuple l items := ⟨_, hol2, rfl, nl', rfl⟩
        unfold Builtin.«set.__init__» noKeywords Builtin.Frozenset.updateFrom
        generalize hPI : pyIter = PI; wp_walk; subst hPI
        refine wpAny_pyIter_tuple hl1 (wpAny_bind (wpAny_runValue (fillLoop ((Walks.tuple hh3 _ l nl items).toS) nI F (items.size - 0) 0 _ (by omega) (Nat.zero_le _) ⟨⟨_, Heap.get?_push_size _ rfl, rfl, rfl⟩, hl1.push _⟩ (h0 _ (Heap.get?_push_of_some _ gS)) fun s' hm hJ => ?_)))
        obtain ⟨h', g2, d', tk', os'⟩ := s'
        obtain rfl : g2 = s.gens := hm.gens
        obtain rfl : d' = s.drawn := hm.drawn
        obtain rfl : os' = s.os := hm.os
        refine wpAny_pure (wpAny_pure ⟨rfl, h', tk', rfl, hJ, fun b o e => hm.heap b o ?_ (Heap.get?_push_of_some _ (Heap.get?_push_of_some _ e))⟩)
        rw [zS]; exact keepOld _ _ (Heap.lt_size e)
    · rcases r₂ with e | fl₂; · exact hr₂
      cases fl₂ with
      | ret r =>
        obtain ⟨rfl, h', tk, rfl, hJ, hk⟩ := hr₂
        repeat (any_goals (first | assumption | wp_step))
        exact hQ _ _ hJ hk
      | _ => exact hr₂.elim
  | _ => exact hr.elim
end
end Wk

/-! Wk: len(set(x)), sorted(set(x)). -/
namespace Wk
open PySem PySem.Spec PyProof.Rows L2 Evl
/-- each once, where it comes first -/
def once {α : Type} [DecidableEq α] (xs : List α) : List α := xs.foldl (fun acc x => if x ∈ acc then acc else acc ++ [x]) []
section
variable {α : Type} [DecidableEq α]
theorem once_snoc (xs : List α) (x : α) : once (xs ++ [x]) = if x ∈ once xs then once xs else once xs ++ [x] := by unfold once; rw [List.foldl_append]; rfl
theorem once_mem {xs : List α} {y : α} : y ∈ once xs ↔ y ∈ xs := by
  have key : ∀ (n : Nat) (xs : List α), xs.length = n → (y ∈ once xs ↔ y ∈ xs) := by
    intro n
    induction n with
    | zero => intro xs h; rw [List.length_eq_zero_iff.mp h]; exact Iff.rfl
    | succ n ih =>
      intro xs h
      rcases List.eq_nil_or_concat xs with e | ⟨l, b, e⟩
      · rw [e] at h; cases h
      · rw [List.concat_eq_append] at e
        subst e
        rw [List.length_append, List.length_singleton] at h
        have := ih l (by omega)
        rw [once_snoc]
        by_cases hb : b ∈ once l
        · rw [if_pos hb, this, List.mem_append, List.mem_singleton]
          constructor
          · exact .inl
          · rintro (h | rfl)
            · exact h
            · exact this.mp hb
        · rw [if_neg hb, List.mem_append, List.mem_append, this]
  exact key _ xs rfl
theorem once_nodup (xs : List α) : (once xs).Nodup := by
  have key : ∀ (n : Nat) (xs : List α), xs.length = n → (once xs).Nodup := by
    intro n
    induction n with
    | zero => intro xs h; rw [List.length_eq_zero_iff.mp h]; exact List.nodup_nil
    | succ n ih =>
      intro xs h
      rcases List.eq_nil_or_concat xs with e | ⟨l, b, e⟩
      · rw [e] at h; cases h
      · rw [List.concat_eq_append] at e
        subst e
        rw [List.length_append, List.length_singleton] at h
        have := ih l (by omega)
        rw [once_snoc]
        by_cases hb : b ∈ once l
        · rw [if_pos hb]; exact this
        · rw [if_neg hb]
          refine List.nodup_append.mpr ⟨this, by simp, fun a ha c hc e => ?_⟩
          rw [List.mem_singleton.mp hc] at e
          subst e; exact hb ha
  exact key _ xs rfl
theorem once_len (xs : List α) : (once xs).length ≤ xs.length := by
  have key : ∀ (n : Nat) (xs : List α), xs.length = n → (once xs).length ≤ xs.length := by
    intro n
    induction n with
    | zero => intro xs h; rw [List.length_eq_zero_iff.mp h]; exact Nat.le_refl _
    | succ n ih =>
      intro xs h
      rcases List.eq_nil_or_concat xs with e | ⟨l, b, e⟩
      · rw [e] at h; cases h
      · rw [List.concat_eq_append] at e
        subst e
        rw [List.length_append, List.length_singleton] at h
        have := ih l (by omega)
        rw [once_snoc, List.length_append, List.length_singleton]
        split
        · omega
        · rw [List.length_append, List.length_singleton]; omega
  exact key _ xs rfl
end
section
variable {prog : Program} {w : World} {S : Addr}
theorem fillStr (xs : List Str) (items : Array Value) (hsz : xs.length = items.size) (hb : xs.length + 1 < scanBound) (hval : ∀ (i : Nat) (v : Value), items[i]? = some v → ∃ x t, xs[i]? = some x ∧ v = .str x t) :
    Fill prog w S items.size (fun i v => items[i]? = some v) (fun i h => h.SetOf (PySem.strKind prog w) S (fun k => decide (k ∈ once (xs.take i))) (once (xs.take i)).length) where
  keep := fun i h h' ⟨o, es, ep, t, ho, r⟩ k => ⟨o, es, ep, t, k o ho, r⟩
  add := fun A i v s Q E hi hP hJ hQ => by
    obtain ⟨x, t, hx, rfl⟩ := hval i v hP
    have hl : (once (xs.take i)).length + 1 < scanBound := by
      have h1 := once_len (xs.take i)
      rw [List.length_take] at h1
      omega
    unfold setAdd
    refine wpAny_holding (wpAny_bind ((PySem.strKind prog w).pyHash (k := x) (PySem.strKind_is _ _ _ _) ?_))
    refine wpAny_setAddHashed_of (knd := PySem.strKind prog w) (s := { s with toks := s.toks + 1 }) (PySem.strKind_is _ _ _ _) rfl hJ hl fun h' sb hS2 => ?_
    refine hQ _ h' (s.toks + 1) (Nat.le_succ _) sb (SetOf_congr hS2 (fun k => ?_) ?_)
    · rw [List.take_add_one, hx, Option.toList_some, once_snoc]
      split
      · rename_i hm
        by_cases e : k = x
        · subst e; simp [hm]
        · simp [e]
      · simp [List.mem_append]
    · rw [List.take_add_one, hx, Option.toList_some, once_snoc]
      by_cases hm : x ∈ once (xs.take i)
      · simp [hm]
      · simp [hm]
theorem fillInt (xs : List Int) (items : Array Value) (hsz : xs.length = items.size) (hb : xs.length + 1 < scanBound) (hval : ∀ (i : Nat) (v : Value), items[i]? = some v → ∃ x t, xs[i]? = some x ∧ v = .int x t) :
    Fill prog w S items.size (fun i v => items[i]? = some v) (fun i h => SetR w h S (fun k => decide (k ∈ once (xs.take i))) (once (xs.take i)).length) where
  keep := fun i h h' R k => R.at k
  add := fun A i v s Q E hi hP hJ hQ => by
    obtain ⟨x, t, hx, rfl⟩ := hval i v hP
    have hl : (once (xs.take i)).length + 1 < scanBound := by
      have h1 := once_len (xs.take i)
      rw [List.length_take] at h1
      omega
    unfold setAdd
    refine wpAny_holding (wpAny_bind ((intKind prog w).pyHash (k := x) (intKind_is _ _ _ _) ?_))
    refine setR_add_hashed (P := prog) (s := { s with toks := s.toks + 1 }) hJ hl fun h' sb hS2 => ?_
    refine hQ _ h' (s.toks + 1) (Nat.le_succ _) sb ?_
    have e2 : (if decide (x ∈ once (xs.take i)) = true then (once (xs.take i)).length else (once (xs.take i)).length + 1) = (once (xs.take (i + 1))).length := by
      rw [List.take_add_one, hx, Option.toList_some, once_snoc]
      by_cases hm : x ∈ once (xs.take i)
      · simp [hm]
      · simp [hm]
    rw [← e2]
    refine hS2.congr fun k => ?_
    rw [List.take_add_one, hx, Option.toList_some, once_snoc]
    split
    · rename_i hm
      by_cases e : k = x
      · subst e; simp [hm]
      · simp [e]
    · simp [List.mem_append]
end
section
variable {X : Cx} {a : Expr} {ta : TE} {p p2 q pos : Pos}
def SeqA (K : PySem.W.Frag) (H : Hp) (l : Addr) (vs : List V) : Prop := SqL K H l vs ∨ SqT K H l vs
theorem seqA_get {pins : List (Addr × Obj)} {σ : L2.St} {H : Hp} {s : Shared} {l : Addr} {vs : List V} (I : Inv X pins σ H s) (h : SeqA X.K H l vs) : ∃ its : List Value, Vals vs its ∧ SeqArg s.heap l its.toArray := by
  rcases h with h | h
  · obtain ⟨its, r, pl, _⟩ := I.list h; exact ⟨its, r, .inl pl.isList⟩
  · obtain ⟨its, r, pl, _⟩ := I.tuple h; exact ⟨its, r, .inr pl⟩
theorem vals_strs {xs : List Str} {its : List Value} (r : Vals (xs.map V.str) its) : ∀ (i : Nat) (v : Value), its.toArray[i]? = some v → ∃ x t, xs[i]? = some x ∧ v = .str x t := fun i v h => by
  have h : its[i]? = some v := by simpa using h
  have hl := r.length
  rw [List.length_map] at hl
  have hi : i < xs.length := by rw [hl]; exact (List.getElem?_eq_some_iff.mp h).1
  obtain ⟨u, hu, t, e⟩ := r.get (i := i) (x := .str xs[i]) (by rw [List.getElem?_map, List.getElem?_eq_getElem hi]; rfl)
  rw [h] at hu
  exact ⟨xs[i], t, List.getElem?_eq_getElem hi, (Option.some.inj hu).trans e⟩
theorem vals_intsA {xs : List Int} {its : List Value} (r : Vals (xs.map V.int) its) : ∀ (i : Nat) (v : Value), its.toArray[i]? = some v → ∃ x t, xs[i]? = some x ∧ v = .int x t := fun i v h => by
  have h : its[i]? = some v := by simpa using h
  have hl := r.length
  rw [List.length_map] at hl
  have hi : i < xs.length := by rw [hl]; exact (List.getElem?_eq_some_iff.mp h).1
  obtain ⟨u, hu, t, e⟩ := r.get (i := i) (x := .int xs[i]) (by rw [List.getElem?_map, List.getElem?_eq_getElem hi]; rfl)
  rw [h] at hu
  exact ⟨xs[i], t, List.getElem?_eq_getElem hi, (Option.some.inj hu).trans e⟩
theorem scan_ok {n : Nat} (h : n ≤ 1000) : n + 1 < scanBound := by unfold scanBound; omega
theorem pe_lenOnceS (hc : X.calm = true) (hg : Gl X "len") (hm : X.mg "len" = none) (hg2 : Gl X "set") (hm2 : X.mg "set" = none) (ha : PE X a ta) (na : starEach [a] X.env = (false, eval a X.env) :: starEach [] X.env)
    (na2 : starEach [.Call (.Name "set" p2) [a] [] q] X.env = (false, eval (.Call (.Name "set" p2) [a] [] q) X.env) :: starEach [] X.env) :
    PE X (.Call (.Name "len" p) [.Call (.Name "set" p2) [a] [] q] [] pos) (fun σ H Q => ta σ H fun x H1 => ∃ (l : Addr) (xs : List Str), x = .ref l ∧ SeqA X.K H1 l (xs.map V.str) ∧ xs.length ≤ 1000 ∧ Q (.int ((once xs).length : Nat)) H1) := by
  refine ⟨fun pins s σ H Q I h => ?_⟩
  refine Call_ (ld_blt I hg hm boot_len' (PyProof.Rows.callWith_builtin1 (args_cons (Call_ (ld_blt I hg2 hm2 boot_set (PyProof.Rows.callWith_type1 (args_cons (thn (ha.run pins s σ H _ I h) fun v s1 ⟨x, H1, I1, r1, l, xs, ex, hq, hz, q1⟩ => args_nil ?_) na) na rfl))) na2) na2 rfl))
  subst ex
  cases r1
  obtain ⟨its, r, sa⟩ := seqA_get I1 hq
  have hl : xs.length = its.toArray.size := by rw [List.size_toArray, ← r.length, List.length_map]
  refine call_set_fill (I1.ok.hd hc) sa (fillStr (prog := X.prog) (w := X.w) xs its.toArray hl (scan_ok hz) (vals_strs r)) (fun h hg => SetOf_congr ((PyProof.Rows.setObjOf_fresh (knd := PySem.strKind X.prog X.w) _).setOf hg (by unfold scanBound; omega)) (fun k => by simp [once]) rfl) fun h' tk hJ hk => args_nil ?_
  rw [← hl, List.take_length] at hJ
  obtain ⟨o, es, ep, t, ho, hex, hd, _, _, hb, hf, hn⟩ := hJ
  have I2 : Inv X pins σ H1 { s1 with heap := h', toks := tk } := I1.kept hk
  refine call_len_set ho hex hd hf (by unfold scanBound at hb; omega) ⟨.int ((once xs).length : Nat), H1, I2.tok _, ⟨_, by rw [hn]⟩, q1⟩
theorem pe_lenOnceI (hc : X.calm = true) (hg : Gl X "len") (hm : X.mg "len" = none) (hg2 : Gl X "set") (hm2 : X.mg "set" = none) (ha : PE X a ta) (na : starEach [a] X.env = (false, eval a X.env) :: starEach [] X.env)
    (na2 : starEach [.Call (.Name "set" p2) [a] [] q] X.env = (false, eval (.Call (.Name "set" p2) [a] [] q) X.env) :: starEach [] X.env) :
    PE X (.Call (.Name "len" p) [.Call (.Name "set" p2) [a] [] q] [] pos) (fun σ H Q => ta σ H fun x H1 => ∃ (l : Addr) (xs : List Int), x = .ref l ∧ SeqA X.K H1 l (xs.map V.int) ∧ xs.length ≤ 1000 ∧ Q (.int ((once xs).length : Nat)) H1) := by
  refine ⟨fun pins s σ H Q I h => ?_⟩
  refine Call_ (ld_blt I hg hm boot_len' (PyProof.Rows.callWith_builtin1 (args_cons (Call_ (ld_blt I hg2 hm2 boot_set (PyProof.Rows.callWith_type1 (args_cons (thn (ha.run pins s σ H _ I h) fun v s1 ⟨x, H1, I1, r1, l, xs, ex, hq, hz, q1⟩ => args_nil ?_) na) na rfl))) na2) na2 rfl))
  subst ex
  cases r1
  obtain ⟨its, r, sa⟩ := seqA_get I1 hq
  have hl : xs.length = its.toArray.size := by rw [List.size_toArray, ← r.length, List.length_map]
  refine call_set_fill (I1.ok.hd hc) sa (fillInt (prog := X.prog) (w := X.w) xs its.toArray hl (scan_ok hz) (vals_intsA r)) (fun h hg => (setR_new_at (ns := []) hg).congr fun k => by simp [once]) fun h' tk hJ hk => args_nil ?_
  rw [← hl, List.take_length] at hJ
  obtain ⟨o, es, ep, t, ho, hex, hd, _, _, hb, hf, hn⟩ := hJ.setOf (P := X.prog)
  have I2 : Inv X pins σ H1 { s1 with heap := h', toks := tk } := I1.kept hk
  refine call_len_set ho hex hd hf (by unfold scanBound at hb; omega) ⟨.int ((once xs).length : Nat), H1, I2.tok _, ⟨_, by rw [hn]⟩, q1⟩
/-- set(x), x of numbers -/
theorem call_setI (hc : X.calm = true) : CallR X (.type "set") (fun xs H Q => ∃ (l : Addr) (ns : List Int), xs = [.ref l] ∧ SeqA X.K H l (ns.map V.int) ∧ ns.length ≤ 1000 ∧ ∀ p, H p = none → Q (.ref p) (upd H p (SetO X.w p (fun k => decide (k ∈ once ns)) (once ns).length))) := by
  intro pins s σ H xs us Q I r ⟨l, ns, ex, hq, hz, q1⟩
  subst ex
  obtain ⟨u, rfl, rx⟩ := vals1 r
  cases rx
  obtain ⟨its, r, sa⟩ := seqA_get I hq
  have hl : ns.length = its.toArray.size := by rw [List.size_toArray, ← r.length, List.length_map]
  refine call_set_fill (I.ok.hd hc) sa (fillInt (prog := X.prog) (w := X.w) ns its.toArray hl (scan_ok hz) (vals_intsA r)) (fun h hg => (setR_new_at (ns := []) hg).congr fun k => by simp [once]) fun h' tk hJ hk => ?_
  rw [← hl, List.take_length] at hJ
  exact ⟨.ref s.heap.objs.size, _, I.laid (t' := tk) hk (Nat.le_refl _) (setO_new hJ), rfl, q1 _ (I.hok.fresh (Nat.le_refl _))⟩
end
section
variable {X : Cx} {a : Expr} {p p2 q pos : Pos} {ρ : Env} {M M1 : Mem} {d : D} {r : Int}
/-- how many there are -/
def ponce {α : Type} [DecidableEq α] (xs : List α) : Option Int := if xs.length ≤ 1000 then some ((once xs).length : Nat) else none
theorem ponce_some {α : Type} [DecidableEq α] {xs : List α} {r : Int} (h : ponce xs = some r) : xs.length ≤ 1000 ∧ (((once xs).length : Nat) : Int) = r := by
  unfold ponce at h; split at h
  · cases h; exact ⟨‹_›, rfl⟩
  · cases h
theorem x_lenOnceS {xs : List Str} (hc : X.calm = true) (ha : XE X a ρ M d M1) (hq : SeqD M1 d (xs.map D.str)) (h : ponce xs = some r) (hm : X.mg "len" = none) (hm2 : X.mg "set" = none) (hg : Gl X "len" := by rfl) (hg2 : Gl X "set" := by rfl)
    (na : starEach [a] X.env = (false, eval a X.env) :: starEach [] X.env := by exact star_of rfl) (na2 : starEach [.Call (.Name "set" p2) [a] [] q] X.env = (false, eval (.Call (.Name "set" p2) [a] [] q) X.env) :: starEach [] X.env := by exact star_of rfl) :
    XE X (.Call (.Name "len" p) [.Call (.Name "set" p2) [a] [] q] [] pos) ρ M (.int r) M1 := .mk fun G σ H Q sl w q0 =>
  Sem.of (pe_lenOnceS hc hg hm hg2 hm2 pe_sem na na2) (ha.run G σ H _ sl w fun v G1 H1 e1 w1 r1 => by
    obtain ⟨hz, rfl⟩ := ponce_some h
    obtain ⟨l, vs, rfl, hs, rv⟩ := hq.get w1 r1
    have := rv.strs; subst this
    exact ⟨l, xs, rfl, hs, hz, q0.use e1 w1 rep_int⟩)
theorem x_lenOnceI {xs : List Int} (hc : X.calm = true) (ha : XE X a ρ M d M1) (hq : SeqD M1 d (xs.map D.int)) (h : ponce xs = some r) (hm : X.mg "len" = none) (hm2 : X.mg "set" = none) (hg : Gl X "len" := by rfl) (hg2 : Gl X "set" := by rfl)
    (na : starEach [a] X.env = (false, eval a X.env) :: starEach [] X.env := by exact star_of rfl) (na2 : starEach [.Call (.Name "set" p2) [a] [] q] X.env = (false, eval (.Call (.Name "set" p2) [a] [] q) X.env) :: starEach [] X.env := by exact star_of rfl) :
    XE X (.Call (.Name "len" p) [.Call (.Name "set" p2) [a] [] q] [] pos) ρ M (.int r) M1 := .mk fun G σ H Q sl w q0 =>
  Sem.of (pe_lenOnceI hc hg hm hg2 hm2 pe_sem na na2) (ha.run G σ H _ sl w fun v G1 H1 e1 w1 r1 => by
    obtain ⟨hz, rfl⟩ := ponce_some h
    obtain ⟨l, vs, rfl, hs, rv⟩ := hq.get w1 r1
    have := rv.ints; subst this
    exact ⟨l, xs, rfl, hs, hz, q0.use e1 w1 rep_int⟩)
/-- sorted(set(x)) -/
def psos (xs : List Int) : Option (List Int) := if xs.length < 64 then some (sortI (once xs)) else none
theorem psos_some {xs ys : List Int} (h : psos xs = some ys) : xs.length < 64 ∧ sortI (once xs) = ys := by
  unfold psos at h; split at h
  · cases h; exact ⟨‹_›, rfl⟩
  · cases h
theorem n_sortedSet {xs ys : List Int} (hc : X.calm = true) (ha : XE X a ρ M d M1) (hq : SeqD M1 d (xs.map D.int)) (h : psos xs = some ys) (hm : X.mg "sorted" = none) (hm2 : X.mg "set" = none) (hg : Gl X "sorted" := by rfl) (hg2 : Gl X "set" := by rfl)
    (na : starEach [a] X.env = (false, eval a X.env) :: starEach [] X.env := by exact star_of rfl) (na2 : starEach [.Call (.Name "set" p2) [a] [] q] X.env = (false, eval (.Call (.Name "set" p2) [a] [] q) X.env) :: starEach [] X.env := by exact star_of rfl) :
    XN X (.Call (.Name "sorted" p) [.Call (.Name "set" p2) [a] [] q] [] pos) ρ M (.lst (ys.map D.int)) M1 := .mk fun G σ H Q sl w q0 =>
  Sem.of (pe_callB (cr_sortedSet hc) hg hm boot_sorted (pa_cons (pe_callTy (call_setI hc) hg2 hm2 boot_set (pa_cons pe_sem pa_nil na) (by decide) (by decide) na (by rfl)) pa_nil na2) (by decide) (by decide) na2 (by rfl)) (ha.run G σ H _ sl w fun v G1 H1 e1 w1 r1 => by
    obtain ⟨hz, rfl⟩ := psos_some h
    obtain ⟨l, vs, rfl, hs, rv⟩ := hq.get w1 r1
    have := rv.ints; subst this
    refine ⟨l, xs, rfl, hs, by omega, fun sp hsp => ?_⟩
    have w2 := w1.newF hsp (SetO X.w sp (fun k => decide (k ∈ once xs)) (once xs).length)
    refine ⟨sp, _, _, rfl, upd_same, by have := once_len xs; omega, fun ns np h1 h2 h3 hnp => ?_⟩
    have e : ns = sortI (once xs) := by
      refine sorted_one ?_ (h1.imp fun h => Int.le_of_lt h) (sortI_le _)
      refine List.Perm.trans ?_ (sortI_perm (once xs)).symm
      refine (List.perm_ext_iff_of_nodup (h1.imp fun h => Int.ne_of_lt h) (once_nodup xs)).mpr fun k => ?_
      rw [h2 k]; simp
    subst e
    exact q0 np _ _ (e1.trans (w1.exF hsp _)) (wd_newL w2 hnp RepL.of_ints))
end
end Wk

/-! Wk: instances of own classes. -/
namespace Wk
open PySem PySem.Spec PyProof.Rows L2 Evl
theorem putF_at : ∀ {kvs : List (Str × V)} {i : Nat} {f : Str} {v : V}, (kvs.map (·.1)).Nodup → (kvs.map (·.1))[i]? = some f → (putF f v kvs).map (·.1) = kvs.map (·.1) ∧ (putF f v kvs).map (·.2) = (kvs.map (·.2)).set i v
  | [], i, f, v, _, h => by simp at h
  | (g, x) :: r, 0, f, v, hn, h => by
    have : g = f := by simpa using h
    subst this
    unfold putF
    rw [if_pos rfl]
    exact ⟨rfl, rfl⟩
  | (g, x) :: r, i + 1, f, v, hn, h => by
    have hn := List.nodup_cons.mp (show (g :: r.map (·.1)).Nodup from hn)
    have h : (r.map (·.1))[i]? = some f := by simpa using h
    have ne : g ≠ f := fun e => hn.1 (by rw [e]; exact List.mem_of_getElem? h)
    obtain ⟨h1, h2⟩ := putF_at hn.2 h (v := v)
    unfold putF
    rw [if_neg ne, List.map_cons, List.map_cons, List.map_cons, List.map_cons, h1, h2]
    exact ⟨rfl, rfl⟩
theorem putF_new : ∀ {kvs : List (Str × V)} {f : Str} {v : V}, f ∉ kvs.map (·.1) → putF f v kvs = kvs ++ [(f, v)]
  | [], f, v, _ => rfl
  | (g, x) :: r, f, v, h => by
    have ne : g ≠ f := fun e => h (by rw [e]; exact List.mem_cons_self)
    unfold putF
    rw [if_neg ne, putF_new fun hm => h (List.mem_cons_of_mem _ hm)]
    rfl
theorem lookup_at : ∀ {kvs : List (Str × V)} {i : Nat} {f : Str} {v : V}, (kvs.map (·.1)).Nodup → kvs[i]? = some (f, v) → kvs.lookup f = some v
  | [], i, f, v, _, h => by simp at h
  | p :: r, 0, f, v, hn, h => by
    have : p = (f, v) := by simpa using h
    subst this
    simp [List.lookup]
  | p :: r, i + 1, f, v, hn, h => by
    have hn := List.nodup_cons.mp (show (p.1 :: r.map (·.1)).Nodup from hn)
    have h : r[i]? = some (f, v) := by simpa using h
    have ne : (f == p.1) = false := by
      have : f ≠ p.1 := fun e => hn.1 (by rw [← e]; exact List.mem_map.mpr ⟨_, List.mem_of_getElem? h, rfl⟩)
      simpa using this
    rw [show p = (p.1, p.2) from rfl, List.lookup_cons, ne]
    exact lookup_at hn.2 h
theorem lookup_none : ∀ {kvs : List (Str × V)} {f : Str}, f ∉ kvs.map (·.1) → kvs.lookup f = none
  | [], f, _ => rfl
  | p :: r, f, h => by
    have ne : (f == p.1) = false := by
      have : f ≠ p.1 := fun e => h (by rw [e]; exact List.mem_cons_self)
      simpa using this
    rw [show p = (p.1, p.2) from rfl, List.lookup_cons, ne]
    exact lookup_none fun hm => h (List.mem_cons_of_mem _ hm)
section
variable {X : Cx} {e o : Expr} {es : List Expr} {rest : List Stmt} {ρ : Env} {M M1 M2 M3 : Mem} {d : D} {ds ds0 : List D} {pos pos' apos p : Pos} {q C : Addr} {f : Str} {fs : List Str} {Z : Ends} {G0 : Hp}
/-- o.f, o owned at place k, f its i-th field -/
theorem x_fld (k i : Nat) (c : Cls X.K C) (na : NoAttr X.K C f) (ho : XE X o ρ M (.adr q) M1) (hk : M1[k]? = some (q, .ins C fs ds)) (hn : fs.Nodup) (hf : fs[i]? = some f) (hd : ds[i]? = some d) (hb : attributeBase o f X.env (eval o X.env) = eval o X.env := by exact base_of rfl) :
    XE X (.Attribute o f pos) ρ M d M1 := .mk fun G σ H Q sl w q0 =>
  Sem.of (pe_fld pe_sem hb) (ho.run G σ H _ sl w fun v G1 H1 e1 w1 r1 => by
    obtain ⟨dx, kvs, hv, hfs, rv⟩ := (w1.at hk).2
    obtain ⟨u, hu, ru⟩ := rv.get hd
    have hi : i < kvs.length := by
      have := (List.getElem?_eq_some_iff.mp hu).1
      rw [List.length_map] at this; exact this
    have e2 : kvs[i]? = some (f, u) := by
      rw [← hfs, List.getElem?_map, List.getElem?_eq_getElem hi] at hf
      rw [List.getElem?_map, List.getElem?_eq_getElem hi] at hu
      rw [List.getElem?_eq_getElem hi]
      exact congrArg some (Prod.ext (Option.some.inj hf) (Option.some.inj hu))
    exact ⟨q, C, dx, kvs, u, of_adr r1, hv, c, na, lookup_at (by rw [hfs]; exact hn) e2, q0.use e1 w1 ru⟩)
/-- o.f = e -/
theorem st_fld (k i : Nat) (c : Cls X.K C) (na : NoAttr X.K C f) (he : XE X e ρ M d M1) (ho : XE X o ρ M1 (.adr q) M2) (hk : M2[k]? = some (q, .ins C fs ds)) (hn : fs.Nodup) (hl : fs.length < 1000) (hf : fs[i]? = some f)
    (kk : St X rest Z G0 ρ (M2.set k (q, .ins C fs (ds.set i d)))) (hs : swapsWith e (some (.Attribute o f pos')) pos.line X.env = pure false := by first | exact sw_of rfl | rfl) : St X (.Assign [.Attribute o f pos'] e pos :: rest) Z G0 ρ M := St.mk' fun G σ H e0 sl w =>
  cons_of (ps_fld pe_sem pe_sem hs) (he.run G σ H _ sl w fun x G1 H1 e1 w1 r1 => ho.run G1 σ H1 _ (sl.mono e1) w1 fun y G2 H2 e2 w2 r2 => by
    obtain ⟨dx, kvs, hv, hfs, rv⟩ := (w2.at hk).2
    obtain ⟨a1, a2⟩ := putF_at (kvs := kvs) (v := x) (by rw [hfs]; exact hn) (by rw [hfs]; exact hf)
    have hlen : kvs.length = fs.length := by rw [← hfs, List.length_map]
    refine ⟨q, C, dx, kvs, of_adr r2, hv, c, na, by omega, kk.run ((e0.trans e1).trans e2) (sl.mono (e1.trans e2)) (w2.set hk ⟨dx, _, upd_same, a1.trans hfs, ?_⟩)⟩
    rw [a2]; exact RepL.set (r1.mono e2) i rv)
theorem st_fldNew (k : Nat) (c : Cls X.K C) (na : NoAttr X.K C f) (he : XE X e ρ M d M1) (ho : XE X o ρ M1 (.adr q) M2) (hk : M2[k]? = some (q, .ins C fs ds)) (hl : fs.length < 1000) (hf : f ∉ fs)
    (kk : St X rest Z G0 ρ (M2.set k (q, .ins C (fs ++ [f]) (ds ++ [d])))) (hs : swapsWith e (some (.Attribute o f pos')) pos.line X.env = pure false := by first | exact sw_of rfl | rfl) : St X (.Assign [.Attribute o f pos'] e pos :: rest) Z G0 ρ M := St.mk' fun G σ H e0 sl w =>
  cons_of (ps_fld pe_sem pe_sem hs) (he.run G σ H _ sl w fun x G1 H1 e1 w1 r1 => ho.run G1 σ H1 _ (sl.mono e1) w1 fun y G2 H2 e2 w2 r2 => by
    obtain ⟨dx, kvs, hv, hfs, rv⟩ := (w2.at hk).2
    have hlen : kvs.length = fs.length := by rw [← hfs, List.length_map]
    refine ⟨q, C, dx, kvs, of_adr r2, hv, c, na, by omega, kk.run ((e0.trans e1).trans e2) (sl.mono (e1.trans e2)) (w2.set hk ⟨dx, _, upd_same, ?_, ?_⟩)⟩
    · rw [putF_new (by rw [hfs]; exact hf), List.map_append, hfs]; rfl
    · rw [putF_new (by rw [hfs]; exact hf), List.map_append]
      exact rv.append (RepL.cons (r1.mono e2) RepL.nil))
end
/-- a method that stands -/
structure MDef (P : Program) (w : World) (K : PySem.W.Frag) (mg : Str → Option Value) (base : Heap) (k : Nat) (C : Addr) (m : Str) (ps : List Str) (R : List D → Mem → D → Mem → Prop) : Prop where
  ex : ∃ f fd, FnOk P w K mg base CX0 k f fd ps (spR K R) ∧ Meth K C m f ∧ Binds K fd ps [] ∧ Cls K C
/-- a class that may be made, its __init__ -/
structure CDef (P : Program) (w : World) (K : PySem.W.Frag) (mg : Str → Option Value) (base : Heap) (k : Nat) (x : Str) (C : Addr) (ps : List Str) (R : List D → Mem → D → Mem → Prop) : Prop where
  ex : ∃ f fd, FnOk P w K mg base CX0 k f fd ps (spR K R) ∧ Mk K C f ∧ Binds K fd ps [] ∧ mg x = some (.ref C)
section
variable {X : Cx} {e o : Expr} {es : List Expr} {ρ : Env} {M M1 : Mem} {d : D} {ds ds0 : List D} {pos apos p : Pos} {q C : Addr} {m x : Str} {fs : List Str} {k k' : Nat} {ps : List Str} {R : List D → Mem → D → Mem → Prop}
theorem pm_perm (pre post N : Mem) : (N ++ (pre ++ post)).Perm (pre ++ (N ++ post)) := by
  rw [← List.append_assoc, ← List.append_assoc]
  exact List.Perm.append_right _ List.perm_append_comm
theorem x_methD {pl : PySem.Sem Bool} (F : MDef X.prog X.w X.K X.mg X.base k C m ps R) (hr : Room k' X.A) (hk : k ≤ k') (kk : Nat) (ho : XE X o ρ M (.adr q) M1) (ho1 : M1[kk]? = some (q, .ins C fs ds0)) (hm : m ∉ fs)
    (pre Mc post : Mem) {Mc' : Mem} (ha : XA X (e :: es) ρ M1 ds (pre ++ (Mc ++ post))) (hR : R (.adr q :: ds) Mc d Mc')
    (hst : starEach (e :: es) X.env = (false, eval e X.env) :: starEach es X.env := by exact star_of rfl) (hpl : (backTo pos (starEach es X.env)).any (·.1) = false := by exact nostars rfl)
    (ht : eval (.Call (.Attribute o m apos) (e :: es) [] pos) X.env = (do
      let ov ← eval o X.env
      standAt apos.atName
      let (f, first) ← holding [ov] (getMethod ov m pl)
      callWith pos f first (backTo pos (starEach (e :: es) X.env)) (backToKw pos (keywordEach [] X.env))) := by rfl) :
    XE X (.Call (.Attribute o m apos) (e :: es) [] pos) ρ M d (pre ++ (Mc' ++ post)) := .mk fun G σ H Q sl w q0 => by
  obtain ⟨f, fd, h1, h2, h3, h4⟩ := F.ex
  refine Sem.of (pe_meth (E := E0) pe_sem h4 h2 h1 (hr.mono hk) h3 .nil pass0 pa_sem hst hpl ht) (ho.run G σ H _ sl w fun v G1 H1 e1 w1 r1 => ?_)
  obtain ⟨dx, kvs, hv, hfs, rv⟩ := (w1.at ho1).2
  refine ⟨q, dx, kvs, of_adr r1, hv, lookup_none (by rw [hfs]; exact hm), ha.run G1 σ H1 _ (sl.mono e1) w1 fun vs G2 H2 e2 w2 r2 => ?_⟩
  rw [List.append_nil]
  exact ⟨G2, pre ++ post, _, Mc, d, Mc', RepL.cons (r1.mono e2) r2, w2.perm (pm_perm pre post Mc), hR, fun v G' H' e' w' r' => q0.use ((e1.trans e2).trans e') (w'.perm (pm_perm pre post Mc').symm) r'⟩
theorem x_methD0 {pl : PySem.Sem Bool} (F : MDef X.prog X.w X.K X.mg X.base k C m ps R) (hr : Room k' X.A) (hk : k ≤ k') (kk : Nat) (pre Mc post : Mem) {Mc' : Mem} (ho : XE X o ρ M (.adr q) (pre ++ (Mc ++ post))) (ho1 : (pre ++ (Mc ++ post))[kk]? = some (q, .ins C fs ds0)) (hm : m ∉ fs)
    (hR : R [.adr q] Mc d Mc')
    (ht : eval (.Call (.Attribute o m apos) [] [] pos) X.env = (do
      let ov ← eval o X.env
      standAt apos.atName
      let (f, first) ← holding [ov] (getMethod ov m pl)
      callWith pos f first (backTo pos (starEach [] X.env)) (backToKw pos (keywordEach [] X.env))) := by rfl) :
    XE X (.Call (.Attribute o m apos) [] [] pos) ρ M d (pre ++ (Mc' ++ post)) := .mk fun G σ H Q sl w q0 => by
  obtain ⟨f, fd, h1, h2, h3, h4⟩ := F.ex
  refine Sem.of (pe_meth0 (E := E0) pe_sem h4 h2 h1 (hr.mono hk) h3 .nil pass0 ht) (ho.run G σ H _ sl w fun v G1 H1 e1 w1 r1 => ?_)
  obtain ⟨dx, kvs, hv, hfs, rv⟩ := (w1.at ho1).2
  refine ⟨q, dx, kvs, of_adr r1, hv, lookup_none (by rw [hfs]; exact hm), ?_⟩
  show spR X.K R (v :: ([] ++ [])) H1 Q E0
  exact ⟨G1, pre ++ post, _, Mc, d, Mc', RepL.cons r1 RepL.nil, w1.perm (pm_perm pre post Mc), hR, fun v G' H' e' w' r' => q0.use (e1.trans e') (w'.perm (pm_perm pre post Mc').symm) r'⟩
/-- C(e, ..) -/
theorem n_make (F : CDef X.prog X.w X.K X.mg X.base k x C ps R) (hr : Room k' X.A) (hk : k + 1 ≤ k') (ha : XA X (e :: es) ρ M ds M1) (hR : ∀ q, R (.adr q :: ds) [(q, .ins C [] [])] .non [(q, .ins C fs ds0)])
    (hg : Gl X x := by rfl) (hdb : (x == ("__debug__" : Str)) = false := by decide) (he : starEach (e :: es) X.env = (false, eval e X.env) :: starEach es X.env := by exact star_of rfl) (hpl : (backTo pos (starEach es X.env)).any (·.1) = false := by exact nostars rfl) :
    XN X (.Call (.Name x p) (e :: es) [] pos) ρ M (.ins C fs ds0) M1 := .mk fun G σ H Q sl w q0 => by
  obtain ⟨f, fd, h1, h2, h3, h4⟩ := F.ex
  refine Sem.of (pe_make (E := E0) h2 h1 (hr.mono hk) hg h4 h3 .nil pass0 pa_sem hdb he hpl) (ha.run G σ H _ sl w fun vs G1 H1 e1 w1 r1 => ?_)
  intro y dx hy hdx ne
  have w2 := w1.newF hdx (.own y)
  have ey := w1.exF hdx (.own y)
  have hy2 : (upd H1 dx (.own y)) y = none := by rw [upd_ne (Ne.symm ne)]; exact hy
  have w3 := w2.newO (q := y) (o := .ins C dx []) (mo := .ins C [] []) hy2 ⟨dx, [], upd_same, rfl, RepL.nil⟩
  rw [List.append_nil]
  refine ⟨upd G1 dx (.own y), M1, _, [(y, .ins C [] [])], _, _, RepL.cons rep_adr (r1.mono ey _), w3, hR y, fun v G' H' e' w' r' => ⟨of_non r', q0 y G' H' ((e1.trans ey).trans e') w'⟩⟩
end
end Wk

/-! Wk: forms that the printer uses, for dicts and pairs. -/
namespace Wk
open PySem PySem.Spec PyProof.Rows L2 Evl
def pzip {α β : Type} (xs : List α) (ys : List β) : Option (List (α × β)) := if xs.length = ys.length then some (xs.zip ys) else none
theorem pzip_some {α β : Type} {xs : List α} {ys : List β} {r : List (α × β)} (h : pzip xs ys = some r) : xs.length = ys.length ∧ xs.zip ys = r := by
  unfold pzip at h; split at h
  · cases h; exact ⟨‹_›, rfl⟩
  · cases h
section
variable {X : Cx} {e e2 a tg : Expr} {p p2 q pos tpos : Pos} {ρ : Env} {M M1 : Mem} {κ α β : Type} [DecidableEq κ] {kf : κ → L2.Key} {vf : α → D} {f : α → D} {g : β → D} {ks : List κ} {xs : List α} {ys : List β} {kx : List (κ × α)} {zs : List (α × β)} {elts : List Expr} {kk : Nat} {d : D} {v : α}
theorem n_dictZipO (hc : X.calm = true) (inj : ∀ a b, kf a = kf b → a = b) (ha : XA X [e, e2] ρ M [.tup (ks.map fun k => kD (kf k)), .tup (xs.map vf)] M1) (h : pzip ks xs = some kx) (hm : X.mg "dict" = none) (hm2 : X.mg "zip" = none) (hg : Gl X "dict" := by rfl) (hg2 : Gl X "zip" := by rfl)
    (hs : starEach [e, e2] X.env = (false, eval e X.env) :: starEach [e2] X.env := by exact star_of rfl) (hpl : (backTo q (starEach [e2] X.env)).any (·.1) = false := by exact nostars rfl)
    (hs2 : starEach [.Call (.Name "zip" p2) [e, e2] [] q] X.env = (false, eval (.Call (.Name "zip" p2) [e, e2] [] q) X.env) :: starEach [] X.env := by exact star_of rfl) :
    XN X (.Call (.Name "dict" p) [.Call (.Name "zip" p2) [e, e2] [] q] [] pos) ρ M (mDK kf vf (dmerge [] kx)) M1 := by
  obtain ⟨hl, rfl⟩ := pzip_some h
  exact n_dictZip hc inj ha hl hm hm2 hg hg2 hs hpl hs2
theorem i_zipTO (ha : XA X [e, e2] ρ M [.tup (xs.map f), .tup (ys.map g)] M1) (h : pzip xs ys = some zs) (hm : X.mg "zip" = none) (hg : Gl X "zip" := by rfl) (hs : starEach [e, e2] X.env = (false, eval e X.env) :: starEach [e2] X.env := by exact star_of rfl) (hpl : (backTo pos (starEach [e2] X.env)).any (·.1) = false := by exact nostars rfl) :
    XI X (.Tuple elts kk tpos) (.Call (.Name "zip" p) [e, e2] [] pos) ρ M (zs.map (eK2 f g)) M1 := by
  obtain ⟨hl, rfl⟩ := pzip_some h
  rw [← pairD_map]
  exact i_zipT ha (by rw [List.length_map, List.length_map]; exact hl) hm hg hs hpl
theorem i_zipLO (ha : XA X [e, e2] ρ M [.lst (xs.map f), .lst (ys.map g)] M1) (h : pzip xs ys = some zs) (hm : X.mg "zip" = none) (hg : Gl X "zip" := by rfl) (hs : starEach [e, e2] X.env = (false, eval e X.env) :: starEach [e2] X.env := by exact star_of rfl) (hpl : (backTo pos (starEach [e2] X.env)).any (·.1) = false := by exact nostars rfl) :
    XI X (.Tuple elts kk tpos) (.Call (.Name "zip" p) [e, e2] [] pos) ρ M (zs.map (eK2 f g)) M1 := by
  obtain ⟨hl, rfl⟩ := pzip_some h
  rw [← pairD_map]
  exact i_zipL ha (by rw [List.length_map, List.length_map]; exact hl) hm hg hs hpl
theorem i_enumTO (ha : XA X [e] ρ M [.tup (xs.map f)] M1) (hm : X.mg "enumerate" = none) (hg : Gl X "enumerate" := by rfl) (hs : starEach [e] X.env = [(false, eval e X.env)] := by exact star_one rfl) : XI X (.Tuple elts kk tpos) (.Call (.Name "enumerate" p) [e] [] pos) ρ M ((places xs).map (eK2 D.int f)) M1 := by
  rw [← placesD_map]; exact i_enumT ha hm hg hs
theorem i_enumLO (ha : XA X [e] ρ M [.lst (xs.map f)] M1) (hm : X.mg "enumerate" = none) (hg : Gl X "enumerate" := by rfl) (hs : starEach [e] X.env = [(false, eval e X.env)] := by exact star_one rfl) : XI X (.Tuple elts kk tpos) (.Call (.Name "enumerate" p) [e] [] pos) ρ M ((places xs).map (eK2 D.int f)) M1 := by
  rw [← placesD_map]; exact i_enumL ha hm hg hs
/-- what is not none, as what it is -/
theorem x_get {o : Option α} (h : XE X e ρ M (eO f o) M1) (ho : o = some v) : XE X e ρ M (f v) M1 := by subst ho; exact h
end
end Wk

/-! Wk: x[::-1]. -/
namespace Wk
open PySem PySem.Spec PyProof.Rows L2 Evl
section
variable {prog : Program} {w : World} {A : Around} {E : Value → Shared → Prop} {s : Shared}
theorem revAdjust (n : Nat) : Builtin.Slice.sliceAdjust none none (-1) (n : Int) = ((n : Int) - 1, -1) := by
  unfold Builtin.Slice.sliceAdjust
  simp
theorem revPlaces (n : Nat) : Builtin.Slice.slicePlaces ((n : Int) - 1) (-1) (-1) = n := by
  unfold Builtin.Slice.slicePlaces
  simp
  omega
theorem revApplied {sl : Addr} {vs : Value} {n : Nat} {Q : Int × Int × Nat → Shared → Prop} (hs : s.heap.IsSliceOf sl .none .none vs) (ps : IsPart vs (some (-1))) (h : Q ((n : Int) - 1, -1, n) s) :
    wpAny (model prog w) A (Builtin.Slice.sliceApplied (.ref sl) (pure (n : Int))) Q E s := by
  obtain ⟨os, hos, hcs, hds⟩ := id hs
  unfold Builtin.Slice.sliceApplied Builtin.Slice.sliceFields
  refine wpAny_bind (wpAny_bind (wpAny_field hos hds (x := .none) rfl (wpAny_bind (wpAny_field hos hds (x := .none) rfl (wpAny_bind (wpAny_field hos hds (x := vs) rfl (wpAny_pure ?_)))))))
  refine wpAny_bind (HT.slicePart_ ps ?_)
  show wpAny _ _ (if ((-1 : Int) == 0) = true then _ else _) _ _ s
  rw [if_neg (by decide)]
  refine wpAny_bind (slicePart_none (wpAny_bind (slicePart_none (wpAny_bind (wpAny_pure ?_)))))
  show wpAny _ _ (match Builtin.Slice.sliceAdjust none none (-1) (n : Int) with | (lo, hi) => pure (lo, (-1 : Int), Builtin.Slice.slicePlaces lo hi (-1))) _ _ s
  rw [revAdjust]
  show wpAny _ _ (pure ((n : Int) - 1, (-1 : Int), Builtin.Slice.slicePlaces ((n : Int) - 1) (-1) (-1))) _ _ s
  rw [revPlaces]
  exact wpAny_pure h
theorem fm_congr {α β : Type} {f g : α → Option β} : ∀ {l : List α}, (∀ x ∈ l, f x = g x) → l.filterMap f = l.filterMap g
  | [], _ => rfl
  | x :: l, h => by
    rw [List.filterMap_cons, List.filterMap_cons, h x List.mem_cons_self, fm_congr fun y hy => h y (List.mem_cons_of_mem _ hy)]
theorem revPick (xs : Array Value) : ((List.range xs.size).filterMap fun (m : Nat) => xs[(((xs.size : Int) - 1) + (m : Int) * (-1)).toNat]?).toArray = xs.toList.reverse.toArray := by
  have e : (List.range xs.size).filterMap (fun (m : Nat) => xs[(((xs.size : Int) - 1) + (m : Int) * (-1)).toNat]?) = ((List.range xs.size).map fun k => xs.size - 1 - k).filterMap (xs[·]?) := by
    rw [List.filterMap_map]
    refine fm_congr fun m hm => ?_
    have := List.mem_range.mp hm
    have e : (((xs.size : Int) - 1) + (m : Int) * (-1)).toNat = xs.size - 1 - m := by omega
    rw [e]; rfl
  rw [e, PySem.W.krv_range, List.filterMap_reverse, PySem.W.krv_all]
theorem getItemRev {t sl : Addr} {items : Array Value} {vs : Value} {Q : Value → Shared → Prop} (ht : IsTup s.heap t items) (hs : s.heap.IsSliceOf sl .none .none vs) (ps : IsPart vs (some (-1))) (hsz : items.size ≤ sizeLine)
    (h : Q (.ref s.heap.objs.size) { s with heap := s.heap.push { cls := .type "tuple", data := .seq items.toList.reverse.toArray } }) : wpAny (model prog w) A (getItem (.ref t) (.ref sl)) Q E s := by
  have hok : sizeOk (.seq items.toList.reverse.toArray) := by
    show items.toList.reverse.toArray.size ≤ sizeLine
    rw [List.size_toArray, List.length_reverse, Array.length_toList]; exact hsz
  obtain ⟨os, hos, hcs, hds⟩ := id hs
  have hTs : s.TypeIs (.ref sl) "slice" := ⟨os, hos, hcs⟩
  unfold getItem
  try with_reducible refine wpAny_holding ?_
  first | refine wpAny_bind (wpAny_pure ?_) | skip
  refine wpAny_bind (wpAny_sequenceKey ht.typeIs (by decide) (wpAny_bind (wpAny_callSpecial?_slot (name := Str.ofString "__getitem__") ht.typeIs PyProof.Rows.slot_tuple_getitem (wpAny_call_entry PyProof.Rows.slot_tuple_getitem ht.typeIs entry_tuple_getitem ?_ (args_tuple_getitem _ _)))))
  show wpAny _ _ (Builtin.Tuple.tupleItemsOf (.ref t) >>= fun _ => _) _ _ s
  refine wpAny_bind (tupleItemsOf_ ht (wpAny_bind (wpAny_typeOf hTs ?_)))
  rw [if_pos (by decide)]
  refine wpAny_bind (revApplied hs ps ?_)
  have hno : ¬ ((((items.size : Int) - 1) == 0 && ((-1 : Int)) == 1 && items.size == items.size) = true) := by
    rw [show ((-1 : Int) == 1) = false by decide, Bool.and_false, Bool.false_and]; exact Bool.false_ne_true
  show wpAny _ _ (if (((items.size : Int) - 1) == 0 && ((-1 : Int)) == 1 && items.size == items.size) = true then _ else _) _ _ s
  rw [if_neg hno, revPick]
  first
    | exact wpAny_bind (m := Builtin.Tuple.tupleExact _) (wpAny_newObj_type (wpAny_pure ⟨_, rfl, wpAny_pure h⟩) hok)
    | exact wpAny_bind (m := Builtin.Tuple.tupleExact _) (wpAny_newObj_type (wpAny_bind (wpAny_pure (wpAny_pure ⟨_, rfl, wpAny_pure h⟩))) hok)
    | exact wpAny_bind (wpAny_bind (m := Builtin.Tuple.tupleExact _) (wpAny_newObj_type (wpAny_pure (wpAny_pure ⟨_, rfl, wpAny_pure h⟩)) hok))
    | exact wpAny_bind (wpAny_bind (m := Builtin.Tuple.tupleExact _) (wpAny_newObj_type (wpAny_pure ⟨_, rfl, wpAny_pure h⟩) hok))
end
section
variable {X : Cx} {e : Expr} {te : TE} {k : Nat} {p1 p2 p3 pos : Pos}
/-- t[::-1], t a tuple -/
theorem pe_revT (he : PE X e te) : PE X (.Subscript e (.Slice none none (some (.UnaryOp .USub (.Constant (.int 1) k p1) p2)) p3) pos) (fun σ H Q => te σ H fun x H1 => ∃ a xs, x = .ref a ∧ SqT X.K H1 a xs ∧ NewT H1 xs.reverse Q) := by
  refine ⟨fun pins s σ H Q I h => ?_⟩
  refine Subscript_ (thn (he.run pins s σ H _ I h) fun v s1 ⟨x, H1, I1, r1, a, xs, ex, hx, q⟩ => ?_)
  subst ex
  cases r1
  have hst : PO X (some (.UnaryOp .USub (.Constant (.int 1) k p1) p2)) (tPart (tUn (rU fun i => .int (-i)) (tC (.int 1)))) := po_some (pe_un un_neg pe_int)
  refine wpAny_Slice (thn (po_none.run pins s1 σ H1 (fun o H2 => o = none ∧ H2 = H1) I1 ⟨rfl, rfl⟩) fun vl s2 ⟨l, H2, I2, pl, el, e2⟩ => ?_)
  subst el e2
  cases pl
  refine thn (po_none.run pins s2 σ H2 (fun o H3 => o = none ∧ H3 = H2) I2 ⟨rfl, rfl⟩) fun vu s3 ⟨u, H3, I3, pu, eu, e3⟩ => ?_
  subst eu e3
  cases pu
  refine thn (hst.run pins s3 σ H3 (fun o H4 => o = some (-1) ∧ H4 = H3) I3 ⟨1, rfl, -1, rfl, rfl, rfl⟩) fun vs s4 ⟨o, H4, I4, ps, eo, e4⟩ => ?_
  subst eo e4
  have I5 : Inv X pins σ H4 { s4 with heap := s4.heap.push { cls := .type "slice", data := .fields #[.none, .none, vs] } } := I4.kept (t' := s4.toks) fun b ob q => Heap.get?_push_of_some _ q
  obtain ⟨its, r, ht, hz⟩ := I5.tuple hx
  have hlen := r.length
  show wpAny (model X.prog X.w) X.A (subscriptTail e (.Slice none none (some (.UnaryOp .USub (.Constant (.int 1) k p1) p2)) p3) (.ref a) (.ref s4.heap.objs.size)) (EP X pins σ Q) X.xe { s4 with heap := s4.heap.push { cls := .type "slice", data := .fields #[.none, .none, vs] } }
  refine tail_any (ops := [.ref a, .ref s4.heap.objs.size]) ht.typeIs (PyProof.Rows.slot_tuple_getitem.lookup) ?_ (by with_unfolding_all rfl)
  refine getItemRev ht (Heap.IsSliceOf.new _ .none .none vs) ps (by rw [List.size_toArray]; omega) ?_
  have := new_tup (h' := s4.heap.push { cls := .type "slice", data := .fields #[.none, .none, vs] }) (tk := s4.toks) (s := s4) (xs := xs.reverse) (its := its.reverse) (Q := Q) I5 r.reverse (by rw [List.length_reverse]; exact hz) q
  simpa using this
end
section
variable {X : Cx} {e : Expr} {k : Nat} {p1 p2 p3 pos : Pos} {ρ : Env} {M M1 : Mem} {ds : List D} {α : Type} {f : α → D} {xs : List α}
theorem x_revT (h : XE X e ρ M (.tup ds) M1) : XE X (.Subscript e (.Slice none none (some (.UnaryOp .USub (.Constant (.int 1) k p1) p2)) p3) pos) ρ M (.tup ds.reverse) M1 := .mk fun G σ H Q sl w q =>
  Sem.of (pe_revT pe_sem) (h.run G σ H _ sl w fun v G1 H1 e1 w1 r1 => by
    obtain ⟨a, vs, rfl, hv, rv⟩ := of_tup r1
    exact ⟨a, vs, rfl, (hv.mono w1.ex).sq, fun p o h1 h2 hp => q.use (e1.trans (w1.exF hp _)) (w1.newF hp _) (rep_tup (pt_new h1 h2) (rv.reverse.mono (w1.exF hp _) _))⟩)
theorem n_revL (h : XE X e ρ M (.lst ds) M1) : XN X (.Subscript e (.Slice none none (some (.UnaryOp .USub (.Constant (.int 1) k p1) p2)) p3) pos) ρ M (.lst ds.reverse) M1 := .mk fun G σ H Q sl w q =>
  Sem.of (pe_revL pe_sem) (h.run G σ H _ sl w fun v G1 H1 e1 w1 r1 => by
    obtain ⟨a, vs, rfl, hv, rv⟩ := of_lst r1
    exact ⟨a, vs, rfl, SqL.of (w1.ex _ _ hv), fun p hp => q p G1 _ e1 (wd_newL w1 hp rv.reverse)⟩)
theorem x_revTm (h : XE X e ρ M (.tup (xs.map f)) M1) : XE X (.Subscript e (.Slice none none (some (.UnaryOp .USub (.Constant (.int 1) k p1) p2)) p3) pos) ρ M (.tup (xs.reverse.map f)) M1 := by rw [List.map_reverse]; exact x_revT h
theorem n_revLm (h : XE X e ρ M (.lst (xs.map f)) M1) : XN X (.Subscript e (.Slice none none (some (.UnaryOp .USub (.Constant (.int 1) k p1) p2)) p3) pos) ρ M (.lst (xs.reverse.map f)) M1 := by rw [List.map_reverse]; exact n_revL h
end
end Wk

/-! Wk: dicts whose keys are tuples (of numbers, texts, tuples). -/
namespace Wk
open PySem PySem.Spec PyProof.Rows L2 Evl

/-! ### keys -/
mutual
def nkD : NestedKey → D
  | .none => .non
  | .num i => .int i
  | .text s => .str s
  | .tup ks => .tup (nkDs ks)
def nkDs : List NestedKey → List D
  | [] => []
  | k :: ks => nkD k :: nkDs ks
end
mutual
theorem rep_nk {K : PySem.W.Frag} {G : Hp} : ∀ (k : NestedKey) (v : V), Rep K G (nkD k) v ↔ KRep G k v
  | .none, v => by unfold nkD Rep KRep; exact Iff.rfl
  | .num i, v => by unfold nkD Rep KRep; exact Iff.rfl
  | .text i, v => by unfold nkD Rep KRep; exact Iff.rfl
  | .tup ks, v => by
    unfold nkD Rep KRep
    constructor
    · rintro ⟨a, vs, rfl, h, r⟩; exact ⟨a, vs, rfl, h, (rep_nks ks vs).mp r⟩
    · rintro ⟨a, vs, rfl, h, r⟩; exact ⟨a, vs, rfl, h, (rep_nks ks vs).mpr r⟩
theorem rep_nks {K : PySem.W.Frag} {G : Hp} : ∀ (ks : List NestedKey) (vs : List V), RepL K G (nkDs ks) vs ↔ KRepL G ks vs
  | [], vs => by unfold nkDs RepL KRepL; exact Iff.rfl
  | k :: ks, vs => by
    unfold nkDs RepL KRepL
    constructor
    · rintro ⟨v, r, rfl, a, b⟩; exact ⟨v, r, rfl, (rep_nk k v).mp a, (rep_nks ks r).mp b⟩
    · rintro ⟨v, r, rfl, a, b⟩; exact ⟨v, r, rfl, (rep_nk k v).mpr a, (rep_nks ks r).mpr b⟩
end
section
variable {P : Program} {w : World} {G H : Hp} {h : Heap}
mutual
theorem nested_is (ok : HOk P w H h) (e : Ex G H) : ∀ (k : NestedKey) (v : V) (u : Value), KRep G k v → RelV v u → NestedIs h k u
  | .none, v, u, r, q => by unfold KRep at r; subst r; obtain rfl : u = Value.none := q; exact .none
  | .num i, v, u, r, q => by unfold KRep at r; subst r; obtain ⟨t, rfl⟩ := q; exact .int i t
  | .text i, v, u, r, q => by unfold KRep at r; subst r; obtain ⟨t, rfl⟩ := q; exact .text i t
  | .tup ks, v, u, r, q => by
    unfold KRep at r
    obtain ⟨a, vs, rfl, ⟨o, ho, _, _⟩, rv⟩ := r
    obtain rfl : u = Value.ref a := q
    obtain ⟨h1, _, its, rs, ob, h2, h3, n, h4⟩ := (show ObjOk P w H h a (.frz o (.tup vs)) from ok a _ (e _ _ ho))
    exact .tup h2 h3 h4 (nested_all ok e ks vs its rv rs)
theorem nested_all (ok : HOk P w H h) (e : Ex G H) : ∀ (ks : List NestedKey) (vs : List V) (us : List Value), KRepL G ks vs → Vals vs us → NestedAll h ks us
  | [], vs, us, r, q => by unfold KRepL at r; subst r; cases q; exact .nil
  | k :: ks, vs, us, r, q => by
    unfold KRepL at r
    obtain ⟨v, r', rfl, a, b⟩ := r
    cases q with
    | cons q1 q2 => exact .cons (nested_is ok e k v _ a q1) (nested_all ok e ks r' _ b q2)
end
/-! ### what is held -/
abbrev nProj (kvs : NEnts) : List (NestedKey × V) := kvs.map fun p => (p.1, p.2.2)
def nput (kvs : NEnts) (k : NestedKey) (b : Addr) (v : V) : NEnts := if (kvs.any fun p => decide (p.1 = k)) = true then kvs.map (fun p => if p.1 = k then (p.1, p.2.1, v) else p) else kvs ++ [(k, b, v)]
theorem n_val {kvs : NEnts} {xs : List (NestedKey × Addr × Value)} (r : Paired NPair kvs xs) (k : NestedKey) : RelO (valV (nProj kvs) k) ((atKey xs k).map (·.2)) := by
  induction r with
  | nil => exact True.intro
  | @cons p q ps qs h t ih =>
    obtain ⟨h1, _, h2⟩ := h
    by_cases e : p.1 = k
    · have e' : q.1 = k := h1.symm.trans e
      have b : atKey (q :: qs) k = some q.2 := by simp [atKey, List.find?_cons, e']
      rw [show nProj (p :: ps) = (p.1, p.2.2) :: nProj ps from rfl, valV_pos e, b]; exact h2
    · have e' : ¬ q.1 = k := fun z => e (h1.trans z)
      have b : atKey (q :: qs) k = atKey qs k := by simp [atKey, List.find?_cons, e']
      rw [show nProj (p :: ps) = (p.1, p.2.2) :: nProj ps from rfl, valV_neg e, b]; exact ih
theorem n_any (kvs : NEnts) (k : NestedKey) : (kvs.any fun p => decide (p.1 = k)) = (valV (nProj kvs) k).isSome := by
  rw [← valV_any, List.any_map]; rfl
theorem n_put {kvs : NEnts} {xs : List (NestedKey × Addr × Value)} (r : Paired NPair kvs xs) (k : NestedKey) (b : Addr) {y : V} {u : Value} (ry : RelV y u) : Paired NPair (nput kvs k b y) (storedH xs k b u) := by
  have e : (kvs.any fun p => decide (p.1 = k)) = (atKey xs k).isSome := by
    rw [n_any, (n_val r k).isSome_eq, Option.isSome_map]
  unfold nput storedH
  rw [e]
  by_cases q : (atKey xs k).isSome = true
  · rw [if_pos q, if_pos q]
    clear q e
    induction r with
    | nil => exact .nil
    | @cons p q ps qs h t ih =>
      rw [List.map_cons, List.map_cons]
      refine .cons ?_ ih
      obtain ⟨h1, h2, h3⟩ := h
      unfold putAt
      by_cases e : p.1 = k
      · rw [if_pos e, if_pos (h1.symm.trans e)]; exact ⟨h1, h2, ry⟩
      · rw [if_neg e, if_neg (fun z => e (h1.trans z))]; exact ⟨h1, h2, h3⟩
  · rw [if_neg q, if_neg q]; exact Paired.snoc r ⟨rfl, rfl, ry⟩
theorem nput_proj (kvs : NEnts) (k : NestedKey) (b : Addr) (v : V) : nProj (nput kvs k b v) = putK (nProj kvs) k v := by
  unfold nput putK
  rw [List.any_map]
  show List.map _ (if (kvs.any fun p => decide (p.1 = k)) = true then _ else _) = if (kvs.any fun p => decide (p.1 = k)) = true then _ else _
  by_cases q : (kvs.any fun p => decide (p.1 = k)) = true
  · rw [if_pos q, if_pos q, List.map_map, List.map_map]
    refine List.map_congr_left fun p _ => ?_
    show (fun p : NestedKey × Addr × V => (p.1, p.2.2)) (if p.1 = k then (p.1, p.2.1, v) else p) = if p.1 = k then (p.1, v) else (p.1, p.2.2)
    by_cases e : p.1 = k
    · rw [if_pos e, if_pos e]
    · rw [if_neg e, if_neg e]
  · rw [if_neg q, if_neg q, List.map_append]; rfl
theorem nput_len (kvs : NEnts) (k : NestedKey) (b : Addr) (v : V) : (nput kvs k b v).length ≤ kvs.length + 1 := by
  unfold nput
  split
  · rw [List.length_map]; omega
  · rw [List.length_append]; exact Nat.le_refl _
theorem nput_keys {kvs : NEnts} {k : NestedKey} {b : Addr} {v : V} (h : NKeys G kvs) (hk : KRep G k (.ref b)) (hd : k.depth ≤ 8) : NKeys G (nput kvs k b v) := by
  unfold nput
  split
  · intro p hp
    obtain ⟨q, hq, rfl⟩ := List.mem_map.mp hp
    split
    · exact h q hq
    · exact h q hq
  · intro p hp
    rcases List.mem_append.mp hp with hp | hp
    · exact h p hp
    · rw [List.mem_singleton.mp hp]; exact ⟨hk, hd⟩
theorem ndict_ok {a : Addr} {kvs : NEnts} (p : NDictOk w a kvs h) : ObjOk P w H h a (NDict w a kvs) := by
  refine ⟨p, ?_, fun h1 h2 q k => ?_⟩
  · obtain ⟨_, _, _, _, o, _, _, e, _⟩ := p; exact ⟨o, e⟩
  · obtain ⟨z, y, xs, r, o, es, ep, e, c⟩ := q
    exact ⟨z, y, xs, r, o, es, ep, k o e, c⟩
theorem ndict_h {a : Addr} {kvs : NEnts} (ok : HOk P w H h) (e : Ex G H) (p : NDictOk w a kvs h) (nk : NKeys G kvs) : kvs.length ≤ sizeLine ∧ (a == sysModules) = false ∧ ∃ xs, Paired NPair kvs xs ∧ h.DictOfH (nestedKind P w) a xs := by
  obtain ⟨z, y, xs, r, o, es, ep, h1, h2, h3, h4, h5⟩ := p
  refine ⟨z, y, xs, r, o, es, ep, h1, h2, h3, h4, fun x hx => ?_, h5⟩
  have all : ∀ {l : NEnts} {m : List (NestedKey × Addr × Value)}, Paired NPair l m → NKeys G l → ∀ x ∈ m, NestedIs h x.1 (.ref x.2.1) ∧ x.1.depth ≤ 8 := by
    intro l m q
    induction q with
    | nil => intro _ x hx; exact nomatch hx
    | @cons p q ps qs hq t ih =>
      intro nk x hx
      rcases List.mem_cons.mp hx with e' | hx
      · subst e'
        obtain ⟨q1, q2⟩ := nk p List.mem_cons_self
        obtain ⟨h1, h2, _⟩ := hq
        rw [← h1, ← h2]
        exact ⟨nested_is ok e _ _ _ q1 rfl, q2⟩
      · exact ih (fun y hy => nk y (List.mem_cons_of_mem _ hy)) x hx
  exact all r nk x hx
theorem ndict_of {a : Addr} {kvs : NEnts} {xs : List (NestedKey × Addr × Value)} (z : kvs.length ≤ sizeLine) (y : (a == sysModules) = false) (r : Paired NPair kvs xs) (d : h.DictOfH (nestedKind P w) a xs) : NDictOk w a kvs h := by
  obtain ⟨o, es, ep, h1, h2, h3, h4, _, h5⟩ := d
  exact ⟨z, y, xs, r, o, es, ep, h1, h2, h3, h4, h5⟩
end
/-- what the dict at a holds, owned or frozen -/
def NAt (w : World) (H : Hp) (a : Addr) (kvs : NEnts) : Prop := H a = some (NDict w a kvs) ∨ ∃ o, H a = some (.frz o (NDict w a kvs))
section
variable {X : Cx} {pins : List (Addr × Obj)} {σ : L2.St} {G H : Hp} {s : Shared} {a b : Addr} {y v : V} {u r : Value} {A : Around} {E : Value → Shared → Prop} {kvs : NEnts} {k : NestedKey}
theorem NAt.ok (I : Inv X pins σ H s) (g : NAt X.w H a kvs) : NDictOk X.w a kvs s.heap := by
  rcases g with g | ⟨o, g⟩
  · exact (I.hok a _ g).1
  · exact (I.hok a _ g).2.1
theorem nd_key (I : Inv X pins σ H s) (e : Ex G H) (hk : KRep G k (.ref b)) (hd : k.depth ≤ 8) : (nestedKind X.prog X.w).is s.heap k b := ⟨nested_is I.hok e _ _ _ hk rfl, hd⟩
theorem nd_getItem {Q : Value → Shared → Prop} (hu : A.units + 64 < cLine) (I : Inv X pins σ H s) (e : Ex G H) (g : NAt X.w H a kvs) (nk : NKeys G kvs) (hk : KRep G k (.ref b)) (hd : k.depth ≤ 8) (hv : valV (nProj kvs) k = some v) (h : ∀ w' s', Inv X pins σ H s' → RelV v w' → Q w' s') :
    wpAny (model X.prog X.w) A (getItem (.ref a) (.ref b)) Q E s := by
  obtain ⟨z, hs, xs, rel, dd⟩ := ndict_h I.hok e (g.ok I) nk
  obtain ⟨w', hw, rw'⟩ := RelO.some_of (v := v) (o := (atKey xs k).map (·.2)) (by rw [← hv]; exact n_val rel k)
  obtain ⟨p, hp, hp2⟩ := Option.map_eq_some_iff.mp hw
  refine wpAny_getItem_heap (knd := nestedKind X.prog X.w) (by show A.units + 1 + 8 < cLine; omega) (nd_key I e hk hd) dd hp ?_
  rw [hp2]
  exact h w' _ (I.tok _) rw'
theorem nd_in {Q : Value → Shared → Prop} (hu : A.units + 64 < cLine) (I : Inv X pins σ H s) (e : Ex G H) (g : NAt X.w H a kvs) (nk : NKeys G kvs) (hk : KRep G k (.ref b)) (hd : k.depth ≤ 8) (h : ∀ s', Inv X pins σ H s' → Q (.bool (valV (nProj kvs) k).isSome) s') :
    wpAny (model X.prog X.w) A (compareOp .In (.ref b) (.ref a)) Q E s := by
  obtain ⟨z, hs, xs, rel, dd⟩ := ndict_h I.hok e (g.ok I) nk
  refine wpAny_in_heap (knd := nestedKind X.prog X.w) (by show A.units + 1 + 8 < cLine; omega) (nd_key I e hk hd) hs dd ?_
  have q := (n_val rel k).isSome_eq
  rw [Option.isSome_map] at q
  rw [← q]
  exact h _ (I.tok _)
theorem nd_notIn {Q : Value → Shared → Prop} (hu : A.units + 64 < cLine) (I : Inv X pins σ H s) (e : Ex G H) (g : NAt X.w H a kvs) (nk : NKeys G kvs) (hk : KRep G k (.ref b)) (hd : k.depth ≤ 8) (h : ∀ s', Inv X pins σ H s' → Q (.bool (!(valV (nProj kvs) k).isSome)) s') :
    wpAny (model X.prog X.w) A (compareOp .NotIn (.ref b) (.ref a)) Q E s := by
  obtain ⟨z, hs, xs, rel, dd⟩ := ndict_h I.hok e (g.ok I) nk
  refine wpAny_notIn_heap (knd := nestedKind X.prog X.w) (by show A.units + 1 + 8 < cLine; omega) (nd_key I e hk hd) hs dd ?_
  have q := (n_val rel k).isSome_eq
  rw [Option.isSome_map] at q
  rw [← q]
  exact h _ (I.tok _)
theorem nd_get2 {d : V} {Q : Value → Shared → Prop} (hu : A.units + 64 < cLine) (I : Inv X pins σ H s) (e : Ex G H) (g : NAt X.w H a kvs) (nk : NKeys G kvs) (hk : KRep G k (.ref b)) (hd : k.depth ≤ 8) (rd : RelV d r) (h : ∀ w' s', Inv X pins σ H s' → RelV ((valV (nProj kvs) k).getD d) w' → Q w' s') :
    wpAny (model X.prog X.w) A (call (.builtin "dict.get") [.ref a, .ref b, r]) Q E s := by
  obtain ⟨z, hs, xs, rel, dd⟩ := ndict_h I.hok e (g.ok I) nk
  exact call_meetsIn PySem.F.slot_dict_get dd.typeIs PySem.F.entry_dict_get (PySem.F.args_dict_get_3 _ _ _) (meetsH_dict_get_default (nestedKind X.prog X.w) a b hs r) ⟨by show A.units + 1 + 8 < cLine; omega, k, xs, nd_key I e hk hd, dd, h _ _ (I.tok _) ((n_val rel k).getD rd)⟩
theorem nd_type (I : Inv X pins σ H s) (g : NAt X.w H a kvs) : s.TypeIs (.ref a) "dict" ∧ (∀ b, Value.ref a = .ref b → ∃ ob, s.heap.get? b = some ob ∧ ob.dict = none) := by
  obtain ⟨z, y, xs, r, o, es, ep, h1, h2, _⟩ := g.ok I
  refine ⟨⟨o, h1, h2.1⟩, fun b q => ?_⟩
  cases q
  exact ⟨o, h1, h2.2.1⟩
theorem nd_setItem {Q : Unit → Shared → Prop} (hu : A.units + 64 < cLine) (I : Inv X pins σ H s) (e : Ex G H) (g : H a = some (NDict X.w a kvs)) (nk : NKeys G kvs) (hk : KRep G k (.ref b)) (hd : k.depth ≤ 8) (hl : kvs.length < sizeLine) (rv : RelV v r)
    (h : ∀ s', Inv X pins σ (upd H a (NDict X.w a (nput kvs k b v))) s' → Q () s') : wpAny (model X.prog X.w) A (setItem (.ref a) (.ref b) r) Q E s := by
  obtain ⟨z, hs, xs, rel, dd⟩ := ndict_h I.hok e (NAt.ok I (.inl g)) nk
  have hz : xs.length ≤ sizeLine := by rw [← Paired.length rel]; exact z
  refine wpAny_setItem_heap (knd := nestedKind X.prog X.w) (hsz := hz) (by show A.units + 1 + 8 < cLine; omega) (nd_key I e hk hd) dd fun h' dd' hss => h _ ?_
  have he : ∃ q, h'.get? a = some q := let ⟨q, _, _, hq, _⟩ := dd'; ⟨q, hq⟩
  have hn := nput_len kvs k b v
  exact d_write I (by rw [g]; exact True.intro) hss he (ndict_ok (ndict_of (by omega) hs (n_put rel k b rv) dd'))
end

/-! ### rules -/
section
variable {X : Cx} {o i e f value : Expr} {apos cpos pos pos' : Pos} {td ty tv tx : TE}
theorem pe_dgetN (hu : X.A.units + 64 < cLine) (ho : PE X o td) (hi : PE X i ty) (hs : NoSl i) : PE X (.Subscript o i pos) (fun σ H Q => td σ H fun x H1 => ty σ H1 fun y H2 =>
    ∃ a b G kvs k v, x = .ref a ∧ y = .ref b ∧ Ex G H2 ∧ NAt X.w H2 a kvs ∧ NKeys G kvs ∧ KRep G k (.ref b) ∧ k.depth ≤ 8 ∧ valV (nProj kvs) k = some v ∧ Q v H2) := by
  refine ⟨fun pins s σ H Q I h => ?_⟩
  refine subD_of PySem.F.slot_dict_getitem.lookup hs (thn (ho.run pins s σ H _ I h) fun u s1 ⟨x, H1, I1, rx, q1⟩ => thn (hi.run pins s1 σ H1 _ I1 q1) fun iv s2 ⟨y, H2, I2, ry, a, b, G, kvs, k, v, ex, ey, eg, g, nk, hk, hd, hv, q2⟩ => ?_)
  subst ex ey
  obtain rfl : u = Value.ref a := rx
  obtain rfl : iv = Value.ref b := ry
  exact ⟨(nd_type I2 g).1, nd_getItem hu I2 eg g nk hk hd hv fun w' s3 I3 rw' => ⟨v, H2, I3, rw', q2⟩⟩
theorem pc_dinN (hu : X.A.units + 64 < cLine) (hi : PE X i ty) (ho : PE X o td) : PC X .In i o (fun σ H Q => ty σ H fun y H1 => td σ H1 fun x H2 =>
    ∃ a b G kvs k, x = .ref a ∧ y = .ref b ∧ Ex G H2 ∧ NAt X.w H2 a kvs ∧ NKeys G kvs ∧ KRep G k (.ref b) ∧ k.depth ≤ 8 ∧ Q (.bl (valV (nProj kvs) k).isSome) H2) := by
  refine ⟨fun pins s σ H Q I h => ?_⟩
  refine thn (hi.run pins s σ H _ I h) fun iv s1 ⟨y, H1, I1, ry, q1⟩ => thn (ho.run pins s1 σ H1 _ I1 q1) fun u s2 ⟨x, H2, I2, rx, a, b, G, kvs, k, ex, ey, eg, g, nk, hk, hd, q2⟩ => ?_
  subst ex ey
  obtain rfl : u = Value.ref a := rx
  obtain rfl : iv = Value.ref b := ry
  exact nd_in hu I2 eg g nk hk hd fun s3 I3 => ⟨.bl (valV (nProj kvs) k).isSome, H2, I3, rfl, q2⟩
theorem pc_dnotinN (hu : X.A.units + 64 < cLine) (hi : PE X i ty) (ho : PE X o td) : PC X .NotIn i o (fun σ H Q => ty σ H fun y H1 => td σ H1 fun x H2 =>
    ∃ a b G kvs k, x = .ref a ∧ y = .ref b ∧ Ex G H2 ∧ NAt X.w H2 a kvs ∧ NKeys G kvs ∧ KRep G k (.ref b) ∧ k.depth ≤ 8 ∧ Q (.bl (!(valV (nProj kvs) k).isSome)) H2) := by
  refine ⟨fun pins s σ H Q I h => ?_⟩
  refine thn (hi.run pins s σ H _ I h) fun iv s1 ⟨y, H1, I1, ry, q1⟩ => thn (ho.run pins s1 σ H1 _ I1 q1) fun u s2 ⟨x, H2, I2, rx, a, b, G, kvs, k, ex, ey, eg, g, nk, hk, hd, q2⟩ => ?_
  subst ex ey
  obtain rfl : u = Value.ref a := rx
  obtain rfl : iv = Value.ref b := ry
  exact nd_notIn hu I2 eg g nk hk hd fun s3 I3 => ⟨.bl (!(valV (nProj kvs) k).isSome), H2, I3, rfl, q2⟩
theorem ps_dputN (hu : X.A.units + 64 < cLine) (ho : PE X o td) (hi : PE X i ty) (hv : PE X value tv) (hs : swapsWith value (some (.Subscript o i pos')) pos.line X.env = pure false) :
    PS X (.Assign [.Subscript o i pos'] value pos) (fun D σ H => tv σ H fun v H1 => td σ H1 fun x H2 => ty σ H2 fun y H3 => ∃ a b G kvs k, x = .ref a ∧ y = .ref b ∧ Ex G H3 ∧ H3 a = some (NDict X.w a kvs) ∧ NKeys G kvs ∧ KRep G k (.ref b) ∧ k.depth ≤ 8 ∧ kvs.length < sizeLine ∧
      D.nx σ (upd H3 a (NDict X.w a (nput kvs k b v)))) := by
  refine ⟨fun pins s σ H D I h => ?_⟩
  refine wpAny_Assign_Subscript (thn (hv.run pins s σ H _ I h) fun r s1 ⟨v, H1, I1, rv, q1⟩ => thn (ho.run pins s1 σ H1 _ I1 q1) fun u s2 ⟨x, H2, I2, rx, q2⟩ => thn (hi.run pins s2 σ H2 _ I2 q2) fun iv s3 ⟨y, H3, I3, ry, a, b, G, kvs, k, ex, ey, eg, g, nk, hk, hd, hl, q3⟩ => ?_) hs
  subst ex ey
  obtain rfl : u = Value.ref a := rx
  obtain rfl : iv = Value.ref b := ry
  exact nd_setItem hu I3 eg g nk hk hd hl rv fun s4 I4 => ⟨σ, _, I4, q3⟩
theorem pe_dget2N (hu : X.A.units + 64 < cLine) (ho : PE X o td) (he : PE X e ty) (hf : PE X f tx) (m : M2 X o "get" apos e f cpos) : PE X (.Call (.Attribute o "get" apos) [e, f] [] cpos) (fun σ H Q => td σ H fun x H1 => ∃ a, x = .ref a ∧ (∃ kvs, NAt X.w H1 a kvs) ∧ ty σ H1 fun y H2 => tx σ H2 fun z H3 =>
    ∃ b G kvs k, y = .ref b ∧ Ex G H3 ∧ NAt X.w H3 a kvs ∧ NKeys G kvs ∧ KRep G k (.ref b) ∧ k.depth ≤ 8 ∧ Q ((valV (nProj kvs) k).getD z) H3) := by
  refine ⟨fun pins s σ H Q I h => ?_⟩
  refine wpAny_Call_method m.base m.few m.line PySem.F.plainAttrs_dict PySem.F.slot_dict_get PySem.F.type_dict_get (thn (ho.run pins s σ H _ I h) fun u s1 ⟨x, H1, I1, rx, a, ex, ⟨kv0, d⟩, q1⟩ => ?_)
  subst ex
  obtain rfl : u = Value.ref a := rx
  obtain ⟨t1, t2⟩ := nd_type I1 d
  refine ⟨t1, t2, ?_⟩
  rw [m.trees]
  refine Calls.callWith_builtin rfl (Calls.evalArgs_plain (Calls.spliced_cons (thn (he.run pins s1 σ H1 _ I1 q1) fun iv s2 ⟨y, H2, I2, ry, q2⟩ =>
    Calls.spliced_cons (thn (hf.run pins s2 σ H2 _ I2 q2) fun fv s3 ⟨z, H3, I3, rz, b, G, kvs, k, ey, eg, g, nk, hk, hd, q3⟩ => Calls.spliced_nil ?_))))
  subst ey
  obtain rfl : iv = Value.ref b := ry
  exact nd_get2 hu I3 eg g nk hk hd rz fun w' s4 I4 rw' => ⟨_, H3, I4, rw', q3⟩
theorem nd_empty {w : World} (h : Heap) (hb : sysModules < h.objs.size) : NDictOk w h.objs.size [] (h.push { cls := .type "dict", data := .dict #[] }) :=
  ⟨Nat.zero_le _, beq_eq_false_iff_ne.mpr (Ne.symm (Nat.ne_of_lt hb)), [], .nil, _, #[], 0, Heap.get?_push_size _ rfl, ⟨rfl, rfl, rfl⟩, rfl, rfl, List.nodup_nil⟩
theorem pe_dnewN : PE X (.Dict [] [] pos) (fun _ H Q => ∀ p, H p = none → Q (.ref p) (upd H p (NDict X.w p []))) := ⟨fun pins s σ H Q I h =>
  wpAny_Dict_empty ⟨.ref s.heap.objs.size, _, I.laid (a := s.heap.objs.size) (o := NDict X.w s.heap.objs.size []) (t' := s.toks) (fun _ _ q => Heap.get?_push_of_some _ q) (Nat.le_refl _) (ndict_ok (nd_empty s.heap I.big)), rfl, h _ (I.hok.fresh (Nat.le_refl _))⟩⟩
/-- {k: v} -/
theorem pe_dispN (hu : X.A.units + 64 < cLine) (hk : PE X e ty) (hv : PE X value tv) : PE X (.Dict [some e] [value] pos) (fun σ H Q => ∀ p, H p = none → ty σ (upd H p (NDict X.w p [])) fun y H1 => tv σ H1 fun v H2 =>
    ∃ b G k, y = .ref b ∧ Ex G H2 ∧ H2 p = some (NDict X.w p []) ∧ KRep G k (.ref b) ∧ k.depth ≤ 8 ∧ Q (.ref p) (upd H2 p (NDict X.w p [(k, b, v)]))) := by
  refine ⟨fun pins s σ H Q I q => ?_⟩
  have hn := I.hok.fresh (Nat.le_refl s.heap.objs.size)
  have I1 := I.laid (a := s.heap.objs.size) (o := NDict X.w s.heap.objs.size []) (h' := s.heap.push { cls := .type "dict", data := .dict #[] }) (t' := s.toks) (fun _ _ q => Heap.get?_push_of_some _ q) (Nat.le_refl _) (ndict_ok (nd_empty s.heap I.big))
  rw [arm_eval_Dict, zip_pairTrees [some e] [value] X.env pos rfl rfl, dictDisplay_pairs (pairTrees [some e] [value] X.env pos) (by intro h; cases h) (by rw [pairTrees_length _ _ _ _ rfl rfl]; show 1 < 17; decide)]
  refine wpAny_bind (wpAny_standAt (wpAny_bind (wpAny_subDictH (knd := nestedKind X.prog X.w) (Q := fun d s' => wpAny (model X.prog X.w) X.A (pure (Value.ref d)) (EP X pins σ Q) X.xe s') (by show X.A.units + 8 < cLine; omega) (by rw [pairTrees_length _ _ _ _ rfl rfl]; show 1 ≤ 15; decide) ?_)))
  refine pairTrees_cons_walk (thn (hk.run pins _ σ _ _ I1 (q _ hn)) fun u s1 ⟨y, H1, J1, ry, q1⟩ => thn (hv.run pins s1 σ H1 _ J1 q1) fun w2 s2 ⟨v, H2, J2, rv, b, G, k, ey, eg, g, hkr, hd, q2⟩ => pairTrees_nil_walk ?_)
  subst ey
  obtain rfl : u = Value.ref b := ry
  obtain ⟨z, hs, xs, rel, dd⟩ := ndict_h J2.hok eg (NAt.ok J2 (.inl g)) (fun p hp => nomatch hp)
  cases rel
  refine ⟨[(k, b, w2)], ⟨rfl, rfl, nd_key J2 eg hkr hd, trivial⟩, dd, fun h' tk dd' hss => wpAny_pure ⟨.ref s.heap.objs.size, _, ?_, rfl, q2⟩⟩
  have he : ∃ q, h'.get? s.heap.objs.size = some q := let ⟨q, _, _, hq, _⟩ := dd'; ⟨q, hq⟩
  have e1 : storedAllH ([] : List (NestedKey × Addr × Value)) [(k, b, w2)] = [(k, b, w2)] := rfl
  rw [e1] at dd'
  exact d_write J2 (by rw [g]; exact True.intro) hss he (ndict_ok (ndict_of (kvs := [(k, b, v)]) (by show 1 ≤ sizeLine; decide) hs (.cons ⟨rfl, rfl, rv⟩ .nil) dd'))
end

/-! ### typed -/
/-- keys of a kind: as keys, as data -/
structure KC {κ : Type} (kf : κ → NestedKey) (ef : κ → D) (n : Nat) : Prop where
  d : ∀ x, nkD (kf x) = ef x
  inj : ∀ a b, kf a = kf b → a = b
  dep : ∀ x, (kf x).depth ≤ n
theorem kc_int : KC NestedKey.num D.int 0 := ⟨fun _ => rfl, fun a b h => by injection h, fun _ => Nat.le_refl _⟩
theorem kc_str : KC NestedKey.text D.str 0 := ⟨fun _ => rfl, fun a b h => by injection h, fun _ => Nat.le_refl _⟩
abbrev kTs {α : Type} (f : α → NestedKey) (xs : List α) : NestedKey := .tup (xs.map f)
abbrev kN2 {α β : Type} (f : α → NestedKey) (g : β → NestedKey) (x : α × β) : NestedKey := .tup [f x.1, g x.2]
theorem kc_ts {α : Type} {f : α → NestedKey} {ef : α → D} {n : Nat} (E : KC f ef n) : KC (kTs f) (eTs ef) (n + 1) where
  d := fun xs => by
    show nkD (.tup (xs.map f)) = .tup (xs.map ef)
    unfold nkD
    congr 1
    induction xs with
    | nil => rfl
    | cons x xs ih => rw [List.map_cons, List.map_cons]; unfold nkDs; rw [E.d, ih]
  inj := fun a b h => by
    injection h with h
    induction a generalizing b with
    | nil => cases b with
      | nil => rfl
      | cons y ys => cases h
    | cons x xs ih => cases b with
      | nil => cases h
      | cons y ys =>
        rw [List.map_cons, List.map_cons, List.cons.injEq] at h
        rw [E.inj _ _ h.1, ih _ h.2]
  dep := fun xs => by
    show NestedKey.depthAll (xs.map f) + 1 ≤ n + 1
    refine Nat.succ_le_succ ?_
    induction xs with
    | nil => exact Nat.zero_le _
    | cons x xs ih => rw [List.map_cons]; unfold NestedKey.depthAll; exact Nat.max_le.mpr ⟨E.dep x, ih⟩
theorem kc_p2 {α β : Type} {f : α → NestedKey} {g : β → NestedKey} {ef : α → D} {eg : β → D} {n m : Nat} (E : KC f ef n) (F : KC g eg m) : KC (kN2 f g) (eP2 ef eg) (max n m + 1) where
  d := fun x => by
    show nkD (.tup [f x.1, g x.2]) = .tup [ef x.1, eg x.2]
    unfold nkD nkDs nkDs nkDs
    rw [E.d, F.d]
  inj := fun a b h => by
    injection h with h
    rw [List.cons.injEq, List.cons.injEq] at h
    exact Prod.ext (E.inj _ _ h.1) (F.inj _ _ h.2.1)
  dep := fun x => by
    show NestedKey.depthAll [f x.1, g x.2] + 1 ≤ _
    have a := E.dep x.1
    have b := F.dep x.2
    simp only [NestedKey.depthAll]
    omega
abbrev mDN {κ α : Type} (w : World) (kf : κ → NestedKey) (vf : α → D) (al : List (κ × α)) : MO := .dN w (al.map fun p => kf p.1) (al.map fun p => vf p.2)
abbrev eDN {κ α : Type} (w : World) (kf : κ → NestedKey) (vf : α → D) (al : List (κ × α)) : D := .dN w (al.map fun p => kf p.1) (al.map fun p => vf p.2)
section
variable {X : Cx} {e a b oe ie : Expr} {es : List Expr} {rest : List Stmt} {ρ : Env} {M M1 M2 M3 : Mem} {d : D} {ds : List D} {pos pos' p apos : Pos} {i j r : Int} {q : Addr} {κ α : Type} [DecidableEq κ] {kf : κ → NestedKey} {ef : κ → D} {n : Nat} {vf : α → D} {al al' : List (κ × α)} {key : κ} {v : α} {Z : Ends} {G0 : Hp}
theorem of_dN {K : PySem.W.Frag} {G : Hp} {x : V} {w : World} {ks : List NestedKey} {ds : List D} (h : Rep K G (.dN w ks ds) x) : ∃ a o kvs, x = .ref a ∧ G a = some (.frz o (NDict w a kvs)) ∧ kvs.map (·.1) = ks ∧ NKeys G kvs ∧ RepL K G ds (kvs.map (·.2.2)) := by unfold Rep at h; exact h
theorem drel_n {K : PySem.W.Frag} {G : Hp} {kvs : NEnts} (h1 : kvs.map (·.1) = al.map fun p => kf p.1) (h2 : RepL K G (al.map fun p => vf p.2) (kvs.map (·.2.2))) : DRel K G kf vf al (nProj kvs) :=
  ⟨by rw [List.map_map]; exact h1, by rw [List.map_map]; exact h2⟩
theorem drel_n1 {K : PySem.W.Frag} {G : Hp} {kvs : NEnts} (r : DRel K G kf vf al (nProj kvs)) : kvs.map (·.1) = al.map fun p => kf p.1 := by have := r.k; rw [List.map_map] at this; exact this
theorem drel_n2 {K : PySem.W.Frag} {G : Hp} {kvs : NEnts} (r : DRel K G kf vf al (nProj kvs)) : RepL K G (al.map fun p => vf p.2) (kvs.map (·.2.2)) := by have := r.v; rw [List.map_map] at this; exact this
theorem mr_dn {K : PySem.W.Frag} {w : World} {G H : Hp} (h : MRep K G H q (mDN w kf vf al)) : ∃ kvs, H q = some (NDict w q kvs) ∧ NKeys G kvs ∧ DRel K G kf vf al (nProj kvs) := by
  obtain ⟨kvs, h1, h2, h3, h4⟩ := h
  exact ⟨kvs, h1, h3, drel_n h2 h4⟩
theorem n_dctN : XN X (.Dict [] [] pos) ρ M (mDN X.w kf vf ([] : List (κ × α))) M := .mk fun G σ H Q sl w q =>
  Sem.of pe_dnewN fun p hp => q p G _ (Ex.refl G) (w.newO hp ⟨[], upd_same, rfl, (fun _ h => nomatch h), RepL.nil⟩)
/-- what may be read as such a dict, under M -/
inductive DctN (w : World) (kf : κ → NestedKey) (vf : α → D) (M : Mem) : D → List (κ × α) → Prop where
  | frz (al : List (κ × α)) : DctN w kf vf M (eDN w kf vf al) al
  | own (k : Nat) (p : Addr) (al : List (κ × α)) (h : M[k]? = some (p, mDN w kf vf al)) : DctN w kf vf M (.adr p) al
theorem DctN.get {K : PySem.W.Frag} {G H : Hp} {x : V} {w : World} (h : DctN w kf vf M d al) (wd : Wd K G M H) (r : Rep K G d x) : ∃ a kvs, x = .ref a ∧ NAt w H a kvs ∧ NKeys G kvs ∧ DRel K G kf vf al (nProj kvs) := by
  cases h with
  | frz => obtain ⟨a, o, kvs, rfl, h1, h2, h3, h4⟩ := of_dN r; exact ⟨a, kvs, rfl, .inr ⟨o, wd.ex _ _ h1⟩, h3, drel_n h2 h4⟩
  | own k p _ hk => obtain ⟨kvs, hv, nk, rel⟩ := mr_dn (wd.at hk).2; exact ⟨p, kvs, of_adr r, .inl hv, nk, rel⟩
theorem key_ref {K : PySem.W.Frag} {G : Hp} {x : V} (E : KC kf ef n) (ht : ∀ x, ∃ ks, kf x = .tup ks) (r : Rep K G (ef key) x) : ∃ b, x = .ref b ∧ KRep G (kf key) (.ref b) := by
  rw [← E.d, rep_nk] at r
  obtain ⟨ks, e⟩ := ht key
  have r' := r
  rw [e] at r'
  unfold KRep at r'
  obtain ⟨b, vs, rfl, _, _⟩ := r'
  exact ⟨b, rfl, r⟩
/-- d[key] = e -/
theorem st_dputN (hu : X.A.units + 64 < cLine) (E : KC kf ef n) (k : Nat) (he : XE X e ρ M (vf v) M1) (ho : XE X oe ρ M1 (.adr q) M2) (hi : XE X ie ρ M2 (ef key) M3) (hk : M3[k]? = some (q, mDN X.w kf vf al)) (hp : dput al key v = some al')
    (kk : St X rest Z G0 ρ (M3.set k (q, mDN X.w kf vf al'))) (hn : n ≤ 8 := by decide) (ht : ∀ x, ∃ ks, kf x = .tup ks := by exact fun _ => ⟨_, rfl⟩) (hs : swapsWith e (some (.Subscript oe ie pos')) pos.line X.env = pure false := by first | exact sw_of rfl | rfl) : St X (.Assign [.Subscript oe ie pos'] e pos :: rest) Z G0 ρ M := St.mk' fun G σ H e0 sl w =>
  cons_of (ps_dputN hu pe_sem pe_sem pe_sem hs) (he.run G σ H _ sl w fun x G1 H1 e1 w1 r1 => ho.run G1 σ H1 _ (sl.mono e1) w1 fun y G2 H2 e2 w2 r2 => hi.run G2 σ H2 _ (sl.mono (e1.trans e2)) w2 fun z G3 H3 e3 w3 r3 => by
    obtain ⟨kvs, hv, nk, rel⟩ := mr_dn (w3.at hk).2
    obtain ⟨b, rfl, kr⟩ := key_ref E ht r3
    obtain ⟨hl, rfl⟩ := dput_some hp
    have rel2 := rel.put E.inj (k := key) (r1.mono (e2.trans e3))
    have hd : (kf key).depth ≤ 8 := Nat.le_trans (E.dep key) hn
    rw [← nput_proj (b := b)] at rel2
    refine ⟨q, b, G3, kvs, kf key, of_adr r2, rfl, w3.ex, hv, nk, kr, hd, ?_, kk.run (((e0.trans e1).trans e2).trans e3) (sl.mono ((e1.trans e2).trans e3)) (w3.set hk ⟨_, upd_same, drel_n1 rel2, nput_keys nk kr hd, drel_n2 rel2⟩)⟩
    have := rel.length
    rw [List.length_map] at this
    rw [this]; exact hl)
/-- d[key] -/
theorem x_dgetN (hu : X.A.units + 64 < cLine) (E : KC kf ef n) (ho : XE X a ρ M d M1) (hi : XE X b ρ M1 (ef key) M2) (hq : DctN X.w kf vf M2 d al) (hp : dget al key = some v) (hn : n ≤ 8 := by decide) (ht : ∀ x, ∃ ks, kf x = .tup ks := by exact fun _ => ⟨_, rfl⟩) (hs : NoSl b := by exact plainIx_of rfl) :
    XE X (.Subscript a b pos) ρ M (vf v) M2 := .mk fun G σ H Q sl w q0 =>
  Sem.of (pe_dgetN hu pe_sem pe_sem hs) (ho.run G σ H _ sl w fun x G1 H1 e1 w1 r1 => hi.run G1 σ H1 _ (sl.mono e1) w1 fun y G2 H2 e2 w2 r2 => by
    obtain ⟨c, kvs, rfl, hv, nk, rel⟩ := hq.get w2 (r1.mono e2)
    obtain ⟨b, rfl, kr⟩ := key_ref E ht r2
    have hd : (kf key).depth ≤ 8 := Nat.le_trans (E.dep key) hn
    rcases rel.get E.inj (k := key) with ⟨h1, _⟩ | ⟨x', u, h1, h2, h3⟩
    · rw [h1] at hp; cases hp
    · rw [h1] at hp; cases hp
      exact ⟨c, b, G2, kvs, kf key, u, rfl, rfl, w2.ex, hv, nk, kr, hd, h2, q0.use (e1.trans e2) w2 h3⟩)
theorem dhas_valN {K : PySem.W.Frag} {G : Hp} (E : KC kf ef n) {kvs : List (NestedKey × V)} (rel : DRel K G kf vf al kvs) : (valV kvs (kf key)).isSome = dhas al key := by
  rw [← dget_has]
  rcases rel.get E.inj (k := key) with ⟨h1, h2⟩ | ⟨x', u, h1, h2, h3⟩
  · rw [h1, h2]; rfl
  · rw [h1, h2]; rfl
theorem c_inN (hu : X.A.units + 64 < cLine) (E : KC kf ef n) (hi : XE X a ρ M (ef key) M1) (ho : XE X b ρ M1 d M2) (hq : DctN X.w kf vf M2 d al) (hn : n ≤ 8 := by decide) (ht : ∀ x, ∃ ks, kf x = .tup ks := by exact fun _ => ⟨_, rfl⟩) : XC X .In a b ρ M (.bl (dhas al key)) M2 := .mk fun G σ H Q sl w q0 =>
  SemC.of (pc_dinN hu pe_sem pe_sem) (hi.run G σ H _ sl w fun x G1 H1 e1 w1 r1 => ho.run G1 σ H1 _ (sl.mono e1) w1 fun y G2 H2 e2 w2 r2 => by
    obtain ⟨c, kvs, rfl, hv, nk, rel⟩ := hq.get w2 r2
    obtain ⟨b, rfl, kr⟩ := key_ref E ht (r1.mono e2)
    exact ⟨c, b, G2, kvs, kf key, rfl, rfl, w2.ex, hv, nk, kr, Nat.le_trans (E.dep key) hn, by rw [dhas_valN E rel]; exact q0.use (e1.trans e2) w2 rep_bl⟩)
theorem c_notInN (hu : X.A.units + 64 < cLine) (E : KC kf ef n) (hi : XE X a ρ M (ef key) M1) (ho : XE X b ρ M1 d M2) (hq : DctN X.w kf vf M2 d al) (hn : n ≤ 8 := by decide) (ht : ∀ x, ∃ ks, kf x = .tup ks := by exact fun _ => ⟨_, rfl⟩) : XC X .NotIn a b ρ M (.bl (!dhas al key)) M2 := .mk fun G σ H Q sl w q0 =>
  SemC.of (pc_dnotinN hu pe_sem pe_sem) (hi.run G σ H _ sl w fun x G1 H1 e1 w1 r1 => ho.run G1 σ H1 _ (sl.mono e1) w1 fun y G2 H2 e2 w2 r2 => by
    obtain ⟨c, kvs, rfl, hv, nk, rel⟩ := hq.get w2 r2
    obtain ⟨b, rfl, kr⟩ := key_ref E ht (r1.mono e2)
    exact ⟨c, b, G2, kvs, kf key, rfl, rfl, w2.ex, hv, nk, kr, Nat.le_trans (E.dep key) hn, by rw [dhas_valN E rel]; exact q0.use (e1.trans e2) w2 rep_bl⟩)
end
end Wk

/-! Wk: dicts whose keys are tuples: get, displays, len, walks, freezing. -/
namespace Wk
open PySem PySem.Spec PyProof.Rows L2 Evl
section
variable {X : Cx} {e a b oe ie value : Expr} {es : List Expr} {rest : List Stmt} {ρ : Env} {M M1 M2 M3 : Mem} {d : D} {ds : List D} {pos pos' p apos : Pos} {i j r : Int} {q : Addr} {κ α : Type} [DecidableEq κ] {kf : κ → NestedKey} {ef : κ → D} {n : Nat} {vf : α → D} {al al' : List (κ × α)} {key : κ} {v : α} {Z : Ends} {G0 : Hp}
/-- d.get(key, dflt) -/
theorem x_get2N (hu : X.A.units + 64 < cLine) (E : KC kf ef n) (ho : XE X a ρ M d M1) (hi : XE X b ρ M1 (ef key) M2) (hx : XE X e ρ M2 (vf v) M3) (hq1 : DctN X.w kf vf M1 d al') (hq : DctN X.w kf vf M3 d al) (hn : n ≤ 8 := by decide) (ht : ∀ x, ∃ ks, kf x = .tup ks := by exact fun _ => ⟨_, rfl⟩)
    (hbase : attributeBase a "get" X.env (eval a X.env) = eval a X.env := by exact base_of rfl)
    (hfew : ((backTo pos (starEach [b, e] X.env)).all (fun x => !x.1) && (backToKw pos (keywordEach [] X.env)).all (fun x => x.1.isSome)
      && decide (([b, e] : List Expr).length + ([] : List Keyword).length + (if ([] : List Keyword).isEmpty then 0 else 1) < 30)) = true := by exact fewargs rfl (by decide))
    (hline : (apos.endLine == pos.line) = true := by rfl) (hs1 : starEach [b, e] X.env = (false, eval b X.env) :: starEach [e] X.env := by exact star_of rfl) (hs2 : starEach [e] X.env = [(false, eval e X.env)] := by exact star_one rfl) :
    XE X (.Call (.Attribute a "get" apos) [b, e] [] pos) ρ M (vf ((dget al key).getD v)) M3 := .mk fun G σ H Q sl w q0 =>
  Sem.of (pe_dget2N hu pe_sem pe_sem pe_sem ⟨hbase, hfew, hline, by rw [hs1, hs2]; rfl⟩) (ho.run G σ H _ sl w fun x G1 H1 e1 w1 r1 => by
    obtain ⟨c, kv0, rfl, hv0, _, _⟩ := hq1.get w1 r1
    refine ⟨c, rfl, ⟨kv0, hv0⟩, hi.run G1 σ H1 _ (sl.mono e1) w1 fun y G2 H2 e2 w2 r2 => hx.run G2 σ H2 _ (sl.mono (e1.trans e2)) w2 fun z G3 H3 e3 w3 r3 => ?_⟩
    obtain ⟨c', kvs, ec, hv, nk, rel⟩ := hq.get w3 (r1.mono (e2.trans e3))
    cases ec
    obtain ⟨b, rfl, kr⟩ := key_ref E ht r2
    refine ⟨b, G3, kvs, kf key, rfl, w3.ex, hv, nk, KRep.mono e3 _ kr, Nat.le_trans (E.dep key) hn, ?_⟩
    rcases rel.get E.inj (k := key) with ⟨h1, h2⟩ | ⟨x', u, h1, h2, h3⟩
    · rw [h1] at q0; rw [h2]; exact q0.use ((e1.trans e2).trans e3) w3 r3
    · rw [h1] at q0; rw [h2]; exact q0.use ((e1.trans e2).trans e3) w3 h3)
/-- {key: value} -/
theorem n_dispN (hu : X.A.units + 64 < cLine) (E : KC kf ef n) (hk : ∀ p, XE X e ρ ((p, mDN X.w kf vf ([] : List (κ × α))) :: M) (ef key) ((p, mDN X.w kf vf ([] : List (κ × α))) :: M1)) (hv : ∀ p, XE X value ρ ((p, mDN X.w kf vf ([] : List (κ × α))) :: M1) (vf v) ((p, mDN X.w kf vf ([] : List (κ × α))) :: M2)) (hn : n ≤ 8 := by decide) (ht : ∀ x, ∃ ks, kf x = .tup ks := by exact fun _ => ⟨_, rfl⟩) :
    XN X (.Dict [some e] [value] pos) ρ M (mDN X.w kf vf [(key, v)]) M2 := .mk fun G σ H Q sl w q0 =>
  Sem.of (pe_dispN hu pe_sem pe_sem) fun p hp => (hk p).run G σ _ _ sl (w.newO hp ⟨[], upd_same, rfl, (fun _ h => nomatch h), RepL.nil⟩) fun y G1 H1 e1 w1 r1 => (hv p).run G1 σ H1 _ (sl.mono e1) w1 fun z G2 H2 e2 w2 r2 => by
    obtain ⟨b, rfl, kr⟩ := key_ref E ht r1
    obtain ⟨kvs, hh, h1, h2, h3⟩ := (w2.at (i := 0) rfl).2
    have hz : kvs = [] := by
      cases kvs with
      | nil => rfl
      | cons x y => cases h1
    subst hz
    have hd : (kf key).depth ≤ 8 := Nat.le_trans (E.dep key) hn
    refine ⟨b, G2, kf key, rfl, w2.ex, hh, KRep.mono e2 _ kr, hd, ?_⟩
    refine q0 p G2 _ (e1.trans e2) (w2.set (i := 0) rfl ⟨[(kf key, b, z)], upd_same, rfl, fun x hx => ?_, RepL.cons r2 RepL.nil⟩)
    rw [List.mem_singleton.mp hx]; exact ⟨KRep.mono e2 _ kr, hd⟩
theorem call_len_dN : CallR X (.builtin "len") (fun xs H Q => ∃ (p : Addr) (kvs : NEnts) (G : Hp), xs = [.ref p] ∧ NAt X.w H p kvs ∧ NKeys G kvs ∧ Ex G H ∧ Q (.int ((kvs.length : Nat) : Int)) H) := by
  intro pins s σ H xs us Q I r h
  obtain ⟨p, kvs, G, rfl, hp, nk, eg, q⟩ := h
  obtain ⟨u, rfl, rx⟩ := vals1 r
  obtain rfl : u = .ref p := rx
  obtain ⟨z, hd, ys, rel, dd⟩ := ndict_h I.hok eg (hp.ok I) nk
  have hl : kvs.length = ys.length := Paired.length rel
  refine call_len_dictH hd dd (by rw [← hl]; rw [sizeLine_eq] at z; omega) ?_
  rw [← hl]
  exact ⟨.int ((kvs.length : Nat) : Int), H, I.tok _, ⟨_, rfl⟩, q⟩
theorem x_lenN (ha : XA X [a] ρ M [d] M1) (hq : DctN X.w kf vf M1 d al) (hm : X.mg "len" = none) (hg : Gl X "len" := by rfl) (he : starEach [a] X.env = (false, eval a X.env) :: starEach [] X.env := by exact star_of rfl) :
    XE X (.Call (.Name "len" p) [a] [] pos) ρ M (.int (al.length : Nat)) M1 := XE.callB call_len_dN boot_len' ha (fun G H vs Q w rs q0 => by
  obtain ⟨v, rfl, r⟩ := rs.one
  obtain ⟨c, kvs, rfl, hv, nk, rel⟩ := hq.get w r
  have := rel.length
  rw [List.length_map] at this
  exact ⟨c, kvs, G, rfl, hv, nk, w.ex, by rw [this]; exact q0.use (Ex.refl G) w rep_int⟩) hm hg (by decide) (by decide) he (by rfl)

/-! ### what stands there, as the heap has it -/
theorem nd_raw {pins : List (Addr × Obj)} {σ : L2.St} {H : Hp} {s : Shared} {c : Addr} {o : Obj} {kvs : NEnts} (I : Inv X pins σ H s) (h : H c = some (.frz o (NDict X.w c kvs))) :
    (c == sysModules) = false ∧ s.heap.get? c = some o ∧ o.ExactDict ∧ ∃ (es : Array DictEntry) (ep : Nat), o.data = .dict es ep ∧ es.size = kvs.length ∧
      ∀ (i : Nat) (x : NestedKey × Addr × V), kvs[i]? = some x → ∃ en : DictEntry, es[i]? = some en ∧ en.key = .ref x.2.1 ∧ RelV x.2.2 en.val := by
  obtain ⟨hd, ⟨z, hs, xs, pr, o', es, ep, ho, hx, hdt, he, _⟩, _⟩ := I.hok c _ h
  rw [hd] at ho
  cases ho
  have l1 : es.size = xs.length := by rw [← Array.length_toList, he, List.length_map]
  have l2 : kvs.length = xs.length := Paired.length pr
  refine ⟨hs, hd, hx, es, ep, hdt, by omega, fun i x e => ?_⟩
  obtain ⟨b, hb, e1, e2, e3⟩ := paired_get pr e
  refine ⟨nEnt X.w b, ?_, by show Value.ref b.2.1 = _; rw [e2], e3⟩
  rw [← Array.getElem?_toList, he, List.getElem?_map, hb]; rfl
/-- an owned dict is frozen: at place k, held by name i -/
theorem st_frzN {sts : List Stmt} (i k : Nat) (hi : ρ[i]? = some (some (.adr q))) (hk : M[k]? = some (q, mDN X.w kf vf al)) (h : St X sts Z G0 (ρ.set i (some (eDN X.w kf vf al))) (M.eraseIdx k)) : St X sts Z G0 ρ M := .mk fun σ H ⟨G, e, sl, w⟩ pins s I => by
  obtain ⟨kvs, hv, nk, rel⟩ := mr_dn (w.at hk).2
  obtain ⟨o, I2⟩ := I.lock hv (by exact True.intro)
  have gq : G q = none := (w.at hk).1
  have w1 : Wd X.K G (M.eraseIdx k) (upd H q (.frz o (NDict X.w q kvs))) := by
    refine ⟨w.ex.mut gq, fun p hp => ?_, w.nd.sublist ((List.eraseIdx_sublist M k).map _)⟩
    have hpM : p ∈ M := List.mem_of_mem_eraseIdx hp
    have ne : p.1 ≠ q := fun e => by
      obtain ⟨j, hj, e2⟩ := List.mem_eraseIdx_iff_getElem?.mp hp
      have h1 : (M.map (·.1))[j]? = some q := by rw [List.getElem?_map, e2]; simp [e]
      have h2 : (M.map (·.1))[k]? = some q := by rw [List.getElem?_map, hk]; rfl
      exact hj (nd_ix w.nd h1 h2)
    obtain ⟨a, b⟩ := w.own p hpM
    exact ⟨a, b.keep (Ex.refl G) (upd_ne ne)⟩
  have e2 : Ex G (upd G q (.frz o (NDict X.w q kvs))) := Ex.new gq
  have w2 : Wd X.K (upd G q (.frz o (NDict X.w q kvs))) (M.eraseIdx k) (upd H q (.frz o (NDict X.w q kvs))) := by
    refine ⟨fun a u e => ?_, fun p hp => ?_, w1.nd⟩
    · by_cases hq : a = q
      · subst hq; rw [upd_same] at e ⊢; exact e
      · rw [upd_ne hq] at e ⊢; exact w.ex a u e
    · obtain ⟨a, b⟩ := w1.own p hp
      have ne : p.1 ≠ q := fun e => by
        obtain ⟨j, hj, e2⟩ := List.mem_eraseIdx_iff_getElem?.mp hp
        have h1 : (M.map (·.1))[j]? = some q := by rw [List.getElem?_map, e2]; simp [e]
        have h2 : (M.map (·.1))[k]? = some q := by rw [List.getElem?_map, hk]; rfl
        exact hj (nd_ix w.nd h1 h2)
      exact ⟨by rw [upd_ne ne]; exact a, b.keep e2 rfl⟩
  obtain ⟨v, hv2, rv⟩ := sl.get i _ hi
  have sl2 := (sl.mono e2).set i (d := eDN X.w kf vf al) (v := v) (by rw [of_adr rv]; unfold Rep; exact ⟨q, o, kvs, rfl, upd_same, drel_n1 rel, nk.mono e2, (drel_n2 rel).mono e2 _⟩)
  have : σ.set i (some v) = σ := by
    refine List.ext_getElem? fun j => ?_
    by_cases hj : i = j
    · subst hj
      rw [List.getElem?_set_self (List.getElem?_eq_some_iff.mp hv2).1, hv2]
    · rw [List.getElem?_set_ne hj]
  rw [this] at sl2
  exact h.go σ _ ⟨_, e.trans e2, sl2, w2⟩ pins s I2
/-- a new dict that is a value at once -/
theorem x_frzN (h : XN X e ρ M (mDN X.w kf vf al) M1) : XE X e ρ M (eDN X.w kf vf al) M1 := .mk fun G σ H Q sl w q pins s I => by
  refine wpAny_mono (h.run G σ H (fun v H' => ∃ p G', v = .ref p ∧ Ex G G' ∧ Wd X.K G' ((p, mDN X.w kf vf al) :: M1) H') sl w (fun p G' H' e' w' => ⟨p, G', rfl, e', w'⟩) pins s I) (fun v s1 ⟨x, H1, I1, rx, p, G', ex, e', w'⟩ => ?_) fun _ _ z => z
  subst ex
  have hk : ((p, mDN X.w kf vf al) :: M1)[0]? = some (p, mDN X.w kf vf al) := rfl
  obtain ⟨kvs, hv, nk, rel⟩ := mr_dn (w'.at hk).2
  obtain ⟨o, I2⟩ := I1.lock hv (by exact True.intro)
  have gq : G' p = none := (w'.at hk).1
  have e2 : Ex G' (upd G' p (.frz o (NDict X.w p kvs))) := Ex.new gq
  have ne : ∀ x ∈ M1, x.1 ≠ p := fun x hx e => by
    have := w'.nd
    rw [List.map_cons, List.nodup_cons] at this
    exact this.1 (List.mem_map.mpr ⟨x, hx, e⟩)
  have w2 : Wd X.K (upd G' p (.frz o (NDict X.w p kvs))) M1 (upd H1 p (.frz o (NDict X.w p kvs))) := by
    refine ⟨fun a u e => ?_, fun x hx => ?_, (List.nodup_cons.mp w'.nd).2⟩
    · by_cases hq : a = p
      · subst hq; rw [upd_same] at e ⊢; exact e
      · rw [upd_ne hq] at e ⊢; exact w'.ex a u e
    · obtain ⟨a, b⟩ := w'.own x (List.mem_cons_of_mem _ hx)
      exact ⟨by rw [upd_ne (ne x hx)]; exact a, b.keep e2 (upd_ne (ne x hx))⟩
  exact ⟨.ref p, _, I2, rx, q.use (e'.trans e2) w2 (by unfold Rep; exact ⟨p, o, kvs, rfl, upd_same, drel_n1 rel, nk.mono e2, (drel_n2 rel).mono e2 _⟩)⟩
end
/-! ### walks of a frozen dict -/
def ItkN (w : World) (d : Addr) (o : Obj) (kvs : NEnts) : It :=
  ⟨fun i H => H d = some (.frz o (NDict w d kvs)) ∧ i < kvs.length, fun i H x H' => H' = H ∧ ∃ p, kvs[i]? = some p ∧ x = .ref p.2.1, fun i H => H d = some (.frz o (NDict w d kvs)) ∧ kvs.length ≤ i⟩
def ItiN (w : World) (d : Addr) (o : Obj) (kvs : NEnts) : It :=
  ⟨fun i H => H d = some (.frz o (NDict w d kvs)) ∧ i < kvs.length, fun i H x H' => ∃ T p, kvs[i]? = some p ∧ x = .ref T ∧ H T = none ∧ H' = upd H T (.tup [.ref p.2.1, p.2.2]), fun i H => H d = some (.frz o (NDict w d kvs)) ∧ kvs.length ≤ i⟩
section
variable {P : Program} {w : World} {K : PySem.W.Frag} {tg : Expr} {d : Addr} {o : Obj} {es : Array DictEntry} {ep : Nat} {kvs : NEnts}
theorem turn_keysN (it : Addr) (hod : o.data = .dict es ep) : Turn P w K tg (ItkN w d o kvs) [it] it (fun i h => h.IsKeyIter it d i kvs.length ep) where
  mem := by simp
  obj := fun i h st b hb => by
    have e : b = it := by simpa using hb
    subst e
    obtain ⟨oi, e, c, dd⟩ := st
    exact ⟨oi, e, fun v z => by rw [dd] at z; cases z⟩
  keep := fun i h h' st k => st.at fun oi e => k it (by simp) oi e
  item := by
    intro X hP hw hK hc i pins s σ H E I hf st hg
    subst hP hw hK
    obtain ⟨hd, hi⟩ := hg
    obtain ⟨f0, f1, f2, f3, f4, f5⟩ := hf it (by simp)
    obtain ⟨hs, hgd, hx, es', ep', hdt, hsz, ent⟩ := nd_raw I hd
    obtain ⟨rfl, rfl⟩ := dict_ep hod hdt
    obtain ⟨x, hkv⟩ : ∃ p, kvs[i]? = some p := ⟨kvs[i], List.getElem?_eq_getElem hi⟩
    obtain ⟨en, hen, hkey, _⟩ := ent i x hkv
    refine next_key_item st hgd hdt hsz hen fun h' st' sb => ?_
    have I1 : Inv X pins σ H { s with heap := h' } := I.turned (t' := s.toks) (fun b ob hb e => (sb.2 b hb).trans e) f0 f1 f3 f4 f5
    obtain ⟨oi, e, c, dd⟩ := id st'
    exact ⟨en.key, rfl, go_of (s := { s with heap := h' }) e c dd (by decide) ⟨.ref x.2.1, H, I1, hkey, ⟨rfl, x, hkv, rfl⟩, st', fun b hb => (hf b hb).1⟩⟩
  done := by
    intro X hP hw hK hc i pins s σ H E I hf st hg
    subst hP hw hK
    obtain ⟨hd, hi⟩ := hg
    obtain ⟨f0, f1, f2, f3, f4, f5⟩ := hf it (by simp)
    obtain ⟨hs, hgd, hx, es', ep', hdt, hsz, ent⟩ := nd_raw I hd
    obtain ⟨rfl, rfl⟩ := dict_ep hod hdt
    exact next_key_end (I.ok.hd hc) st hgd hdt hsz hi fun h' eb => ⟨rfl, I.turned (t' := s.toks) (fun b ob hb e => eb b ob hb e) f0 f1 f3 f4 f5⟩
  self := fun A i s Q E st h => wpAny_pyIter_keyiter st h
theorem turn_itemsN {elts : List Expr} {kk : Nat} {tpos : Pos} (it : Addr) (hod : o.data = .dict es ep) :
    Turn P w K (.Tuple elts kk tpos) (ItiN w d o kvs) [it] it (fun i h => ∃ ok ov, IsItemIter h it d i kvs.length ep ok ov) where
  mem := by simp
  obj := fun i h st b hb => by
    have e : b = it := by simpa using hb
    subst e
    obtain ⟨ok, ov, e⟩ := st
    exact ⟨_, e, fun v z => nomatch z⟩
  keep := fun i h h' st k => let ⟨ok, ov, e⟩ := st; ⟨ok, ov, k it (by simp) _ e⟩
  item := by
    intro X hP hw hK hc i pins s σ H E I hf st hg
    subst hP hw hK
    obtain ⟨hd, hi⟩ := hg
    obtain ⟨hs, hgd, hx, es', ep', hdt, hsz, ent⟩ := nd_raw I hd
    obtain ⟨rfl, rfl⟩ := dict_ep hod hdt
    obtain ⟨x, hkv⟩ : ∃ p, kvs[i]? = some p := ⟨kvs[i], List.getElem?_eq_getElem hi⟩
    obtain ⟨en, hen, hkey, hval⟩ := ent i x hkv
    have hie : i < es'.size := by omega
    have hene : es'[i] = en := by
      have := Array.getElem?_eq_getElem hie
      rw [hen] at this; exact (Option.some.inj this).symm
    obtain ⟨ok, ov, he⟩ := st
    rw [← hsz] at he
    have hlt : it < s.heap.objs.size := Heap.lt_size he
    refine wpAny_pyNext_items_item_raw he ⟨o, hgd, hx, hdt⟩ hie fun h' ho hT hz hk => ?_
    refine ⟨_, rfl, wpAny_letOwnedTupleGo_items (s := { s with heap := h' }) ho fun h'' he' sb => ?_⟩
    have hT2 : h''.get? s.heap.objs.size = some { cls := .type "tuple", data := .seq #[es'[i].key, es'[i].val] } := (sb.2 _ (Nat.ne_of_gt hlt)).trans hT
    have new : ObjOk X.prog X.w (upd H s.heap.objs.size (.tup [.ref x.2.1, x.2.2])) h'' s.heap.objs.size (.tup [.ref x.2.1, x.2.2]) :=
      ⟨by show 2 ≤ sizeLine; decide, [es'[i].key, es'[i].val], .cons (by rw [hene]; exact hkey) (.cons (by rw [hene]; exact hval) .nil), ⟨_, hT2, rfl, _, rfl⟩⟩
    have I1 : Inv X pins σ (upd H s.heap.objs.size (.tup [.ref x.2.1, x.2.2])) { s with heap := h'' } :=
      I.turnedNew (t' := s.toks) (ch := [it]) (fun b ob hb e => (sb.2 b (by simpa using hb)).trans (hk b ob (by simpa using hb) e)) hf (Nat.le_refl _) new
    refine ⟨.ref s.heap.objs.size, _, I1, rfl, ⟨_, x, hkv, rfl, I.hok.fresh (Nat.le_refl _), rfl⟩, ⟨_, _, by rw [← hsz]; exact he'⟩, fun b hb => ?_⟩
    have e : b = it := by simpa using hb
    rw [e, upd_ne (Nat.ne_of_lt hlt)]
    exact (hf it (by simp)).1
  done := by
    intro X hP hw hK hc i pins s σ H E I hf st hg
    subst hP hw hK
    obtain ⟨hd, hi⟩ := hg
    obtain ⟨f0, f1, f2, f3, f4, f5⟩ := hf it (by simp)
    obtain ⟨hs, hgd, hx, es', ep', hdt, hsz, ent⟩ := nd_raw I hd
    obtain ⟨rfl, rfl⟩ := dict_ep hod hdt
    obtain ⟨ok, ov, he⟩ := st
    rw [← hsz] at he
    exact wpAny_pyNext_items_end_raw (I.ok.hd hc) he ⟨o, hgd, hx, hdt⟩ (by omega) fun h' eb => ⟨rfl, I.turned (t' := s.toks) (fun b ob hb e => eb b ob hb e) f0 f1 f3 f4 f5⟩
  self := fun A i s Q E st h => let ⟨_, _, e⟩ := st; PySem.W.kcp_self e h
end
section
variable {X : Cx} {tg e : Expr} {td : TE} {apos cpos : Pos}
theorem pi_keysN (he : PE X e td) : PI X tg e (fun σ H R => td σ H fun x H1 => ∃ d o kvs, x = .ref d ∧ H1 d = some (.frz o (NDict X.w d kvs)) ∧ R (ItkN X.w d o kvs) H1) := by
  refine ⟨fun pins s σ H R I h => ?_⟩
  refine thn (he.run pins s σ H _ I h) fun u s1 ⟨x, H1, I1, rx, d, o, kvs, ex, hd, q⟩ => ?_
  subst ex
  obtain rfl : u = Value.ref d := rx
  obtain ⟨hs, hgd, hx, es, ep, hdt, hsz, ent⟩ := nd_raw I1 hd
  refine iter_keys hs hgd hx hdt (pi_one (tk := s1.toks) I1 _ (turn_keysN _ hdt) ⟨_, Heap.get?_push_size _ rfl, rfl, ?_⟩ q)
  rw [hsz] <;> rfl
theorem pi_itemsN {elts : List Expr} {kk : Nat} {tpos : Pos} (he : PE X e td) (hbase : attributeBase e "items" X.env (eval e X.env) = eval e X.env := by exact base_of rfl) (hline : (apos.endLine == cpos.line) = true := by rfl) :
    PI X (.Tuple elts kk tpos) (.Call (.Attribute e "items" apos) [] [] cpos) (fun σ H R => td σ H fun x H1 => ∃ d o kvs, x = .ref d ∧ H1 d = some (.frz o (NDict X.w d kvs)) ∧ R (ItiN X.w d o kvs) H1) := by
  refine ⟨fun pins s σ H R I h => ?_⟩
  refine wpAny_Call_method (T := "dict") (id := "dict.items") hbase rfl hline F.plainAttrs_dict F.slot_dict_items F.type_dict_items (thn (he.run pins s σ H _ I h) fun u s1 ⟨x, H1, I1, rx, d, o, kvs, ex, hd, q⟩ => ?_)
  subst ex
  obtain rfl : u = Value.ref d := rx
  obtain ⟨hs, hgd, hx, es, ep, hdt, hsz, ent⟩ := nd_raw I1 hd
  obtain ⟨t1, t2⟩ := nd_type I1 (.inr ⟨o, hd⟩)
  refine ⟨t1, t2, ?_⟩
  have I2 : Inv X pins σ H1 { s1 with heap := s1.heap.push { cls := .type "dict_items", data := .fields #[.ref d] } } := I1.kept (t' := s1.toks) fun b ob q => Heap.get?_push_of_some _ q
  have fin : wpAny (model X.prog X.w) X.A (pyIter (.ref s1.heap.objs.size)) (PIE X pins σ (.Tuple elts kk tpos) R) X.xe { s1 with heap := s1.heap.push { cls := .type "dict_items", data := .fields #[.ref d] } } := by
    refine wpAny_pyIter_items_raw (d := d) ⟨_, Heap.get?_push_size _ rfl, rfl, rfl⟩ ⟨o, Heap.get?_push_of_some _ hgd, hx, hdt⟩ (pi_one (tk := s1.toks) I2 _ (turn_itemsN _ hdt) ⟨.none, .none, ?_⟩ q)
    rw [hsz]
    exact Heap.get?_push_size _ rfl
  show wpAny _ _ (callWith cpos (.builtin "dict.items") [.ref d] [] []) _ X.xe s1
  exact method_meetsIn F.slot_dict_items F.entry_dict_items rfl (PySem.evalArgs_none ⟨rfl, t1, F.args_dict_items_1 _, _, meets_dict_items_raw d hs, ⟨es, ep, o, hgd, hx, hdt⟩, fin⟩)
end
end Wk

/-! Wk: dicts whose keys are tuples: what is walked, list(d), list(d.values()). -/
namespace Wk
open PySem PySem.Spec PyProof.Rows L2 Evl
section
variable {X : Cx} {e a b tg iter : Expr} {elts : List Expr} {kk : Nat} {tpos : Pos} {ρ : Env} {M M1 M2 : Mem} {d : D} {pos p apos cpos : Pos} {q : Addr} {κ α : Type} [DecidableEq κ] {kf : κ → NestedKey} {ef : κ → D} {n : Nat} {vf : α → D} {al : List (κ × α)}
theorem nd_keyat {K : PySem.W.Frag} {G : Hp} (E : KC kf ef n) {kvs : NEnts} (h1 : kvs.map (·.1) = al.map fun p => kf p.1) (nk : NKeys G kvs) {i : Nat} {x : NestedKey × Addr × V} (hx : kvs[i]? = some x) : ∃ y, al[i]? = some y ∧ Rep K G (ef y.1) (.ref x.2.1) := by
  have := congrArg (·[i]?) h1
  simp only [List.getElem?_map, hx] at this
  cases hy : al[i]? with
  | none => rw [hy] at this; cases this
  | some y =>
    rw [hy] at this
    have e : x.1 = kf y.1 := Option.some.inj this
    refine ⟨y, rfl, ?_⟩
    rw [← E.d, rep_nk, ← e]
    exact (nk x (List.mem_of_getElem? hx)).1
/-- for k in d -/
theorem i_keysN (E : KC kf ef n) (h : XE X iter ρ M (eDN X.w kf vf al) M1) : XI X tg iter ρ M ((al.map (·.1)).map ef) M1 := .mk fun G σ H R sl w q =>
  SemI.of (pi_keysN pe_sem) (h.run G σ H _ sl w fun v G' H' e' w' r' => by
    obtain ⟨c, o, kvs, rfl, hv, h1, nk, h2⟩ := of_dN r'
    have hl : kvs.length = al.length := by have := congrArg List.length h1; rw [List.length_map, List.length_map] at this; exact this
    have hlen : ((al.map (·.1)).map ef).length = al.length := by rw [List.length_map, List.length_map]
    refine ⟨c, o, kvs, rfl, w'.ex _ _ hv, q _ G' H' e' w' ⟨fun i G2 M2 H2 e2 w2 hi => ⟨w2.ex _ _ (e2 _ _ hv), by omega⟩, fun i G2 M2 H2 x H3 e2 w2 y d hd => ?_, fun G2 M2 H2 e2 w2 => ⟨w2.ex _ _ (e2 _ _ hv), by omega⟩⟩⟩
    obtain ⟨rfl, p, hp, rfl⟩ := y
    obtain ⟨y, hy, ry⟩ := nd_keyat (K := X.K) E h1 nk hp
    rw [List.getElem?_map, List.getElem?_map, hy] at hd
    cases hd
    exact ⟨G2, Ex.refl G2, w2, ry.mono e2⟩)
/-- for k, v in d.items() -/
theorem i_itemsN (E : KC kf ef n) (h : XE X e ρ M (eDN X.w kf vf al) M1) (hbase : attributeBase e "items" X.env (eval e X.env) = eval e X.env := by exact base_of rfl) (hline : (apos.endLine == cpos.line) = true := by rfl) :
    XI X (.Tuple elts kk tpos) (.Call (.Attribute e "items" apos) [] [] cpos) ρ M (al.map (eK2 ef vf)) M1 := .mk fun G σ H R sl w q =>
  SemI.of (pi_itemsN pe_sem hbase hline) (h.run G σ H _ sl w fun v G' H' e' w' r' => by
    obtain ⟨c, o, kvs, rfl, hv, h1, nk, h2⟩ := of_dN r'
    have hl : kvs.length = al.length := by have := congrArg List.length h1; rw [List.length_map, List.length_map] at this; exact this
    have hlen : (al.map (eK2 ef vf)).length = al.length := by rw [List.length_map]
    refine ⟨c, o, kvs, rfl, w'.ex _ _ hv, q _ G' H' e' w' ⟨fun i G2 M2 H2 e2 w2 hi => ⟨w2.ex _ _ (e2 _ _ hv), by omega⟩, fun i G2 M2 H2 x H3 e2 w2 y d hd => ?_, fun G2 M2 H2 e2 w2 => ⟨w2.ex _ _ (e2 _ _ hv), by omega⟩⟩⟩
    obtain ⟨T, p, hp, rfl, hT, rfl⟩ := y
    obtain ⟨y, hy, ry⟩ := nd_keyat (K := X.K) E h1 nk hp
    rw [List.getElem?_map, hy] at hd
    cases hd
    obtain ⟨z, hz, rz⟩ := h2.get (i := i) (d := vf y.2) (by rw [List.getElem?_map, hy]; rfl)
    rw [List.getElem?_map, hp] at hz
    cases hz
    exact new_pair w2 hT (ry.mono e2) (rz.mono e2))
/-! ### list(d), list(d.values()) -/
theorem call_list_dN (hc : X.calm = true) : CallR X (.type "list") (fun xs H Q => ∃ c o kvs, xs = [V.ref c] ∧ H c = some (.frz o (NDict X.w c kvs)) ∧ ∀ l, H l = none → Q (.ref l) (upd H l (.lst (kvs.map fun p => V.ref p.2.1)))) := by
  intro pins s σ H xs us Q I r h
  obtain ⟨c, o, kvs, rfl, hd, q⟩ := h
  obtain ⟨u, rfl, rx⟩ := r.one
  cases rx
  obtain ⟨hs, hgd, hx, es, ep, hdt, hsz, ent⟩ := nd_raw I hd
  have hz : kvs.length ≤ sizeLine := ((I.hok c _ hd).2.1).1
  refine PySem.W.kdl_call (kdl_raw hs hx hdt) (I.ok.hd hc) hgd (by omega) fun h' tk acc' c' kp e it => ?_
  have ea : acc'.toList = kvs.map fun p => Value.ref p.2.1 := by
    have hl : acc'.toList.length = kvs.length := by rw [Array.length_toList, it.1]; exact hsz
    apply List.ext_getElem?
    intro j
    rw [List.getElem?_map]
    cases hj : acc'.toList[j]? with
    | none =>
      have h1 := List.getElem?_eq_none_iff.mp hj
      rw [List.getElem?_eq_none (by omega)]; rfl
    | some v =>
      obtain ⟨en, hen, hv⟩ := it.2 j v (by rw [← Array.getElem?_toList]; exact hj)
      have hjl : j < kvs.length := by rw [← hl]; exact (List.getElem?_eq_some_iff.mp hj).1
      obtain ⟨en', hen', hkey, _⟩ := ent j _ (List.getElem?_eq_getElem hjl)
      rw [hen] at hen'
      cases hen'
      rw [List.getElem?_eq_getElem hjl, hv, hkey]; rfl
  have rv : Vals (kvs.map fun p => V.ref p.2.1) acc'.toList := by
    rw [ea]
    have := vals_refs (kvs.map fun p => p.2.1)
    rw [List.map_map, List.map_map] at this
    exact this
  refine ⟨.ref s.heap.objs.size, _, I.laid (t' := tk) (o := .lst (kvs.map fun p => V.ref p.2.1)) kp (Nat.le_refl _) ?_, rfl, q _ (I.hok.fresh (Nat.le_refl _))⟩
  exact ⟨by rw [List.length_map]; exact hz, acc'.toList, c', rv, by rw [Array.toArray_toList]; exact e⟩
theorem n_listN (hc : X.calm = true) (E : KC kf ef n) (ha : XA X [a] ρ M [eDN X.w kf vf al] M1) (hm : X.mg "list" = none) (hg : Gl X "list" := by rfl) (he : starEach [a] X.env = (false, eval a X.env) :: starEach [] X.env := by exact star_of rfl) :
    XN X (.Call (.Name "list" p) [a] [] pos) ρ M (.lst ((al.map (·.1)).map ef)) M1 := XN.callTy (call_list_dN hc) boot_list ha (fun G H vs Q w rs q => by
  obtain ⟨v, rfl, r⟩ := rs.one
  obtain ⟨c, o, kvs, rfl, hv, h1, nk, h2⟩ := of_dN r
  refine ⟨c, o, kvs, rfl, w.ex _ _ hv, fun l hl => q l G _ (Ex.refl G) (w.newO hl ⟨_, upd_same, ?_⟩)⟩
  have key : ∀ {al : List (κ × α)} {kvs : NEnts}, (kvs.map (·.1) = al.map fun p => kf p.1) → NKeys G kvs → RepL X.K G ((al.map (·.1)).map ef) (kvs.map fun p => V.ref p.2.1) := by
    intro al
    induction al with
    | nil => intro kvs e _; cases kvs with
      | nil => exact RepL.nil
      | cons x y => cases e
    | cons y al ih => intro kvs e nk; cases kvs with
      | nil => cases e
      | cons x kvs =>
        rw [List.map_cons, List.map_cons, List.cons.injEq] at e
        refine RepL.cons ?_ (ih e.2 fun z hz => nk z (List.mem_cons_of_mem _ hz))
        rw [← E.d, rep_nk, ← e.1]
        exact (nk x List.mem_cons_self).1
  exact key h1 nk) hm hg (by decide) (by decide) he (by rfl)
theorem pe_valuesN {td : TE} (he : PE X e td) (hbase : attributeBase e "values" X.env (eval e X.env) = eval e X.env := by exact base_of rfl) (hline : (apos.endLine == cpos.line) = true := by rfl) :
    PE X (.Call (.Attribute e "values" apos) [] [] cpos) (fun σ H Q => td σ H fun x H1 => ∃ d kvs, x = .ref d ∧ NAt X.w H1 d kvs ∧ ∀ p, H1 p = none → Q (.ref p) (upd H1 p (valsO p d))) := by
  refine ⟨fun pins s σ H Q I h => ?_⟩
  refine wpAny_Call_method (T := "dict") (id := "dict.values") hbase rfl hline F.plainAttrs_dict F.slot_dict_values F.type_dict_values (thn (he.run pins s σ H _ I h) fun u s1 ⟨x, H1, I1, rx, d, kvs, ex, hd, q⟩ => ?_)
  subst ex
  obtain rfl : u = Value.ref d := rx
  obtain ⟨t1, t2⟩ := nd_type I1 hd
  refine ⟨t1, t2, ?_⟩
  obtain ⟨z, hs, xs', rel, o, es, ep, ho, hx, hdat, _⟩ := hd.ok I1
  have hf : H1 s1.heap.objs.size = none := I1.hok.fresh (Nat.le_refl _)
  show wpAny _ _ (callWith cpos (.builtin "dict.values") [.ref d] [] []) _ X.xe s1
  refine method_meetsIn F.slot_dict_values F.entry_dict_values rfl (PySem.evalArgs_none ⟨rfl, t1, F.args_dict_values_1 _, _, meets_dict_values_raw d hs, ⟨es, ep, o, ho, hx, hdat⟩, ?_⟩)
  exact ⟨.ref s1.heap.objs.size, upd H1 s1.heap.objs.size (valsO s1.heap.objs.size d), I1.laid (t' := s1.toks) (fun b u e => Heap.get?_push_of_some _ e) (Nat.le_refl _) (valsO_ok (Heap.get?_push_size _ rfl)), rfl, q _ hf⟩
theorem call_list_valsN (hc : X.calm = true) : CallR X (.type "list") (fun xs H Q => ∃ p a kvs, xs = [V.ref p] ∧ H p = some (valsO p a) ∧ NAt X.w H a kvs ∧ ∀ l, H l = none → Q (.ref l) (upd H l (.lst (kvs.map (·.2.2))))) := by
  intro pins s σ H xs us Q I r h
  obtain ⟨p, d, kvs, rfl, hp, hd, q⟩ := h
  obtain ⟨u, rfl, rx⟩ := r.one
  cases rx
  obtain ⟨hv, ⟨ov, hov⟩, _⟩ := (show ObjOk X.prog X.w H s.heap p (valsO p d) from I.hok p _ hp)
  obtain ⟨z, hs, ks, pr, o, es, ep, ho, hx, hdt, he, hn⟩ := hd.ok I
  have l1 : es.size = ks.length := by rw [← Array.length_toList, he, List.length_map]
  have l2 : kvs.length = ks.length := Paired.length pr
  refine PySem.W.kdl_call (PySem.KdlSrc.rawValues (es := es) (ep := ep)) (I.ok.hd hc) ⟨hv, o, ho, hx, hdt⟩ (by omega) fun h' tk acc' c' kp e it => ?_
  have ea : acc'.toList = ks.map fun x => x.2.2 := by
    have hl : acc'.toList.length = ks.length := by rw [Array.length_toList, it.1]; exact l1
    apply List.ext_getElem?
    intro j
    rw [List.getElem?_map]
    cases hj : acc'.toList[j]? with
    | none =>
      have h1 := List.getElem?_eq_none_iff.mp hj
      rw [List.getElem?_eq_none (by omega)]; rfl
    | some v =>
      obtain ⟨hi, hv⟩ := it.2 j v (by rw [← Array.getElem?_toList]; exact hj)
      have hjl : j < ks.length := by omega
      have hen : es.toList[j]? = some es[j] := by rw [Array.getElem?_toList]; exact Array.getElem?_eq_getElem hi
      rw [he, List.getElem?_map, List.getElem?_eq_getElem hjl] at hen
      have e2 : nEnt X.w ks[j] = es[j] := Option.some.inj hen
      rw [List.getElem?_eq_getElem hjl, hv, ← e2]; rfl
  have rv : ∀ {kvs : NEnts} {ks : List (NestedKey × Addr × Value)}, Paired NPair kvs ks → Vals (kvs.map (·.2.2)) (ks.map fun x => x.2.2) := by
    intro kvs ks pr
    induction pr with
    | nil => exact .nil
    | cons h t ih => exact .cons h.2.2 ih
  refine ⟨.ref s.heap.objs.size, _, I.laid (t' := tk) (o := .lst (kvs.map (·.2.2))) kp (Nat.le_refl _) ?_, rfl, q _ (I.hok.fresh (Nat.le_refl _))⟩
  exact ⟨by rw [List.length_map]; exact z, acc'.toList, c', by rw [ea]; exact rv pr, by rw [Array.toArray_toList]; exact e⟩
/-- list(d.values()) -/
theorem n_listValsN {p2 : Pos} (hc : X.calm = true) (ho : XE X a ρ M d M1) (hq : DctN X.w kf vf M1 d al) (hm : X.mg "list" = none) (hg : Gl X "list" := by rfl)
    (hbase : attributeBase a "values" X.env (eval a X.env) = eval a X.env := by exact base_of rfl) (hline : (apos.endLine == p2.line) = true := by rfl)
    (he : starEach [.Call (.Attribute a "values" apos) [] [] p2] X.env = (false, eval (.Call (.Attribute a "values" apos) [] [] p2) X.env) :: starEach [] X.env := by exact star_of rfl) :
    XN X (.Call (.Name "list" p) [.Call (.Attribute a "values" apos) [] [] p2] [] pos) ρ M (.lst ((al.map (·.2)).map vf)) M1 := .mk fun G σ H Q sl w q0 =>
  Sem.of (pe_callTy (call_list_valsN hc) hg hm boot_list (pa_cons (pe_valuesN pe_sem hbase hline) pa_nil he) (by decide) (by decide) he (by rfl))
    (ho.run G σ H _ sl w fun v G1 H1 e1 w1 r1 => by
      obtain ⟨c, kvs, rfl, hv, nk, rel⟩ := hq.get w1 r1
      refine ⟨c, kvs, rfl, hv, fun pv hpv => ?_⟩
      have ne : c ≠ pv := fun e => by subst e; rcases hv with hv | ⟨o, hv⟩ <;> (rw [hpv] at hv; cases hv)
      have w2 := w1.newF hpv (valsO pv c)
      have e2 := w1.exF hpv (valsO pv c)
      have hv2 : NAt X.w (upd H1 pv (valsO pv c)) c kvs := by
        rcases hv with hv | ⟨o, hv⟩
        · exact .inl (by rw [upd_ne ne]; exact hv)
        · exact .inr ⟨o, by rw [upd_ne ne]; exact hv⟩
      refine ⟨pv, c, kvs, rfl, upd_same, hv2, fun l hl => ?_⟩
      refine q0 l _ _ (e1.trans e2) (w2.newO hl ⟨_, upd_same, ?_⟩)
      have := (drel_n2 rel).mono e2
      rw [List.map_map]
      exact this)
end
end Wk

/-! Wk: while loops that may hand back. -/
namespace Wk
open PySem PySem.Spec PyProof.Rows L2 Evl
section
variable {S R : Type}
def wrC (c : S → Option Bool) : Fl S R → Option Bool
  | .nx s => c s
  | .rt _ => some false
def wrF (f : S → Option (Fl S R)) : Fl S R → Option (Fl S R)
  | .nx s => f s
  | .rt r => some (.rt r)
/-- while, to its end or to a return -/
noncomputable def whileR (c : S → Option Bool) (f : S → Option (Fl S R)) (s : S) : Option (Fl S R) := whileO (wrC c) (wrF f) (.nx s)
theorem whileR_rt {c : S → Option Bool} {f : S → Option (Fl S R)} {r : R} {n : Nat} {y : Fl S R} (h : whileN (wrC c) (wrF f) n (.rt r) = some y) : y = .rt r := by
  cases n with
  | zero => cases h
  | succ n => exact (Option.some.inj (show some (Fl.rt r) = some y from h)).symm
theorem whileR_ok {c : S → Option Bool} {f : S → Option (Fl S R)} {I : S → Prop} {P : R → Prop} (mu : S → Nat) (k : ∀ s, I s → Ok (c s) (fun b => b = true → Ok (f s) (fun y => match y with | .nx s' => I s' ∧ mu s' < mu s | .rt r => P r))) {s : S} (hi : I s) :
    Ok (whileR c f s) (fun y => match y with | .nx s' => I s' ∧ c s' = some false | .rt r => P r) := by
  refine (whileO_ok (c := wrC c) (f := wrF f) (I := fun y : Fl S R => match y with | .nx s => I s | .rt r => P r) (fun y : Fl S R => match y with | .nx s => mu s + 1 | .rt _ => 0) (fun y hy => ?_) (s := .nx s) hi).imp fun y hy => ?_
  · cases y with
    | nx s =>
      obtain ⟨b, hb, hk⟩ := k s hy
      refine ⟨b, hb, fun e => ?_⟩
      obtain ⟨z, hz, hq⟩ := hk e
      refine ⟨z, hz, ?_⟩
      cases z with
      | nx s' => exact ⟨hq.1, by show mu s' + 1 < mu s + 1; have := hq.2; omega⟩
      | rt r => exact ⟨hq, Nat.succ_pos _⟩
    | rt r => exact ⟨false, rfl, fun e => by cases e⟩
  · cases y with
    | nx s => exact hy
    | rt r => exact hy.1
variable {X : Cx} {rest body : List Stmt} {c : Expr} {pos : Pos} {Z : Ends} {G0 : Hp} {s0 : S}
theorem st_whileR {cf : S → Option Bool} {f : S → Option (Fl S R)} {y : Fl S R} (hp : PassesOwn (model X.prog X.w) X.A X.env X.xe) (ρe : S → Env) (Me : S → Mem) (hf : whileR cf f s0 = some y)
    (turn : ∀ s b, cf s = some b → ∃ M2, XT X c (ρe s) (Me s) b M2 ∧ (b = false → M2 = Me s) ∧ (b = true → ∀ z, f s = some z → (∀ r, z = .rt r → y = .rt r) → St X body { Z with nx := fun σ H => ∃ s', z = .nx s' ∧ At X.K G0 (ρe s') (Me s') σ H, ct := fun σ H => ∃ s', z = .nx s' ∧ At X.K G0 (ρe s') (Me s') σ H, bk := fun _ _ => False } G0 (ρe s) M2))
    (done : ∀ s1, y = .nx s1 → St X rest Z G0 (ρe s1) (Me s1)) : St X (.While c body [] pos :: rest) Z G0 (ρe s0) (Me s0) := by
  obtain ⟨n0, hn0⟩ := whileO_iff.mp hf
  refine st_while hp (fun n ρ' M' => ∃ s, whileN (wrC cf) (wrF f) n (.nx s) = some y ∧ ρ' = ρe s ∧ M' = Me s) n0 ⟨s0, hn0, rfl, rfl⟩ (fun n ρ' M' hI => ?_)
  obtain ⟨s, hs, rfl, rfl⟩ := hI
  cases n with
  | zero => cases hs
  | succ n =>
    have h' : ((cf s).bind fun b => if b = true then (f s).bind fun z => whileN (wrC cf) (wrF f) n z else some (.nx s)) = some y := hs
    obtain ⟨b, h1, h2⟩ := Option.bind_eq_some_iff.mp h'
    obtain ⟨M2, ht, hM, hb⟩ := turn s b h1
    refine ⟨b, M2, ht, fun e => ?_, fun e => ?_⟩
    · rw [if_pos e] at h2
      obtain ⟨z, h3, h4⟩ := Option.bind_eq_some_iff.mp h2
      refine .mk fun σ H a pins sh I => ?_
      refine wpAny_mono ((hb e z h3 (fun r hr => by subst hr; exact whileR_rt h4)).go σ H a pins sh I) (fun fl sh' h => ?_) fun _ _ h => h
      have key : ∀ σ H, (∃ s', z = .nx s' ∧ At X.K G0 (ρe s') (Me s') σ H) → Nxt X.K G0 (fun ρ M => ∃ m, m < n + 1 ∧ ∃ s, whileN (wrC cf) (wrF f) m (.nx s) = some y ∧ ρ = ρe s ∧ M = Me s) σ H := fun σ H ⟨s', ez, a⟩ => ⟨_, _, ⟨n, Nat.lt_succ_self n, s', by rw [← ez]; exact h4, rfl, rfl⟩, a⟩
      cases fl with
      | next => obtain ⟨σ', H', I', n⟩ := h; exact ⟨σ', H', I', key _ _ n⟩
      | cont => obtain ⟨σ', H', I', n⟩ := h; exact ⟨σ', H', I', key _ _ n⟩
      | brk => obtain ⟨σ', H', I', n⟩ := h; exact n.elim
      | ret v => exact h
    · rw [if_neg (by rw [e]; exact Bool.false_ne_true)] at h2
      have := hM e; subst this
      exact done s (Option.some.inj h2).symm
end
end Wk
namespace Wk
open PySem PySem.Spec PyProof.Rows L2 Evl
section
variable {X : Cx} {a : Expr} {ρ : Env} {M M1 : Mem} {q : Addr} {α : Type} {f : α → D} {xs : List α} {pos apos : Pos}
theorem x_popLO (k : Nat) {y : α × List α} (ho : XE X a ρ M (.adr q) M1) (hk : M1[k]? = some (q, .lst (xs.map f))) (hd : ppopL xs = some y) (hbase : attributeBase a "pop" X.env (eval a X.env) = eval a X.env := by exact base_of rfl) (hline : (apos.endLine == pos.line) = true := by rfl) :
    XE X (.Call (.Attribute a "pop" apos) [] [] pos) ρ M (f y.1) (M1.set k (q, .lst (y.2.map f))) := by
  obtain ⟨h1, h2⟩ := ppopL_some hd
  have := x_pop (d := f y.1) k ho hk (by rw [List.length_map, List.getElem?_map, h1]; rfl) hbase hline
  rw [← h2, List.map_dropLast]
  exact this
end
end Wk

/-! Wk: equality of data of known kinds: it is told, and holds just where the things are the same. -/
namespace Wk
open PySem L2

abbrev strOk (s : Str) : Bool := PyData.strOk s
structure EqF {α : Type} (f : α → D) (P : α → Prop) (n : Nat) : Prop where
  ok : ∀ x, P x → (f x).ok = true
  lay : ∀ x, P x → (f x).py.canLay0 = true
  dep : ∀ x, P x → (f x).py.depth ≤ n
  eqv : ∀ x y, P x → P y → (PyData.eqv (f x).py (f y).py = true ↔ x = y)
section
variable {α β γ : Type} {f : α → D} {g : β → D} {h : γ → D} {P : α → Prop} {Q : β → Prop} {R : γ → Prop} {n m k : Nat}
theorem EqF.peq [DecidableEq α] (E : EqF f P n) {x y : α} (px : P x) (py : P y) (hn : n ≤ 64 := by decide) : peq (f x) (f y) = some (decide (x = y)) := by
  have s : ∀ z, P z → SeqAt.shaped (f z).py = true := fun z pz => by
    unfold SeqAt.shaped
    rw [E.lay z pz, decide_eq_true (by have := E.dep z pz; omega : (f z).py.depth ≤ 64)]; rfl
  unfold Wk.peq
  rw [if_pos ⟨E.ok x px, s x px, E.ok y py, s y py⟩]
  show some (PyData.eqv (f x).py (f y).py) = _
  congr 1
  by_cases e : x = y
  · rw [decide_eq_true e, (E.eqv x y px py).mpr e]
  · rw [decide_eq_false e]
    cases q : PyData.eqv (f x).py (f y).py with
    | false => rfl
    | true => exact absurd ((E.eqv x y px py).mp q) e
theorem EqF.peq_true [DecidableEq α] (E : EqF f P n) {x y : α} (px : P x) (e : x = y) (hn : n ≤ 64 := by decide) : Wk.peq (f x) (f y) = some true := by
  subst e
  rw [E.peq px px hn, decide_eq_true rfl]
theorem EqF.mono (E : EqF f P n) {P' : α → Prop} (k : ∀ x, P' x → P x) : EqF f P' n := ⟨fun x p => E.ok x (k x p), fun x p => E.lay x (k x p), fun x p => E.dep x (k x p), fun x y p q => E.eqv x y (k x p) (k y q)⟩
theorem EqF.up (E : EqF f P n) (h : n ≤ m) : EqF f P m := ⟨E.ok, E.lay, fun x p => Nat.le_trans (E.dep x p) h, E.eqv⟩
theorem eqf_int : EqF D.int (fun _ => True) 0 where
  ok := fun _ _ => rfl
  lay := fun _ _ => rfl
  dep := fun _ _ => Nat.le_refl _
  eqv := fun x y _ _ => by
    show (PyData.eqv (.int x) (.int y) = true) ↔ _
    simp only [PyData.eqv, beq_iff_eq]
theorem eqf_bl : EqF D.bl (fun _ => True) 0 where
  ok := fun _ _ => rfl
  lay := fun _ _ => rfl
  dep := fun _ _ => Nat.le_refl _
  eqv := fun x y _ _ => by
    show (PyData.eqv (.bool x) (.bool y) = true) ↔ _
    simp only [PyData.eqv, beq_iff_eq]
theorem eqf_str : EqF D.str (fun s => strOk s = true) 0 where
  ok := fun _ _ => rfl
  lay := fun x p => p
  dep := fun _ _ => Nat.le_refl _
  eqv := fun x y _ _ => by
    show (PyData.eqv (.str x) (.str y) = true) ↔ _
    simp only [PyData.eqv, beq_iff_eq]
theorem eqf_lsts (E : EqF f P n) : ∀ xs : List α, (∀ x ∈ xs, P x) → D.oks (xs.map f) = true ∧ PyData.canLayAll0 (D.pys (xs.map f)) = true ∧ PyData.depthAll (D.pys (xs.map f)) ≤ n
  | [], _ => ⟨rfl, rfl, Nat.zero_le _⟩
  | x :: xs, h => by
    obtain ⟨a, b, c⟩ := eqf_lsts E xs fun y hy => h y (List.mem_cons_of_mem _ hy)
    have p := h x List.mem_cons_self
    refine ⟨?_, ?_, ?_⟩
    · rw [List.map_cons]; unfold D.oks; rw [E.ok x p, a]; rfl
    · rw [List.map_cons]; unfold D.pys PyData.canLayAll0; rw [E.lay x p, b]; rfl
    · rw [List.map_cons]; unfold D.pys PyData.depthAll; exact Nat.max_le.mpr ⟨E.dep x p, c⟩
theorem eqf_eqvs (E : EqF f P n) : ∀ xs ys : List α, (∀ x ∈ xs, P x) → (∀ x ∈ ys, P x) → (PyData.eqvAll (D.pys (xs.map f)) (D.pys (ys.map f)) = true ↔ xs = ys)
  | [], [], _, _ => by simp [D.pys, PyData.eqvAll]
  | [], y :: ys, _, _ => by simp [D.pys, PyData.eqvAll]
  | x :: xs, [], _, _ => by simp [D.pys, PyData.eqvAll]
  | x :: xs, y :: ys, h, h' => by
    have a := E.eqv x y (h x List.mem_cons_self) (h' y List.mem_cons_self)
    have b := eqf_eqvs E xs ys (fun y hy => h y (List.mem_cons_of_mem _ hy)) (fun y hy => h' y (List.mem_cons_of_mem _ hy))
    rw [List.map_cons, List.map_cons]
    unfold D.pys PyData.eqvAll
    rw [Bool.and_eq_true, a, b, List.cons.injEq]
theorem eqf_tup (E : EqF f P n) : EqF (eTs f) (fun xs => ∀ x ∈ xs, P x) (n + 1) where
  ok := fun xs h => (eqf_lsts E xs h).1
  lay := fun xs h => (eqf_lsts E xs h).2.1
  dep := fun xs h => Nat.succ_le_succ (eqf_lsts E xs h).2.2
  eqv := fun xs ys h h' => by
    show (PyData.eqv (.tuple _) (.tuple _) = true) ↔ _
    simp only [PyData.eqv]
    exact eqf_eqvs E xs ys h h'
theorem eqf_lst (E : EqF f P n) : EqF (eLs f) (fun xs => ∀ x ∈ xs, P x) (n + 1) where
  ok := fun xs h => (eqf_lsts E xs h).1
  lay := fun xs h => (eqf_lsts E xs h).2.1
  dep := fun xs h => Nat.succ_le_succ (eqf_lsts E xs h).2.2
  eqv := fun xs ys h h' => by
    show (PyData.eqv (.list _) (.list _) = true) ↔ _
    simp only [PyData.eqv]
    exact eqf_eqvs E xs ys h h'
/-- of one or two or three parts -/
theorem d_oks2 (a b : D) : D.oks [a, b] = (a.ok && b.ok) := by simp [D.oks]
theorem d_oks3 (a b c : D) : D.oks [a, b, c] = (a.ok && (b.ok && c.ok)) := by simp [D.oks]
theorem eqf_p2 (E : EqF f P n) (F : EqF g Q m) : EqF (eP2 f g) (fun x => P x.1 ∧ Q x.2) (max n m + 1) where
  ok := fun x h => by
    show D.oks [f x.1, g x.2] = true
    rw [d_oks2, E.ok _ h.1, F.ok _ h.2]; rfl
  lay := fun x h => by
    show PyData.canLayAll0 [(f x.1).py, (g x.2).py] = true
    simp only [PyData.canLayAll0, E.lay _ h.1, F.lay _ h.2]; rfl
  dep := fun x h => by
    show PyData.depthAll [(f x.1).py, (g x.2).py] + 1 ≤ _
    have a := E.dep _ h.1
    have b := F.dep _ h.2
    simp only [PyData.depthAll]
    omega
  eqv := fun x y h h' => by
    show PyData.eqvAll [(f x.1).py, (g x.2).py] [(f y.1).py, (g y.2).py] = true ↔ _
    have a := E.eqv _ _ h.1 h'.1
    have b := F.eqv _ _ h.2 h'.2
    simp only [PyData.eqvAll, Bool.and_eq_true, a, b, and_true]
    exact ⟨fun q => Prod.ext q.1 q.2, fun q => by rw [q]; exact ⟨rfl, rfl⟩⟩
theorem eqf_p3 (E : EqF f P n) (F : EqF g Q m) (G : EqF h R k) : EqF (eP3 f g h) (fun x => P x.1 ∧ Q x.2.1 ∧ R x.2.2) (max n (max m k) + 1) where
  ok := fun x q => by
    show D.oks [f x.1, g x.2.1, h x.2.2] = true
    rw [d_oks3, E.ok _ q.1, F.ok _ q.2.1, G.ok _ q.2.2]; rfl
  lay := fun x q => by
    show PyData.canLayAll0 [(f x.1).py, (g x.2.1).py, (h x.2.2).py] = true
    simp only [PyData.canLayAll0, E.lay _ q.1, F.lay _ q.2.1, G.lay _ q.2.2]; rfl
  dep := fun x q => by
    show PyData.depthAll [(f x.1).py, (g x.2.1).py, (h x.2.2).py] + 1 ≤ _
    have a := E.dep _ q.1
    have b := F.dep _ q.2.1
    have c := G.dep _ q.2.2
    simp only [PyData.depthAll]
    omega
  eqv := fun x y q q' => by
    show PyData.eqvAll [(f x.1).py, (g x.2.1).py, (h x.2.2).py] [(f y.1).py, (g y.2.1).py, (h y.2.2).py] = true ↔ _
    have a := E.eqv _ _ q.1 q'.1
    have b := F.eqv _ _ q.2.1 q'.2.1
    have c := G.eqv _ _ q.2.2 q'.2.2
    simp only [PyData.eqvAll, Bool.and_eq_true, a, b, c, and_true]
    exact ⟨fun q => Prod.ext q.1 (Prod.ext q.2.1 q.2.2), fun q => by rw [q]; exact ⟨rfl, rfl, rfl⟩⟩
theorem eqv_none {d : PyData} (h : PyData.eqv .none d = true) : d = .none := by
  cases d <;> first | rfl | (simp [PyData.eqv] at h)
theorem eqv_none' {d : PyData} (h : PyData.eqv d .none = true) : d = .none := by
  cases d <;> first | rfl | (simp [PyData.eqv] at h)
theorem eqf_opt (E : EqF f P n) (nn : ∀ x, (f x).py ≠ .none) : EqF (eO f) (fun o => ∀ x, o = some x → P x) n where
  ok := fun o h => by cases o with
    | none => rfl
    | some x => exact E.ok x (h x rfl)
  lay := fun o h => by cases o with
    | none => rfl
    | some x => exact E.lay x (h x rfl)
  dep := fun o h => by cases o with
    | none => exact Nat.zero_le _
    | some x => exact E.dep x (h x rfl)
  eqv := fun o p h h' => by
    cases o with
    | none => cases p with
      | none => exact ⟨fun _ => rfl, fun _ => rfl⟩
      | some y => exact ⟨fun q => absurd (eqv_none q) (nn y), fun q => by cases q⟩
    | some x => cases p with
      | none => exact ⟨fun q => absurd (eqv_none' q) (nn x), fun q => by cases q⟩
      | some y => exact ⟨fun q => by rw [(E.eqv x y (h x rfl) (h' y rfl)).mp q], fun q => (E.eqv x y (h x rfl) (h' y rfl)).mpr (Option.some.inj q)⟩
end
theorem strOk_of {s : Str} (h : ∀ c ∈ s.cps.toList, c < 128) : strOk s = true := by
  show PyData.strOk s = true
  unfold PyData.strOk
  rw [Array.all_eq_true']
  intro c hc
  have := h c (Array.mem_toList_iff.mpr hc)
  simp only [decide_eq_true_eq]
  omega
end Wk

/-! Wk: more expressions. -/
namespace Wk
open PySem PySem.Spec PyProof.Rows L2 Evl
section
variable {X : Cx} {a b : Expr} {ρ : Env} {M M1 M2 : Mem} {d d1 d2 : D} {pos p : Pos} {i j : Bool}
theorem op_isBl : OpR X (compareOp .Is) (fun x y H Q => ∃ a b, x = .bl a ∧ y = .bl b ∧ Q (.bl (decide (a = b))) H) := by
  intro pins s σ H x y v u Q I rx ry h
  obtain ⟨a, b, rfl, rfl, q⟩ := h
  cases rx
  cases ry
  refine wpAny_pure ⟨.bl (decide (a = b)), H, I, ?_, q⟩
  cases a <;> cases b <;> rfl
theorem c_isB (ha : XE X a ρ M (.bl i) M1) (hb : XE X b ρ M1 (.bl j) M2) : XC X .Is a b ρ M (.bl (decide (i = j))) M2 := XC.bin op_isBl ha hb fun _ _ _ _ _ w r1 r2 q => ⟨i, j, of_bl r1, of_bl r2, q.use (Ex.refl _) w rep_bl⟩
/-! in, by == -/
/-- d in ds, by what they are -/
def pmem (d : D) (ds : List D) : Option Bool := if d.ok = true ∧ SeqAt.shaped d.py = true ∧ D.oks ds = true ∧ SeqAt.shaped (.list (D.pys ds)) = true then some (ds.any fun e => e.eqv d) else none
theorem pys_any (d : D) : ∀ ds : List D, ((D.pys ds).any fun z => PyData.eqv z d.py) = ds.any fun e => e.eqv d
  | [] => rfl
  | e :: ds => by
    unfold D.pys
    rw [List.any_cons, List.any_cons, pys_any d ds]; rfl
theorem pmem_some {d : D} {ds : List D} {k : Bool} (h : pmem d ds = some k) : d.ok = true ∧ SeqAt.shaped d.py = true ∧ D.oks ds = true ∧ SeqAt.shaped (.list (D.pys ds)) = true ∧ ((D.pys ds).any fun z => PyData.eqv z d.py) = k := by
  unfold pmem at h; split at h
  · rename_i hc; cases h; exact ⟨hc.1, hc.2.1, hc.2.2.1, hc.2.2.2, pys_any d ds⟩
  · cases h
theorem dp_lst {K : PySem.W.Frag} {G H : Hp} {ds : List D} {x : V} (e : Ex G H) (k : D.oks ds = true) (r : Rep K G (.lst ds) x) : Dp K H x (.list (D.pys ds)) := by
  have := rep_dp e (.lst ds) x (by unfold D.ok; exact k) r
  unfold D.py at this
  exact this
theorem c_inD (hu : X.A.units + 65 < cLine) {ds : List D} {k : Bool} (ha : XE X a ρ M d M1) (hb : XE X b ρ M1 (.lst ds) M2) (h : pmem d ds = some k) : XC X .In a b ρ M (.bl k) M2 := XC.bin (op_inD hu) ha hb fun G H x y Q w r1 r2 q => by
  obtain ⟨h1, h2, h3, h4, h5⟩ := pmem_some h
  refine ⟨d.py, D.pys ds, rep_dp w.ex d x h1 r1, dp_lst w.ex h3 r2, h2, h4, ?_⟩
  rw [h5]; exact q.use (Ex.refl _) w rep_bl
theorem c_notInD (hu : X.A.units + 65 < cLine) {ds : List D} {k : Bool} (ha : XE X a ρ M d M1) (hb : XE X b ρ M1 (.lst ds) M2) (h : pmem d ds = some k) : XC X .NotIn a b ρ M (.bl (!k)) M2 := XC.bin (op_notInD hu) ha hb fun G H x y Q w r1 r2 q => by
  obtain ⟨h1, h2, h3, h4, h5⟩ := pmem_some h
  refine ⟨d.py, D.pys ds, rep_dp w.ex d x h1 r1, dp_lst w.ex h3 r2, h2, h4, ?_⟩
  rw [h5]; exact q.use (Ex.refl _) w rep_bl
end
section
variable {α : Type} {f : α → D} {P : α → Prop} {n : Nat}
theorem EqF.mem [DecidableEq α] (E : EqF f P n) {x : α} {xs : List α} (px : P x) (ps : ∀ y ∈ xs, P y) (hn : n < 64 := by decide) : pmem (f x) (xs.map f) = some (decide (x ∈ xs)) := by
  obtain ⟨h1, h2, h3⟩ := eqf_lsts E xs ps
  unfold pmem
  rw [if_pos]
  · congr 1
    induction xs with
    | nil => rfl
    | cons y xs ih =>
      rw [List.map_cons, List.any_cons, ih (fun z hz => ps z (List.mem_cons_of_mem _ hz)) (eqf_lsts E xs fun z hz => ps z (List.mem_cons_of_mem _ hz)).1 (eqf_lsts E xs fun z hz => ps z (List.mem_cons_of_mem _ hz)).2.1 (eqf_lsts E xs fun z hz => ps z (List.mem_cons_of_mem _ hz)).2.2]
      have e := E.eqv y x (ps y List.mem_cons_self) px
      show (PyData.eqv (f y).py (f x).py || _) = _
      by_cases q : y = x
      · rw [e.mpr q, Bool.true_or, decide_eq_true (List.mem_cons.mpr (.inl q.symm))]
      · have : PyData.eqv (f y).py (f x).py = false := by
          cases z : PyData.eqv (f y).py (f x).py with
          | false => rfl
          | true => exact absurd (e.mp z) q
        rw [this, Bool.false_or]
        by_cases m : x ∈ xs
        · rw [decide_eq_true m, decide_eq_true (List.mem_cons_of_mem _ m)]
        · rw [decide_eq_false m, decide_eq_false (fun h => (List.mem_cons.mp h).elim (fun z => q z.symm) m)]
  · refine ⟨E.ok x px, ?_, h1, ?_⟩
    · unfold SeqAt.shaped
      rw [E.lay x px, decide_eq_true (by have := E.dep x px; omega : (f x).py.depth ≤ 64)]; rfl
    · unfold SeqAt.shaped
      have : (PyData.list (D.pys (xs.map f))).depth ≤ 64 := by
        show PyData.depthAll (D.pys (xs.map f)) + 1 ≤ 64
        omega
      rw [decide_eq_true this, show (PyData.list (D.pys (xs.map f))).canLay0 = PyData.canLayAll0 (D.pys (xs.map f)) from rfl, h2]; rfl
end
theorem Wd.dropDk {K : PySem.W.Frag} {G H : Hp} {a c : Addr} {k : Deck} {M : Mem} (w : Wd K G (Deck.mem a c k ++ M) H) : Wd K G M H := w.sub (List.sublist_append_right _ _)
end Wk

/-! Wk: what a search finds (plain Lean, no program). -/
namespace Wk
open PySem L2
theorem nodup_len {α : Type} [DecidableEq α] : ∀ {xs ys : List α}, xs.Nodup → (∀ x ∈ xs, x ∈ ys) → xs.length ≤ ys.length
  | [], _, _, _ => Nat.zero_le _
  | x :: xs, ys, h, k => by
    obtain ⟨h1, h2⟩ := List.nodup_cons.mp h
    have hx := k x List.mem_cons_self
    have := nodup_len (xs := xs) (ys := ys.erase x) h2 fun y hy => (List.mem_erase_of_ne (fun e => h1 (by rw [← e]; exact hy))).mpr (k y (List.mem_cons_of_mem _ hy))
    rw [List.length_erase_of_mem hx] at this
    have := List.length_pos_of_mem hx
    rw [List.length_cons]; omega
section
variable {κ ρ R : Type} [DecidableEq κ]
inductive Reach (next : κ → ρ → Option κ) (rows : List ρ) (a : κ) : κ → Prop
  | refl : Reach next rows a a
  | step {x y : κ} {r : ρ} : Reach next rows a x → r ∈ rows → next x r = some y → Reach next rows a y
def hop (next : κ → ρ → Option κ) (x : κ) (s : List (κ × Bool) × List κ) (r : ρ) : List (κ × Bool) × List κ :=
  match next x r with
  | none => s
  | some y => if dhas s.1 y = true then s else (s.1 ++ [(y, true)], s.2 ++ [y])
theorem dhas_mem {α : Type} {al : List (κ × α)} {k : κ} : dhas al k = true ↔ k ∈ al.map (·.1) := by
  unfold dhas
  rw [List.any_eq_true, List.mem_map]
  exact ⟨fun ⟨p, hp, e⟩ => ⟨p, hp, of_decide_eq_true e⟩, fun ⟨p, hp, e⟩ => ⟨p, hp, decide_eq_true e⟩⟩
/-- what the steps from x add -/
theorem hops {next : κ → ρ → Option κ} {x : κ} : ∀ (rs : List ρ) (k : List (κ × Bool)) (w : List κ), (k.map (·.1)).Nodup → ∃ new : List κ,
    rs.foldl (hop next x) (k, w) = (k ++ new.map (fun y => (y, true)), w ++ new) ∧ ((k ++ new.map (fun y => (y, true))).map (·.1)).Nodup ∧ (∀ y ∈ new, ∃ r ∈ rs, next x r = some y) ∧ (∀ r ∈ rs, ∀ y, next x r = some y → y ∈ (k ++ new.map (fun y => (y, true))).map (·.1)) ∧ (∀ y ∈ new, y ∉ k.map (·.1)) ∧ new.Nodup
  | [], k, w, h => ⟨[], by simp, by simpa using h, (fun y hy => by simp at hy), (fun r hr => by simp at hr), (fun y hy => by simp at hy), List.nodup_nil⟩
  | r :: rs, k, w, h => by
    rw [List.foldl_cons]
    have old : hop next x (k, w) r = (k, w) → (∀ y, next x r = some y → y ∈ k.map (·.1)) → ∃ new : List κ,
        rs.foldl (hop next x) (hop next x (k, w) r) = (k ++ new.map (fun y => (y, true)), w ++ new) ∧ ((k ++ new.map (fun y => (y, true))).map (·.1)).Nodup ∧ (∀ y ∈ new, ∃ r' ∈ r :: rs, next x r' = some y) ∧ (∀ r' ∈ r :: rs, ∀ y, next x r' = some y → y ∈ (k ++ new.map (fun y => (y, true))).map (·.1)) ∧ (∀ y ∈ new, y ∉ k.map (·.1)) ∧ new.Nodup := by
      intro e0 hin
      rw [e0]
      obtain ⟨new, h1, h2, h3, h4, h5, h6⟩ := hops rs k w h
      refine ⟨new, h1, h2, fun y hy => let ⟨r', hr, e⟩ := h3 y hy; ⟨r', List.mem_cons_of_mem _ hr, e⟩, fun r' hr y e => ?_, h5, h6⟩
      rcases List.mem_cons.mp hr with rfl | hr
      · rw [List.map_append]; exact List.mem_append_left _ (hin y e)
      · exact h4 r' hr y e
    cases hn : next x r with
    | none => exact old (by unfold hop; rw [hn]) (fun y e => by rw [hn] at e; cases e)
    | some y =>
      by_cases hd : dhas k y = true
      · exact old (by unfold hop; rw [hn]; exact if_pos hd) (fun z e => by rw [hn] at e; cases e; exact dhas_mem.mp hd)
      · have e : hop next x (k, w) r = (k ++ [(y, true)], w ++ [y]) := by unfold hop; rw [hn]; exact if_neg hd
        have hy : y ∉ k.map (·.1) := fun q => hd (dhas_mem.mpr q)
        have hk : ((k ++ [(y, true)]).map (·.1)).Nodup := by
          rw [List.map_append]
          refine List.nodup_append.mpr ⟨h, by simp, fun a ha b hb q => hy ?_⟩
          have : b = y := by simpa using hb
          rw [← this, ← q]; exact ha
        obtain ⟨new, h1, h2, h3, h4, h5, h6⟩ := hops rs (k ++ [(y, true)]) (w ++ [y]) hk
        have e2 : k ++ [(y, true)] ++ new.map (fun y => (y, true)) = k ++ (y :: new).map (fun y => (y, true)) := by rw [List.append_assoc]; rfl
        have hyn : y ∉ new := fun q => h5 y q (by simp)
        refine ⟨y :: new, ?_, ?_, fun z hz => ?_, fun r' hr z ez => ?_, fun z hz => ?_, List.nodup_cons.mpr ⟨hyn, h6⟩⟩
        · rw [e, h1, e2, List.append_assoc]; rfl
        · rw [← e2]; exact h2
        · rcases List.mem_cons.mp hz with rfl | hz
          · exact ⟨r, List.mem_cons_self, hn⟩
          · obtain ⟨r', hr, e⟩ := h3 z hz; exact ⟨r', List.mem_cons_of_mem _ hr, e⟩
        · rw [← e2]
          rcases List.mem_cons.mp hr with rfl | hr
          · rw [hn] at ez; cases ez
            rw [List.map_append]; exact List.mem_append_left _ (by simp)
          · exact h4 r' hr z ez
        · rcases List.mem_cons.mp hz with rfl | hz
          · exact hy
          · intro q; exact h5 z hz (by rw [List.map_append]; exact List.mem_append_left _ q)
/-- what is known at its end -/
def SrEnd (next : κ → ρ → Option κ) (rows : List ρ) (start : κ) (bad : κ → Bool) (over : List (κ × Bool) → Bool) (U : κ → Prop) (rt rt2 : R) : Fl (List κ × List (κ × Bool)) R → Prop
  | .rt r => (r = rt ∧ ∃ x, Reach next rows start x ∧ bad x = true) ∨ (r = rt2 ∧ ∃ k, over k = true)
  | .nx s => (∀ x, Reach next rows start x → bad x = false) ∧ (∀ x, x ∈ s.2.map (·.1) ↔ Reach next rows start x) ∧ (∀ p ∈ s.2, U p.1)
/-- a search of last things first -/
theorem search {next : κ → ρ → Option κ} {rows : List ρ} {U : κ → Prop} {start : κ} {bad : κ → Bool} {over : List (κ × Bool) → Bool} {rt rt2 : R} {N : Nat}
    {c : List κ × List (κ × Bool) → Option Bool} {f : List κ × List (κ × Bool) → Option (Fl (List κ × List (κ × Bool)) R)}
    (hs : U start) (cl : ∀ x, U x → ∀ r ∈ rows, ∀ y, next x r = some y → U y) (ho : over [(start, true)] = false)
    (hN : ∀ k : List (κ × Bool), (k.map (·.1)).Nodup → (∀ p ∈ k, U p.1) → over k = false → k.length ≤ N)
    (hc : ∀ s : List κ × List (κ × Bool), (∀ x ∈ s.1, U x) → c s = some (decide (s.1 ≠ [])))
    (hf : ∀ x w k, U x → (∀ y ∈ w, U y) → (∀ p ∈ k, U p.1) → (k.map (·.1)).Nodup → w.length ≤ k.length → k.length ≤ N →
      f (w ++ [x], k) = some (if bad x = true then .rt rt else if over (rows.foldl (hop next x) (k, w)).1 = true then .rt rt2 else .nx ((rows.foldl (hop next x) (k, w)).2, (rows.foldl (hop next x) (k, w)).1))) :
    Ok (whileR c f ([start], [(start, true)])) (SrEnd next rows start bad over U rt rt2) := by
  let I : List κ × List (κ × Bool) → Prop := fun s => (s.2.map (·.1)).Nodup ∧ (∀ p ∈ s.2, U p.1) ∧ (∀ x ∈ s.1, x ∈ s.2.map (·.1)) ∧ s.1.Nodup ∧ (∀ x ∈ s.2.map (·.1), Reach next rows start x) ∧ start ∈ s.2.map (·.1) ∧
    (∀ x ∈ s.2.map (·.1), x ∉ s.1 → bad x = false ∧ ∀ r ∈ rows, ∀ y, next x r = some y → y ∈ s.2.map (·.1)) ∧ over s.2 = false
  have uOf : ∀ {k : List (κ × Bool)} {x : κ}, (∀ p ∈ k, U p.1) → x ∈ k.map (·.1) → U x := fun h hx => by
    obtain ⟨p, hp, e⟩ := List.mem_map.mp hx
    rw [← e]; exact h p hp
  refine (whileR_ok (I := I) (P := fun r => (r = rt ∧ ∃ x, Reach next rows start x ∧ bad x = true) ∨ (r = rt2 ∧ ∃ k, over k = true)) (fun s => 2 * (N - s.2.length) + s.1.length) (fun s hI => ?_) (s := ([start], [(start, true)])) ?_).imp fun y hy => ?_
  · obtain ⟨w0, k⟩ := s
    obtain ⟨i1, i2, i3, i4, i5, i6, i7, i8⟩ := hI
    refine ⟨_, hc _ fun x hx => uOf i2 (i3 x hx), fun e => ?_⟩
    have hne : w0 ≠ [] := of_decide_eq_true e
    obtain ⟨w, x, rfl⟩ : ∃ w x, w0 = w ++ [x] := by
      rcases List.eq_nil_or_concat w0 with q | ⟨w, x, q⟩
      · exact absurd q hne
      · exact ⟨w, x, by rw [q, List.concat_eq_append]⟩
    have hxk : x ∈ k.map (·.1) := i3 x (by simp)
    have hwk : ∀ y ∈ w, y ∈ k.map (·.1) := fun y hy => i3 y (List.mem_append_left _ hy)
    have hxw : x ∉ w := fun q => (List.nodup_append.mp i4).2.2 x q x (by simp) rfl
    have hwl : (w ++ [x]).length ≤ k.length := by
      have := nodup_len i4 i3
      rw [List.length_map] at this; exact this
    rw [List.length_append, List.length_singleton] at hwl
    have hkN := hN k i1 i2 i8
    have hff := hf x w k (uOf i2 hxk) (fun y hy => uOf i2 (hwk y hy)) i2 i1 (by omega) hkN
    by_cases hb : bad x = true
    · rw [if_pos hb] at hff
      exact ⟨_, hff, .inl ⟨rfl, x, i5 x hxk, hb⟩⟩
    · rw [if_neg hb] at hff
      obtain ⟨new, h1, h2, h3, h4, h5, h6⟩ := hops (next := next) (x := x) rows k w i1
      by_cases hv : over (rows.foldl (hop next x) (k, w)).1 = true
      · rw [if_pos hv] at hff
        exact ⟨_, hff, .inr ⟨rfl, _, hv⟩⟩
      · rw [if_neg hv] at hff
        refine ⟨_, hff, ?_⟩
        rw [h1] at hv ⊢
        have hnewU : ∀ y ∈ new, U y := fun y hy => by
          obtain ⟨r, hr, e⟩ := h3 y hy
          exact cl x (uOf i2 hxk) r hr y e
        have hU2 : ∀ p ∈ k ++ new.map (fun y => (y, true)), U p.1 := fun p hp => by
          rcases List.mem_append.mp hp with hp | hp
          · exact i2 p hp
          · obtain ⟨y, hy, rfl⟩ := List.mem_map.mp hp; exact hnewU y hy
        have hm : ∀ y, y ∈ (k ++ new.map (fun y => (y, true))).map (·.1) ↔ y ∈ k.map (·.1) ∨ y ∈ new := fun y => by
          rw [List.map_append, List.mem_append, List.map_map]
          constructor
          · rintro (q | q)
            · exact .inl q
            · obtain ⟨z, hz, rfl⟩ := List.mem_map.mp q; exact .inr hz
          · rintro (q | q)
            · exact .inl q
            · exact .inr (List.mem_map.mpr ⟨y, q, rfl⟩)
        refine ⟨⟨h2, hU2, fun y hy => ?_, ?_, fun y hy => ?_, (hm _).mpr (.inl i6), fun y hy hyw => ?_, by simpa using hv⟩, ?_⟩
        · refine (hm y).mpr ?_
          rcases List.mem_append.mp hy with hy | hy
          · exact .inl (hwk y hy)
          · exact .inr hy
        · exact List.nodup_append.mpr ⟨(List.nodup_append.mp i4).1, h6, fun a ha b hb q => h5 b hb (by rw [← q]; exact hwk a ha)⟩
        · rcases (hm y).mp hy with hy | hy
          · exact i5 y hy
          · obtain ⟨r, hr, e⟩ := h3 y hy
            exact .step (i5 x hxk) hr e
        · have hyk : y ∈ k.map (·.1) := by
            rcases (hm y).mp hy with hy | hy
            · exact hy
            · exact absurd (List.mem_append_right _ hy) hyw
          by_cases e : y = x
          · subst e
            exact ⟨by simpa using hb, h4⟩
          · obtain ⟨q1, q2⟩ := i7 y hyk (fun q => by
              rcases List.mem_append.mp q with q | q
              · exact hyw (List.mem_append_left _ q)
              · exact e (by simpa using q))
            exact ⟨q1, fun r hr z ez => (hm z).mpr (.inl (q2 r hr z ez))⟩
        · have hl := hN _ h2 hU2 (by simpa using hv)
          show 2 * (N - (k ++ new.map (fun y => (y, true))).length) + (w ++ new).length < 2 * (N - k.length) + (w ++ [x]).length
          rw [List.length_append, List.length_map] at hl
          rw [List.length_append, List.length_map, List.length_append, List.length_append, List.length_singleton]
          omega
  · refine ⟨by simp, ?_, by simp, by simp, ?_, by simp, ?_, ho⟩
    · intro p hp; rw [List.mem_singleton.mp hp]; exact hs
    · intro x hx
      have : x = start := by simpa using hx
      rw [this]; exact .refl
    · intro x hx hn
      exact absurd (by simpa using hx : x = start) (by simpa using hn)
  · cases y with
    | rt r => exact hy
    | nx s =>
      obtain ⟨w, k⟩ := s
      obtain ⟨⟨i1, i2, i3, i4, i5, i6, i7, i8⟩, hcs⟩ := hy
      have hw : w = [] := by
        have := hc (w, k) fun x hx => uOf i2 (i3 x hx)
        rw [this] at hcs
        have hcs := Option.some.inj hcs
        by_cases e : w = []
        · exact e
        · rw [decide_eq_true e] at hcs; cases hcs
      have all : ∀ x, Reach next rows start x → x ∈ k.map (·.1) := fun x hx => by
        induction hx with
        | refl => exact i6
        | step h hr e ih => exact (i7 _ ih (by rw [hw]; simp)).2 _ hr _ e
      exact ⟨fun x hx => (i7 x (all x hx) (by show x ∉ w; rw [hw]; simp)).1, fun x => ⟨i5 x, all x⟩, i2⟩
end
section
variable {S α R : Type}
theorem forR_pre {f : S → α → Option (Fl S R)} {I : List α → S → Prop} {P : R → Prop} {xs : List α} {s : S} (h : I [] s) (k : ∀ pre x post s, xs = pre ++ x :: post → I pre s → Ok (f s x) (fun y => match y with | .nx s' => I (pre ++ [x]) s' | .rt r => P r)) : Ok (forR f s xs) (fun y => match y with | .nx s' => I xs s' | .rt r => P r) := by
  have key : ∀ (post pre : List α) (s : S), xs = pre ++ post → I pre s → Ok (forR f s post) (fun y => match y with | .nx s' => I xs s' | .rt r => P r) := by
    intro post
    induction post with
    | nil => intro pre s e hi; rw [List.append_nil] at e; subst e; exact ⟨_, rfl, hi⟩
    | cons x post ih =>
      intro pre s e hi
      refine Ok.bind (k pre x post s e hi) fun y hy => ?_
      cases y with
      | nx s' => exact ih (pre ++ [x]) s' (by rw [e, List.append_assoc]; rfl) hy
      | rt r => exact ⟨_, rfl, hy⟩
  exact key xs [] s rfl h
/-- a loop that only looks: it hands back r0 at the first bad thing -/
theorem forR_look {f : Unit → α → Option (Fl Unit R)} {bad : α → Bool} {r0 : R} : ∀ {xs : List α}, (∀ x ∈ xs, f () x = some (if bad x = true then .rt r0 else .nx ())) → forR f () xs = some (if xs.any bad = true then .rt r0 else .nx ())
  | [], _ => rfl
  | x :: xs, h => by
    show (f () x).bind _ = _
    rw [h x List.mem_cons_self, List.any_cons]
    cases hb : bad x with
    | true => rfl
    | false =>
      rw [Bool.false_or]
      exact forR_look fun y hy => h y (List.mem_cons_of_mem _ hy)
end
end Wk

/-! lists of unlike things -/
namespace Wk
open PySem PySem.Spec PyProof.Rows L2 Evl
abbrev eH2 {α β : Type} (f : α → D) (g : β → D) (x : α × β) : D := .lst [f x.1, g x.2]
abbrev eH3 {α β γ : Type} (f : α → D) (g : β → D) (h : γ → D) (x : α × β × γ) : D := .lst [f x.1, g x.2.1, h x.2.2]
section
variable {X : Cx} {ρ ρ1 : Env} {ds : List D} {pos : Pos}
theorem g_lst {es : List Expr} {k n : Nat} {is : List Nat} (hc : X.calm = true) (h : XGs X es ds is ρ ρ1) (hl : ds.length = n := by rfl) (hn : (assignEach es X.env).length = n := by exact asg_len) (hst : (assignEach es X.env).findIdx? (·.1) = none := by exact asg_none rfl) :
    XG X (.Tuple es k pos) (.lst ds) is ρ ρ1 := .mk fun G v σ H Q sl ex r q => by
  obtain ⟨a, vs, rfl, hv, rv⟩ := of_lst r
  exact SemG.of (pg_lst hc pgs_sem hn hst) ⟨a, vs, rfl, SqL.of (ex _ _ hv), rv.length.trans hl, h.run G vs σ H Q sl ex rv q⟩
end
end Wk

/-! Wk: zip of tuples, lists and texts, of unlike kinds and lengths. -/
namespace Wk
open PySem PySem.Spec PyProof.Rows L2 Evl
section
variable {prog : Program} {w : World} {A : Around} {E : Value → Shared → Prop} {s : Shared} {z TI TO T i1 i2 : Addr} {f : Bool} {oT : Obj} {fp1 fp2 : List Addr} {n1 n2 i : Nat} {P1 P2 : Nat → Value → Prop} {St1 St2 : Nat → Heap → Prop}
theorem zipHeldEnd2 {Q : Fin → Shared → Prop} (S : ZipSep2 z TI TO i1 i2 fp1 fp2) (D1 : Draws prog w A i1 fp1 n1 P1 St1) (D2 : Draws prog w A i2 fp2 n2 P2 St2)
    (hz : IsZipHeld s.heap z TI TO T f) (hT : s.heap.get? T = some oT) (hTI : IsPair s.heap TI (.ref i1) (.ref i2)) (st1 : St1 i s.heap) (st2 : St2 i s.heap) (b1 : i < n1) (b2 : i = n2)
    (hE : ∀ h' e tk, (∀ c o, c ≠ z → c ≠ i1 → c ≠ i2 → s.heap.get? c = some o → h'.get? c = some o) → (∃ o, h'.get? e = some o ∧ o.cls = .type "StopIteration") → E (.ref e) { s with heap := h', toks := tk }) :
    wpAny (model prog w) A (Builtin.«zip.__next__» ⟨[.ref z], []⟩) Q E s := by
  subst b2
  show wpAny _ _ (field (.ref z) 2 >>= fun _ => _) _ _ _
  refine wpAny_bind (wpAny_field (i := 2) hz rfl (x := .bool false) rfl ?_); show wpAny _ _ (field (.ref z) 3 >>= fun _ => _) _ _ _
  refine wpAny_bind (wpAny_field (i := 3) hz rfl (x := .ref TI) rfl (wpAny_bind (wpAny_seqItems hTI rfl ?_))); show wpAny _ _ (Builtin.SmallTypes.ownedTupleIsFree (.ref z) >>= fun _ => _) _ _ _
  refine wpAny_bind (PySem.wpAny_tupleHeld_zip hz hT fun g hg sg => ?_); simp only [Bool.false_eq_true, if_false]; refine wpAny_bind ?_; rw [← Array.forIn_toList]; simp only [List.forIn_cons, List.forIn_nil]
  refine wpAny_bind (wpAny_bind (wpAny_holding (show wpAny _ _ (Builtin.SmallTypes.nextOf (.ref i1) >>= fun _ => _) _ _ _ from wpAny_bind (D1.item i { s with heap := g } _ _ b1 (D1.over st1 sg S.zf1) fun x g1 tk1 hx s1 sb1 => wpAny_pure (wpAny_pure ?_)))))
  have sb1 : Heap.SameBut i1 g g1 := sb1
  exact wpAny_bind (wpAny_bind (wpAny_holding (show wpAny _ _ (Builtin.SmallTypes.nextOf (.ref i2) >>= fun _ => _) _ _ _ from wpAny_bind (D2.done { s with heap := g1, toks := tk1 } _ _ (D2.over (D2.over st2 sg S.zf2) sb1 S.sep1_2) fun g2 e eb he => hE g2 e tk1 (fun c o c0 c1 c2 x => eb _ _ c2 (sb1.extBut _ _ c1 (sg.extBut _ _ c0 x))) he))))
end
section
variable {prog : Program} {w : World}
/-- zip of two that are drawn, as what dict() is given -/
theorem pairZipG {z TI TO i1 i2 : Addr} {fp1 fp2 : List Addr} {n1 n2 : Nat} {P1 P2 : Nat → Value → Prop} {St1 St2 : Nat → Heap → Prop} (S : ZipSep2 z TI TO i1 i2 fp1 fp2)
    (D1 : ∀ A : Around, A.handled = none → Draws prog w A i1 fp1 n1 P1 St1) (D2 : ∀ A : Around, A.handled = none → Draws prog w A i2 fp2 n2 P2 St2)
    (T1 : ∀ h, St1 0 h → ∀ b ∈ fp1, ∃ o, h.get? b = some o) (T2 : ∀ h, St2 0 h → ∀ b ∈ fp2, ∃ o, h.get? b = some o) :
    PairArg prog w "zip" z (z :: TI :: TO :: (fp1 ++ fp2)) [z, TO, i1, i2] (min n1 n2) (fun i k v => P1 i k ∧ P2 i v)
      (fun h => IsZip h z TI TO .none ∧ IsPair h TI (.ref i1) (.ref i2) ∧ (∃ a b, IsPair h TO a b) ∧ St1 0 h ∧ St2 0 h ∧ ∃ A : Around, A.handled = none) where
  type := fun s ok => ⟨_, ok.1, rfl⟩
  notDict := by decide
  keep := fun h h' ⟨hz, hTI, ⟨a, b, hTO⟩, s1, s2, A, hA⟩ hk => ⟨hk _ _ hz, hk _ _ hTI, ⟨a, b, hk _ _ hTO⟩, (D1 A hA).frame _ _ _ s1 fun b _ o e => hk b o e, (D2 A hA).frame _ _ _ s2 fun b _ o e => hk b o e, A, hA⟩
  there := fun h ⟨hz, hTI, ⟨a, c, hTO⟩, s1, s2, _⟩ b hb => by
    simp only [List.mem_cons, List.mem_append] at hb
    rcases hb with rfl | rfl | rfl | hb | hb
    · exact ⟨_, hz⟩
    · exact ⟨_, hTI⟩
    · exact ⟨_, hTO⟩
    · exact T1 _ s1 _ hb
    · exact T2 _ s2 _ hb
  sub := fun b hb => by
    have m1 := S.mem1
    have m2 := S.mem2
    simp only [List.mem_cons, List.not_mem_nil, or_false] at hb
    rcases hb with rfl | rfl | rfl | rfl
    · exact List.mem_cons_self
    · exact List.mem_cons_of_mem _ (List.mem_cons_of_mem _ List.mem_cons_self)
    · exact List.mem_cons_of_mem _ (List.mem_cons_of_mem _ (List.mem_cons_of_mem _ (List.mem_append_left _ m1)))
    · exact List.mem_cons_of_mem _ (List.mem_cons_of_mem _ (List.mem_cons_of_mem _ (List.mem_append_right _ m2)))
  noKeys := fun A s Q E hA ok h => PySem.getAttrOr_miss_zip ok.1 rfl rfl rfl PySem.zip_no_keys (by decide +kernel) hA h
  iter := fun A s d Q E hA ⟨hz, hTI, hTO, st1, st2, _⟩ hd hdf h => by
    have dz : d ≠ z := fun e => hdf (e ▸ List.mem_cons_self)
    have dTI : d ≠ TI := fun e => hdf (e ▸ List.mem_cons_of_mem _ List.mem_cons_self)
    have dTO : d ≠ TO := fun e => hdf (e ▸ List.mem_cons_of_mem _ (List.mem_cons_of_mem _ List.mem_cons_self))
    have d1 : d ∉ fp1 := fun e => hdf (List.mem_cons_of_mem _ (List.mem_cons_of_mem _ (List.mem_cons_of_mem _ (List.mem_append_left _ e))))
    have d2 : d ∉ fp2 := fun e => hdf (List.mem_cons_of_mem _ (List.mem_cons_of_mem _ (List.mem_cons_of_mem _ (List.mem_append_right _ e))))
    have di1 : d ≠ i1 := fun e => d1 (e ▸ S.mem1)
    have di2 : d ≠ i2 := fun e => d2 (e ▸ S.mem2)
    have D1' := D1 A.in1 (hd_in1 hA)
    have D2' := D2 A.in1 (hd_in1 hA)
    let St : Nat → Heap → Prop := fun i h => IsPair h TI (.ref i1) (.ref i2) ∧ St1 i h ∧ St2 i h ∧
      ((IsZip h z TI TO .none ∧ ∃ a b, IsPair h TO a b) ∨ ∃ T f oT, IsZipHeld h z TI TO T f ∧ h.get? T = some oT ∧ T ≠ z ∧ T ≠ i1 ∧ T ≠ i2 ∧ T ≠ d)
    refine wpAny_pyIter_zip hz (h z [z, TO, i1, i2] St s.heap s.toks ?_ ⟨hTI, st1, st2, .inl ⟨hz, hTO⟩⟩ (fun _ _ e => e) fun b hb => .inl hb)
    have nz : ∀ {s₁ : Shared}, IsZip s₁.heap z TI TO .none ∨ (∃ T f, IsZipHeld s₁.heap z TI TO T f) → s₁.TypeIs (.ref z) "zip" := fun h => h.elim (fun e => ⟨_, e, rfl⟩) fun ⟨T, f, e⟩ => ⟨_, e, rfl⟩
    refine ⟨?_, fun i h1 h2 st hk => ?_, fun i s1 Q1 E1 hi st hds hQ => ?_, fun s1 Q1 E1 st hQ => ?_⟩
    · intro hm
      simp only [List.mem_cons, List.not_mem_nil, or_false] at hm
      rcases hm with e | e | e | e
      · exact dz e
      · exact dTO e
      · exact di1 e
      · exact di2 e
    · obtain ⟨a1, a2, a4, a6⟩ := st
      refine ⟨hk _ _ (Ne.symm dTI) a1, D1'.frame _ _ _ a2 fun b hb o e => hk b o (fun q => d1 (q ▸ hb)) e, D2'.frame _ _ _ a4 fun b hb o e => hk b o (fun q => d2 (q ▸ hb)) e, ?_⟩
      rcases a6 with ⟨b1, x, y, b2⟩ | ⟨T, f, oT, b1, b2, r1, r2, r3, r4⟩
      · exact .inl ⟨hk _ _ (Ne.symm dz) b1, x, y, hk _ _ (Ne.symm dTO) b2⟩
      · exact .inr ⟨T, f, oT, hk _ _ (Ne.symm dz) b1, hk _ _ r4 b2, r1, r2, r3, r4⟩
    · obtain ⟨a1, a2, a4, a6⟩ := st
      have lt : ∀ {c o}, s1.heap.get? c = some o → s1.heap.objs.size ≠ c := fun e => Nat.ne_of_gt (Heap.lt_size e)
      have m1 : s1.heap.objs.size ≠ i1 := let ⟨_, e⟩ := D1'.live _ _ a2; lt e
      have m2 : s1.heap.objs.size ≠ i2 := let ⟨_, e⟩ := D2'.live _ _ a4; lt e
      have h1 : i < n1 := by omega
      have h2 : i < n2 := by omega
      rcases a6 with ⟨b1, x0, y0, b2⟩ | ⟨T, f, oT, b1, b2, r1, r2, r3, r4⟩
      · refine PySem.wpAny_pyNext_zipD2_item S D1' D2' b1 a1 b2 a2 a4 h1 h2 fun x y h' tk p1 p2 c1 c2 c3 c4 c5 _ hk => ?_
        refine hQ s1.heap.objs.size x y h' tk ⟨p1, p2⟩ (.inl ⟨_, c5, rfl, _, rfl⟩) ⟨hk _ _ S.TIz S.TITO S.TIi1 S.TIi2 a1, c3, c4, .inr ⟨s1.heap.objs.size, false, _, c1, c5, lt b1, m1, m2, Nat.ne_of_gt hds⟩⟩ fun c o hc e => ?_
        simp only [List.mem_cons, List.not_mem_nil, or_false, not_or] at hc
        exact hk c o hc.1 hc.2.1 hc.2.2.1 hc.2.2.2 e
      · unfold pyNext
        refine wpAny_bind (wpAny_attempt (wpAny_callSpecial?_slot (name := Str.ofString "__next__") (nz (.inr ⟨T, f, b1⟩)) PySem.F.slot_zip_next (wpAny_call_entry PySem.F.slot_zip_next (nz (.inr ⟨T, f, b1⟩)) PySem.F.entry_zip_next
          (zipHeldItem S D1' D2' b1 b2 a1 a2 a4 h1 h2 fun x y h' tk p1 p2 c1 c3 c4 c5 hk => wpAny_pure ?_) (PySem.F.args_zip_next_1 _))))
        refine hQ s1.heap.objs.size x y h' tk ⟨p1, p2⟩ (.inl ⟨_, c5, rfl, _, rfl⟩) ⟨hk _ _ S.TIz S.TIi1 S.TIi2 a1, c3, c4, .inr ⟨T, true, oT, c1, hk _ _ r1 r2 r3 b2, r1, r2, r3, r4⟩⟩ fun c o hc e => ?_
        simp only [List.mem_cons, List.not_mem_nil, or_false, not_or] at hc
        exact hk c o hc.1 hc.2.2.1 hc.2.2.2 e
    · obtain ⟨a1, a2, a4, a6⟩ := st
      rcases a6 with ⟨b1, x0, y0, b2⟩ | ⟨T, f, oT, b1, b2, r1, r2, r3, r4⟩
      · refine PySem.wpAny_pyNext_zipD2_end S D1' D2' b1 a1 b2 a2 a4 (Nat.min_le_left _ _) (Nat.min_le_right _ _) (by omega) fun h' tk hk => hQ h' tk fun c o hc e => ?_
        simp only [List.mem_cons, List.not_mem_nil, or_false, not_or] at hc
        exact hk c o hc.1 hc.2.1 hc.2.2.1 hc.2.2.2 e
      · unfold pyNext
        have fin : ∀ (h' : Heap) (tk : Tok), (∀ c o, c ≠ z → c ≠ i1 → c ≠ i2 → s1.heap.get? c = some o → h'.get? c = some o) → Q1 none { s1 with heap := h', toks := tk } := fun h' tk hk => hQ h' tk fun c o hc e => by
          simp only [List.mem_cons, List.not_mem_nil, or_false, not_or] at hc
          exact hk c o hc.1 hc.2.2.1 hc.2.2.2 e
        by_cases hle : n1 ≤ n2
        · have e1 : min n1 n2 = n1 := Nat.min_eq_left hle
          rw [e1] at a2
          refine wpAny_bind (wpAny_attempt (wpAny_callSpecial?_slot (name := Str.ofString "__next__") (nz (.inr ⟨T, f, b1⟩)) PySem.F.slot_zip_next (wpAny_call_entry PySem.F.slot_zip_next (nz (.inr ⟨T, f, b1⟩)) PySem.F.entry_zip_next
            (zipHeldEnd S D1' D2' b1 b2 a1 a2 fun h' e tk hk he => ?_) (PySem.F.args_zip_next_1 _))))
          obtain ⟨o, ho, hc⟩ := he
          exact wpAny_bind (wpAny_isInstance (T := "StopIteration") (b := true) ⟨o, ho, hc⟩ isSubtype_stop (wpAny_pure (fin h' tk hk)))
        · refine wpAny_bind (wpAny_attempt (wpAny_callSpecial?_slot (name := Str.ofString "__next__") (nz (.inr ⟨T, f, b1⟩)) PySem.F.slot_zip_next (wpAny_call_entry PySem.F.slot_zip_next (nz (.inr ⟨T, f, b1⟩)) PySem.F.entry_zip_next
            (zipHeldEnd2 S D1' D2' b1 b2 a1 a2 a4 (by omega) (by omega) fun h' e tk hk he => ?_) (PySem.F.args_zip_next_1 _))))
          obtain ⟨o, ho, hc⟩ := he
          exact wpAny_bind (wpAny_isInstance (T := "StopIteration") (b := true) ⟨o, ho, hc⟩ isSubtype_stop (wpAny_pure (fin h' tk hk)))
end
/-! kinds of what is walked -/
inductive ZKind | t | l | s deriving DecidableEq
def zIter : ZKind → Value → Addr → Nat → Heap → Prop
  | .t, .ref a, it, i, h => h.IsTupleIter it a i
  | .l, .ref a, it, i, h => h.IsListIter it a i
  | .s, .str x t, it, i, h => h.IsStrIter it (strIterType x) x t i
  | _, _, _, _, _ => False
def zl : ZKind → Value → List Addr
  | .t, .ref a => [a]
  | .l, .ref a => [a]
  | _, _ => []
/-- the items, for lists and tuples -/
def zItems : ZKind → Value → List Value → Heap → Prop
  | .t, .ref a, its, h => h.IsTuple a its.toArray
  | .l, .ref a, its, h => h.IsList a its.toArray
  | _, _, _, _ => False
def zCont (k : ZKind) (u : Value) (xs : List V) (h : Heap) : Prop := match k, u with
  | .s, .str x _ => xs = x.cps.toList.map fun c => V.str ⟨#[c]⟩
  | k, u => ∃ its, Vals xs its ∧ zItems k u its h
def ZK (K : PySem.W.Frag) (H : Hp) : ZKind → V → List V → Prop
  | .t, .ref a, xs => SqT K H a xs
  | .l, .ref a, xs => SqL K H a xs
  | .s, .str x, xs => xs = x.cps.toList.map fun c => V.str ⟨#[c]⟩
  | _, _, _ => False
section
variable {prog : Program} {w : World} {A : Around}
theorem zDrawsI {k : ZKind} {u : Value} {its : List Value} (hh : A.handled = none) (it : Addr) (hne : it ∉ zl k u) : Draws prog w A it (it :: zl k u) its.length (fun i v => its[i]? = some v) (fun i h => zIter k u it i h ∧ zItems k u its h) := by
  have no : ∀ {St : Nat → Heap → Prop} {P : Nat → Value → Prop} {fp : List Addr} {n : Nat}, (∀ i h, ¬ St i h) → Draws prog w A it fp n P St := fun f => ⟨fun i h st => (f i h st).elim, fun i h h' st => (f i h st).elim, fun i s Q E hi st _ => (f _ _ st).elim, fun s Q E st _ => (f _ _ st).elim⟩
  cases k with
  | s => exact no fun i h st => by cases u <;> exact st.2
  | t =>
    cases u with
    | ref a =>
      have D := Draws.tuple (prog := prog) (w := w) hh it a (fun e : a = it => hne (e ▸ List.mem_cons_self)) its.toArray
      rw [List.size_toArray] at D
      exact ⟨D.live, D.frame, fun i s Q E hi st hQ => D.item i s Q E hi st fun x h' tk px => hQ x h' tk (by simpa using px), D.done⟩
    | _ => exact no fun i h st => st.1
  | l =>
    cases u with
    | ref a =>
      have D := Draws.list (prog := prog) (w := w) hh it a (fun e : a = it => hne (e ▸ List.mem_cons_self)) its.toArray
      rw [List.size_toArray] at D
      exact ⟨D.live, D.frame, fun i s Q E hi st hQ => D.item i s Q E hi st fun x h' tk px => hQ x h' tk (by simpa using px), D.done⟩
    | _ => exact no fun i h st => st.1
def zP (xs : List V) (i : Nat) (v : Value) : Prop := ∃ x, xs[i]? = some x ∧ RelV x v
theorem zDraws {k : ZKind} {u : Value} {xs : List V} (hh : A.handled = none) (it : Addr) (hne : it ∉ zl k u) : Draws prog w A it (it :: zl k u) xs.length (zP xs) (fun i h => zIter k u it i h ∧ zCont k u xs h) := by
  have go : ∀ {k u}, it ∉ zl k u → Draws prog w A it (it :: zl k u) xs.length (zP xs) (fun i h => zIter k u it i h ∧ ∃ its, Vals xs its ∧ zItems k u its h) := fun {k u} hne =>
    ⟨fun i h ⟨a, its, rv, c⟩ => (zDrawsI (prog := prog) (w := w) hh it hne).live i h ⟨a, c⟩,
     fun i h h' ⟨a, its, rv, c⟩ hk => let ⟨p, q⟩ := (zDrawsI (prog := prog) (w := w) hh it hne).frame i h h' ⟨a, c⟩ hk; ⟨p, its, rv, q⟩,
     fun i s Q E hi ⟨a, its, rv, c⟩ hQ => (zDrawsI (prog := prog) (w := w) hh it hne).item i s Q E (by rw [← rv.length]; exact hi) ⟨a, c⟩ fun x h' tk px ⟨p, q⟩ => hQ x h' tk (by
       obtain ⟨u, hu, ru⟩ := rv.get (List.getElem?_eq_getElem hi)
       rw [px] at hu; cases hu
       exact ⟨_, List.getElem?_eq_getElem hi, ru⟩) ⟨p, its, rv, q⟩,
     fun s Q E ⟨a, its, rv, c⟩ hE => (zDrawsI (prog := prog) (w := w) hh it hne).done s Q E (by rw [← rv.length]; exact ⟨a, c⟩) hE⟩
  cases k with
  | t => exact go hne
  | l => exact go hne
  | s =>
    cases u with
    | str x t =>
      have D := Draws.text (prog := prog) (w := w) hh it x t
      by_cases e : xs = x.cps.toList.map fun c => V.str ⟨#[c]⟩
      · subst e
        rw [List.length_map, Array.length_toList]
        exact ⟨fun i h st => D.live i h st.1, fun i h h' st hk => ⟨D.frame i h h' st.1 hk, rfl⟩, fun i s Q E hi st hQ => D.item i s Q E hi st.1 fun v h' tk ⟨c, u, hc, hv⟩ st' => hQ v h' tk (by
          subst hv
          refine ⟨V.str ⟨#[c]⟩, ?_, ⟨u, rfl⟩⟩
          rw [List.getElem?_map, Array.getElem?_toList, hc]; rfl) ⟨st', rfl⟩, fun s Q E st hE => D.done s Q E st.1 hE⟩
      · exact ⟨fun i h st => (e st.2).elim, fun i h h' st => (e st.2).elim, fun i s Q E hi st _ => (e st.2).elim, fun s Q E st _ => (e st.2).elim⟩
    | _ => exact ⟨fun i h st => st.1.elim, fun i h h' st => st.1.elim, fun i s Q E hi st _ => st.1.elim, fun s Q E st _ => st.1.elim⟩
theorem zBegin {k : ZKind} {u : Value} {xs : List V} {h : Heap} (c : zCont k u xs h) : ∃ o Hh, Begins u o Hh ∧ Hh h ∧ (∀ it h', h'.get? it = some o → zIter k u it 0 h') := by
  cases k with
  | t =>
    obtain ⟨its, _, c⟩ := (show ∃ its, Vals xs its ∧ zItems .t u its h from c)
    cases u with
    | ref a => exact ⟨_, _, begins_tuple a its.toArray, c, fun it h' e => ⟨_, e, rfl, rfl⟩⟩
    | _ => exact c.elim
  | l =>
    obtain ⟨its, _, c⟩ := (show ∃ its, Vals xs its ∧ zItems .l u its h from c)
    cases u with
    | ref a => exact ⟨_, _, begins_list a its.toArray, c, fun it h' e => ⟨_, e, rfl, rfl⟩⟩
    | _ => exact c.elim
  | s =>
    cases u with
    | str x t => exact ⟨_, _, begins_text x t, trivial, fun it h' e => ⟨_, e, rfl, rfl⟩⟩
    | _ => obtain ⟨its, _, c⟩ := c; exact c.elim
theorem ZK.cont {X : Cx} {pins : List (Addr × Obj)} {σ : L2.St} {H : Hp} {s : Shared} {k : ZKind} {v : V} {u : Value} {xs : List V} (I : Inv X pins σ H s) (z : ZK X.K H k v xs) (r : RelV v u) : zCont k u xs s.heap := by
  cases k with
  | t =>
    cases v with
    | ref a =>
      cases r
      obtain ⟨its, rv, p, _⟩ := I.tuple z
      exact ⟨its, rv, p⟩
    | _ => exact z.elim
  | l =>
    cases v with
    | ref a =>
      cases r
      obtain ⟨its, rv, p, _⟩ := I.list z
      exact ⟨its, rv, p.isList⟩
    | _ => exact z.elim
  | s =>
    cases v with
    | str x =>
      obtain ⟨t, rfl⟩ := r
      exact z
    | _ => exact z.elim
end
end Wk

/-! Wk: dict(zip(a, b)) and walks over zip(a, b), of unlike kinds and lengths. -/
namespace Wk
open PySem PySem.Spec PyProof.Rows L2 Evl
theorem zl_low {k : ZKind} {u : Value} {its : List Value} {h : Heap} (z : zItems k u its h) : ∀ c ∈ zl k u, ∃ o, h.get? c = some o := by
  cases k with
  | s => exact z.elim
  | t =>
    cases u with
    | ref a => intro c hc; obtain ⟨o, ho, _⟩ := id z; rw [List.mem_singleton.mp hc]; exact ⟨o, ho⟩
    | _ => exact z.elim
  | l =>
    cases u with
    | ref a => intro c hc; obtain ⟨o, ho, _⟩ := id z; rw [List.mem_singleton.mp hc]; exact ⟨o, ho⟩
    | _ => exact z.elim
theorem zItems.up {k : ZKind} {u : Value} {its : List Value} {h h' : Heap} (z : zItems k u its h) (hk : ∀ c o, h.get? c = some o → h'.get? c = some o) : zItems k u its h' := by
  cases k with
  | s => exact z.elim
  | t =>
    cases u with
    | ref a => exact (show h.IsTuple a its.toArray from z).at fun o e => hk _ o e
    | _ => exact z.elim
  | l =>
    cases u with
    | ref a => exact (show h.IsList a its.toArray from z).at fun o e => hk _ o e
    | _ => exact z.elim
theorem zl_lowC {k : ZKind} {u : Value} {xs : List V} {h : Heap} (z : zCont k u xs h) : ∀ c ∈ zl k u, ∃ o, h.get? c = some o := by
  cases k with
  | s => intro c hc; cases u <;> exact absurd hc (by simp [zl])
  | t => obtain ⟨its, _, z⟩ := (show ∃ its, Vals xs its ∧ zItems .t u its h from z); exact zl_low z
  | l => obtain ⟨its, _, z⟩ := (show ∃ its, Vals xs its ∧ zItems .l u its h from z); exact zl_low z
theorem notInC {I j c : Nat} {l : List Addr} (h : ∀ c ∈ l, c < I) (n : c ≠ j) (hc : I ≤ c) : c ∉ (j :: l : List Addr) := fun e => by
  rcases List.mem_cons.mp e with e | e
  · exact n e
  · exact absurd (h _ e) (Nat.not_lt.mpr hc)
theorem natSep (I : Nat) : (I + 2 ≠ I + 4 ∧ I + 3 ≠ I + 4 ∧ I + 2 ≠ I + 3 ∧ I + 2 ≠ I ∧ I + 2 ≠ I + 1 ∧ I + 4 ≠ I ∧ I + 4 ≠ I + 1 ∧ I + 3 ≠ I ∧ I + 3 ≠ I + 1) ∧ I ≠ I + 1 ∧ I + 1 ≠ I ∧ I ≤ I + 1 ∧ I ≤ I + 3 ∧ I ≤ I + 4 := by omega
theorem zsep (I : Nat) {l1 l2 : List Addr} (h1 : ∀ c ∈ l1, c < I) (h2 : ∀ c ∈ l2, c < I) : ZipSep2 (I + 4) (I + 2) (I + 3) I (I + 1) (I :: l1) ((I + 1) :: l2) := by
  obtain ⟨⟨a1, a2, a3, a4, a5, a6, a7, a8, a9⟩, b1, b2, b3, b4, b5⟩ := natSep I
  exact ⟨a1, a2, a3, a4, List.mem_cons_self, notInC h1 a6 b5, notInC h1 a8 b4, a5, List.mem_cons_self, notInC h2 a7 b5, notInC h2 a9 b4, notInC h2 b1 (Nat.le_refl _), notInC h1 b2 b3⟩
theorem ZK.its {X : Cx} {pins : List (Addr × Obj)} {σ : L2.St} {H : Hp} {s : Shared} {k : ZKind} {v : V} {u : Value} {xs : List V} (I : Inv X pins σ H s) (z : ZK X.K H k v xs) (hk : k ≠ .s) (r : RelV v u) : ∃ its, Vals xs its ∧ zItems k u its s.heap ∧ xs.length ≤ sizeLine := by
  cases k with
  | t =>
    cases v with
    | ref a =>
      cases r
      obtain ⟨its, rv, p, hz⟩ := I.tuple z
      exact ⟨its, rv, p, hz⟩
    | _ => exact z.elim
  | l =>
    cases v with
    | ref a =>
      cases r
      obtain ⟨its, rv, p, hz⟩ := I.list z
      exact ⟨its, rv, p.isList, hz⟩
    | _ => exact z.elim
  | s => exact absurd rfl hk
theorem zCont_its {k : ZKind} {u : Value} {xs : List V} {its : List Value} {h : Heap} (hk : k ≠ .s) (rv : Vals xs its) (z : zItems k u its h) : zCont k u xs h := by
  cases k with
  | t => exact ⟨its, rv, z⟩
  | l => exact ⟨its, rv, z⟩
  | s => exact absurd rfl hk
theorem kvs_ofG (P : Program) (w : World) : ∀ {ks : List L2.Key} {ws : List V} {its its2 : List Value}, Vals (ks.map kV) its → Vals ws its2 →
    ∃ prs : List (L2.Key × Value), KV (ks.zip ws) prs ∧ prs.length = min its.length its2.length ∧ ∀ (i : Nat) (k v : Value), its[i]? = some k → its2[i]? = some v → ∃ y, prs[i]? = some (y, v) ∧ keyIs y k = true
  | [], ws, its, its2, h, h2 => by
    cases h
    exact ⟨[], .nil, (Nat.zero_min _).symm, fun i k v e => by simp at e⟩
  | kv :: kvs, [], its, its2, h, h2 => by
    cases h2
    exact ⟨[], .nil, (Nat.min_zero _).symm, fun i k v _ e => by simp at e⟩
  | kv :: kvs, w0 :: ws, its, its2, h, h2 => by
    rw [List.map_cons] at h
    cases h with
    | cons r t =>
      cases h2 with
      | cons r2 t2 =>
        rename_i u us v vs
        obtain ⟨prs, k1, k2, k4⟩ := kvs_ofG P w t t2
        refine ⟨(kv, v) :: prs, .cons ⟨rfl, r2⟩ k1, by rw [List.length_cons, List.length_cons, List.length_cons, k2]; exact (Nat.add_min_add_right _ _ _).symm, fun i k w e1 e2 => ?_⟩
        cases i with
        | zero =>
          simp at e1 e2
          subst e1; subst e2
          exact ⟨kv, rfl, kV_is (P := P) (w := w) r⟩
        | succ i =>
          obtain ⟨y, h1, h2⟩ := k4 i k w (by simpa using e1) (by simpa using e2)
          exact ⟨y, by simpa using h1, h2⟩
section
variable {X : Cx} {e e2 : Expr} {p p2 q pos : Pos} {ta : TA}
def tDZG (K : PySem.W.Frag) (ta : TA) : TE := fun σ H Q => ta σ H fun vs H1 => ∃ (v1 v2 : V) (k1 k2 : ZKind) (ks : List L2.Key) (ws : List V), vs = [v1, v2] ∧ k1 ≠ .s ∧ k2 ≠ .s ∧ ZK K H1 k1 v1 (ks.map kV) ∧ ZK K H1 k2 v2 ws ∧ ∀ p, H1 p = none → Q (.ref p) (upd H1 p (.dK (mergeK [] (ks.zip ws))))
theorem pe_dictZipG (hc : X.calm = true) (hg : Gl X "dict") (hm : X.mg "dict" = none) (hg2 : Gl X "zip") (hm2 : X.mg "zip" = none) (ha : PA X [e, e2] ta)
    (hs : starEach [e, e2] X.env = (false, eval e X.env) :: starEach [e2] X.env) (hpl : (backTo q (starEach [e2] X.env)).any (·.1) = false)
    (hs2 : starEach [.Call (.Name "zip" p2) [e, e2] [] q] X.env = (false, eval (.Call (.Name "zip" p2) [e, e2] [] q) X.env) :: starEach [] X.env) :
    PE X (.Call (.Name "dict" p) [.Call (.Name "zip" p2) [e, e2] [] q] [] pos) (tDZG X.K ta) := by
  refine ⟨fun pins s σ H Q I h => ?_⟩
  refine Call_ (ld_blt I hg hm boot_dict (PyProof.Rows.callWith_type1 (args_cons ?_ hs2) hs2 rfl))
  refine Call_ (ld_blt I hg2 hm2 PyProof.Rows.boot_zip (PyProof.Rows.callWith_type1 (thn (ha.run q pins s σ H _ I h) fun us s1 ⟨vs, H1, I1, r1, q1⟩ => ?_) hs hpl))
  obtain ⟨v1, v2, k1, k2, ks, ws, rfl, n1, n2, hz1, hz2, q1⟩ := q1
  obtain ⟨u1, u2, rfl, r, r'⟩ := vals2 r1
  obtain ⟨its, rv, p1, hzl⟩ := hz1.its I1 n1 r
  obtain ⟨its2, rv2, p22, hz2l⟩ := hz2.its I1 n2 r'
  obtain ⟨o1, Hh1, B1, b1, e1⟩ := zBegin (zCont_its n1 rv p1)
  obtain ⟨o2, Hh2, B2, b2, e2⟩ := zBegin (zCont_its n2 rv2 p22)
  obtain ⟨prs, k1', k2', k4⟩ := kvs_ofG X.prog X.w rv rv2
  have la : ∀ c ∈ zl k1 u1, c < s1.heap.objs.size := fun c hc => let ⟨_, e⟩ := zl_low p1 c hc; Heap.lt_size e
  have lb : ∀ c ∈ zl k2 u2, c < s1.heap.objs.size := fun c hc => let ⟨_, e⟩ := zl_low p22 c hc; Heap.lt_size e
  refine zip_begins2 B1 B2 b1 b2 fun h' hz hTI hTO h1 h2 hsz hk => args_nil ?_
  have S := zsep s1.heap.objs.size la lb
  have I2 : Inv X pins σ H1 { s1 with heap := h' } := I1.kept (t' := s1.toks) hk
  have f1 : s1.heap.objs.size ∉ zl k1 u1 := fun e => absurd (la _ e) (Nat.lt_irrefl _)
  have f2 : s1.heap.objs.size + 1 ∉ zl k2 u2 := fun e => absurd (lb _ e) (Nat.not_lt.mpr (Nat.le_succ _))
  have up1 : zItems k1 u1 its h' := p1.up hk
  have up2 : zItems k2 u2 its2 h' := p22.up hk
  have there : ∀ {k : ZKind} {u : Value} {its : List Value} {it : Addr} {h : Heap}, it ∉ zl k u → (zIter k u it 0 h ∧ zItems k u its h) → ∀ b ∈ (it :: zl k u : List Addr), ∃ o, h.get? b = some o := fun {k u its it h} hne st b hb => by
    rcases List.mem_cons.mp hb with e | hb
    · rw [e]; exact (zDrawsI (prog := X.prog) (w := X.w) (A := X.A) (I2.ok.hd hc) it hne).live 0 h st
    · exact zl_low st.2 b hb
  have P := pairZipG (prog := X.prog) (w := X.w) S (fun A hA => zDrawsI (its := its) hA s1.heap.objs.size f1) (fun A hA => zDrawsI (its := its2) hA (s1.heap.objs.size + 1) f2) (fun h st => there f1 st) (fun h st => there f2 st)
  have hszI : min its.length its2.length ≤ sizeLine := Nat.le_trans (Nat.min_le_left _ _) (by rw [← rv.length]; exact hzl)
  refine PySem.call_dict_pairs (knd := mixKind X.prog X.w) (kvs := prs) (s := { s1 with heap := h' }) P (I2.ok.hd hc) ⟨hz, hTI, ⟨_, _, hTO⟩, ⟨e1 _ _ h1, up1⟩, ⟨e2 _ _ h2, up2⟩, X.A, I2.ok.hd hc⟩ ⟨k2', fun i k v hh => k4 i k v hh.1 hh.2⟩ hszI fun h2' tk hd hk2 => ?_
  have hlen : (mergeK [] (ks.zip ws)).length ≤ sizeLine := by
    refine Nat.le_trans (length_mergeK (ks.zip ws) []) ?_
    rw [List.length_nil, Nat.zero_add]
    have := k1'.length
    rw [this, k2']; exact hszI
  have hm' : (h'.objs.size == sysModules) = false := beq_eq_false_iff_ne.mpr (Nat.ne_of_gt I2.big)
  have hk3 : ∀ c o, s1.heap.get? c = some o → h2'.get? c = some o := fun c o ec => hk2 c o (notNew _ _ (Heap.lt_size ec)) (hk _ _ ec)
  exact ⟨.ref h'.objs.size, upd H1 h'.objs.size (.dK (mergeK [] (ks.zip ws))), I1.laid (t' := tk) hk3 (by rw [hsz]; omega) ⟨hlen, hm', merged [] prs, KV.merge k1' .nil, hd⟩, rfl, q1 _ (I1.hok.fresh (by rw [hsz]; omega))⟩
end
/-! told of data -/
def ZD : ZKind → D → List D → Prop
  | .t, .tup ds, es => es = ds
  | .l, .lst ds, es => es = ds
  | .s, .str x, es => es = x.cps.toList.map fun c => D.str ⟨#[c]⟩
  | _, _, _ => False
theorem ZD.rep {K : PySem.W.Frag} {G : Hp} {k : ZKind} {d : D} {ds : List D} {v : V} (z : ZD k d ds) (r : Rep K G d v) : ∃ vs, (∀ H, Ex G H → ZK K H k v vs) ∧ RepL K G ds vs := by
  cases k with
  | t =>
    cases d with
    | tup es =>
      cases (show ds = es from z)
      obtain ⟨a, vs, rfl, hv, rv⟩ := of_tup r
      exact ⟨vs, fun H e => (hv.mono e).sq, rv⟩
    | _ => exact z.elim
  | l =>
    cases d with
    | lst es =>
      cases (show ds = es from z)
      obtain ⟨a, vs, rfl, hv, rv⟩ := of_lst r
      exact ⟨vs, fun H e => SqL.of (e _ _ hv), rv⟩
    | _ => exact z.elim
  | s =>
    cases d with
    | str x =>
      cases (show ds = x.cps.toList.map _ from z)
      have hv := of_str r
      subst hv
      refine ⟨x.cps.toList.map fun c => V.str ⟨#[c]⟩, fun H e => rfl, ?_⟩
      generalize x.cps.toList = l
      induction l with
      | nil => unfold RepL; rfl
      | cons c l ih => rw [List.map_cons, List.map_cons]; unfold RepL; exact ⟨_, _, rfl, rep_str, ih⟩
    | _ => exact z.elim
section
variable {X : Cx} {e e2 : Expr} {p p2 q pos : Pos} {ρ : Env} {M M1 : Mem} {κ α : Type} [DecidableEq κ] {kf : κ → L2.Key} {vf : α → D} {ks : List κ} {xs : List α}
theorem drel_zip {K : PySem.W.Frag} {G : Hp} : ∀ {ks : List κ} {xs : List α} {va vb : List V}, RepL K G (ks.map fun k => kD (kf k)) va → RepL K G (xs.map vf) vb → va = (ks.map kf).map kV ∧ DRel K G kf vf (ks.zip xs) ((ks.map kf).zip vb)
  | [], xs, va, vb, h1, _ => by unfold RepL at h1; exact ⟨h1, DRel.nil⟩
  | k :: ks, [], va, vb, h1, h2 => by
    unfold RepL at h2; subst h2
    rw [List.map_cons] at h1
    unfold RepL at h1
    obtain ⟨v1, r1, rfl, a1, t1⟩ := h1
    have := rep_key a1; subst this
    obtain ⟨h, _⟩ := drel_zip (xs := ([] : List α)) (vb := []) t1 (by unfold RepL; rfl)
    exact ⟨by rw [h]; rfl, DRel.nil⟩
  | k :: ks, x :: xs, va, vb, h1, h2 => by
    rw [List.map_cons] at h1 h2
    unfold RepL at h1 h2
    obtain ⟨v1, r1, rfl, a1, t1⟩ := h1
    obtain ⟨v2, r2, rfl, a2, t2⟩ := h2
    have := rep_key a1; subst this
    obtain ⟨h, rel⟩ := drel_zip t1 t2
    exact ⟨by rw [h]; rfl, DRel.cons (p := (k, x)) a2 rel⟩
theorem n_dictZipG {d1 d2 : D} {k1 k2 : ZKind} (hc : X.calm = true) (inj : ∀ a b, kf a = kf b → a = b) (ha : XA X [e, e2] ρ M [d1, d2] M1) (z1 : ZD k1 d1 (ks.map fun k => kD (kf k))) (z2 : ZD k2 d2 (xs.map vf)) (n1 : k1 ≠ .s) (n2 : k2 ≠ .s) (hm : X.mg "dict" = none) (hm2 : X.mg "zip" = none) (hg : Gl X "dict" := by rfl) (hg2 : Gl X "zip" := by rfl)
    (hs : starEach [e, e2] X.env = (false, eval e X.env) :: starEach [e2] X.env := by exact star_of rfl) (hpl : (backTo q (starEach [e2] X.env)).any (·.1) = false := by exact nostars rfl)
    (hs2 : starEach [.Call (.Name "zip" p2) [e, e2] [] q] X.env = (false, eval (.Call (.Name "zip" p2) [e, e2] [] q) X.env) :: starEach [] X.env := by exact star_of rfl) :
    XN X (.Call (.Name "dict" p) [.Call (.Name "zip" p2) [e, e2] [] q] [] pos) ρ M (mDK kf vf (dmerge [] (ks.zip xs))) M1 := .mk fun G σ H Q sl w q0 =>
  Sem.of (pe_dictZipG hc hg hm hg2 hm2 pa_sem hs hpl hs2) (ha.run G σ H _ sl w fun vs G1 H1 e1 w1 r1 => by
    obtain ⟨v, u, rfl, h1, h2⟩ := r1.two
    obtain ⟨va, za, ra⟩ := z1.rep h1
    obtain ⟨vb, zb, rb⟩ := z2.rep h2
    obtain ⟨rfl, rel⟩ := drel_zip ra rb
    have rel2 := drel_merge inj (DRel.nil (K := X.K) (G := G1) (kf := kf) (vf := vf)) rel
    exact ⟨v, u, k1, k2, ks.map kf, vb, rfl, n1, n2, za _ w1.ex, zb _ w1.ex, fun l hl => q0 l G1 _ e1 (w1.newO hl ⟨_, upd_same, rel2.k, rel2.v⟩)⟩)
end
end Wk

/-! Wk: dict(zip(a, text)): the values are told as they come. -/
namespace Wk
open PySem PySem.Spec PyProof.Rows L2 Evl
theorem kv_snoc {kvs : List (L2.Key × V)} {prs : List (L2.Key × Value)} {i : Nat} {y : L2.Key} {x : V} {v : Value} (h : KV (kvs.take i) prs) (hi : kvs[i]? = some (y, x)) (r : RelV x v) : KV (kvs.take (i + 1)) (prs ++ [(y, v)]) := by
  rw [List.take_add_one, hi]
  have go : ∀ {a : List (L2.Key × V)} {b : List (L2.Key × Value)}, KV a b → KV (a ++ [(y, x)]) (b ++ [(y, v)]) := by
    intro a
    induction a with
    | nil => intro b hb; cases hb; exact .cons ⟨rfl, r⟩ .nil
    | cons p a ih => intro b hb; cases hb with | cons h1 h2 => exact .cons h1 (ih h2)
  exact go h
section
variable {prog : Program} {w : World} {A : Around} {E : Value → Shared → Prop} {s : Shared} {T : String} {a d : Addr} {fp wr : List Addr} {n : Nat} {Rel : Nat → Value → Value → Prop} {OK : Heap → Prop}
theorem call_dict_rel {knd : KeyKind prog w L2.Key} {kvs : List (L2.Key × V)} {Q : Value → Shared → Prop} (P : PairArg prog w T a fp wr n Rel OK) (hh : A.handled = none) (ok : OK s.heap) (hn : kvs.length = n) (hc : ∀ i key v, Rel i key v → ∃ y x, kvs[i]? = some (y, x) ∧ knd.is y key = true ∧ RelV x v) (hsz : n ≤ sizeLine)
    (h : ∀ h' tk prs, KV kvs prs → h'.DictOf knd s.heap.objs.size (merged [] prs) → (∀ b o, b ∉ wr → s.heap.get? b = some o → h'.get? b = some o) → Q (.ref s.heap.objs.size) { s with heap := h', toks := tk }) :
    wpAny (model prog w) A (call (.type "dict") [.ref a]) Q E s := by
  refine PySem.call_dict_arg P ok fun s₁ hs₁ hdf ok₁ => ?_
  subst hs₁
  refine PySem.updateFrom_arg (A := A.in1) (Tab := fun i h => ∃ prs : List (L2.Key × Value), KV (kvs.take i) prs ∧ h.DictOf knd s.heap.objs.size (merged [] prs)) P .none hh ok₁ hdf ⟨[], .nil, Heap.DictOf.new s.heap⟩ (fun _ _ tb => let ⟨_, _, t⟩ := tb; t.lt_size) (fun i h h' wr' hd _ tb hk => let ⟨prs, k, t⟩ := tb; ⟨prs, k, t.at' fun o e => hk _ o hd e⟩) ?_ ?_
  · intro i key v s' Q E' hi hrel tb _ hQ
    obtain ⟨prs, hk, tb⟩ := tb
    obtain ⟨y, x, hx, his, r⟩ := hc i key v hrel
    refine wpAny_dictSet_pairs (hsz := by
      have h1 := merged_length ([] : List (L2.Key × Value)) prs
      have h2 := hk.length
      rw [List.length_take] at h2
      have h1 : (merged [] prs).length ≤ 0 + prs.length := h1
      omega) his tb fun h' hm' hs => ?_
    refine hQ h' _ ⟨prs ++ [(y, v)], kv_snoc hk hx r, ?_⟩ hs
    have e : merged [] (prs ++ [(y, v)]) = stored (merged [] prs) y v := by simp [merged, List.foldl_append]
    rw [e]; exact hm'
  · intro h' tk tb hk
    obtain ⟨prs, hkv, tb⟩ := tb
    rw [List.take_of_length_le (Nat.le_of_eq hn)] at hkv
    exact ⟨rfl, h h' tk prs hkv tb fun b o hw e => hk b o (Nat.ne_of_lt (Heap.lt_size e)) hw (Heap.get?_push_of_some _ e)⟩
end
section
variable {X : Cx} {e e2 : Expr} {p p2 q pos : Pos} {ta : TA}
theorem ZK.size {X : Cx} {pins : List (Addr × Obj)} {σ : L2.St} {H : Hp} {s : Shared} {k : ZKind} {v : V} {xs : List V} (I : Inv X pins σ H s) (z : ZK X.K H k v xs) (hk : k ≠ .s) : xs.length ≤ sizeLine := by
  cases k with
  | t => cases v with
    | ref a => obtain ⟨its, rv, p, hz⟩ := I.tuple z; exact hz
    | _ => exact z.elim
  | l => cases v with
    | ref a => obtain ⟨its, rv, p, hz⟩ := I.list z; exact hz
    | _ => exact z.elim
  | s => exact absurd rfl hk
theorem zCont.up {k : ZKind} {u : Value} {xs : List V} {h h' : Heap} (z : zCont k u xs h) (hk : ∀ c o, h.get? c = some o → h'.get? c = some o) : zCont k u xs h' := by
  cases k with
  | t => obtain ⟨its, rv, z⟩ := (show ∃ its, Vals xs its ∧ zItems .t u its h from z); exact ⟨its, rv, z.up hk⟩
  | l => obtain ⟨its, rv, z⟩ := (show ∃ its, Vals xs its ∧ zItems .l u its h from z); exact ⟨its, rv, z.up hk⟩
  | s =>
    cases u with
    | str x t => exact z
    | _ => obtain ⟨its, rv, z⟩ := z; exact z.elim
def tDZT (K : PySem.W.Frag) (ta : TA) : TE := fun σ H Q => ta σ H fun vs H1 => ∃ (v1 v2 : V) (k1 k2 : ZKind) (ks : List L2.Key) (ws : List V), vs = [v1, v2] ∧ k1 ≠ .s ∧ ZK K H1 k1 v1 (ks.map kV) ∧ ZK K H1 k2 v2 ws ∧ ∀ p, H1 p = none → Q (.ref p) (upd H1 p (.dK (mergeK [] (ks.zip ws))))
theorem pe_dictZipT (hc : X.calm = true) (hg : Gl X "dict") (hm : X.mg "dict" = none) (hg2 : Gl X "zip") (hm2 : X.mg "zip" = none) (ha : PA X [e, e2] ta)
    (hs : starEach [e, e2] X.env = (false, eval e X.env) :: starEach [e2] X.env) (hpl : (backTo q (starEach [e2] X.env)).any (·.1) = false)
    (hs2 : starEach [.Call (.Name "zip" p2) [e, e2] [] q] X.env = (false, eval (.Call (.Name "zip" p2) [e, e2] [] q) X.env) :: starEach [] X.env) :
    PE X (.Call (.Name "dict" p) [.Call (.Name "zip" p2) [e, e2] [] q] [] pos) (tDZT X.K ta) := by
  refine ⟨fun pins s σ H Q I h => ?_⟩
  refine Call_ (ld_blt I hg hm boot_dict (PyProof.Rows.callWith_type1 (args_cons ?_ hs2) hs2 rfl))
  refine Call_ (ld_blt I hg2 hm2 PyProof.Rows.boot_zip (PyProof.Rows.callWith_type1 (thn (ha.run q pins s σ H _ I h) fun us s1 ⟨vs, H1, I1, r1, q1⟩ => ?_) hs hpl))
  obtain ⟨v1, v2, k1, k2, ks, ws, rfl, n1, hz1, hz2, q1⟩ := q1
  obtain ⟨u1, u2, rfl, r, r'⟩ := vals2 r1
  have p1 := hz1.cont I1 r
  have p22 := hz2.cont I1 r'
  have hzl := hz1.size I1 n1
  obtain ⟨o1, Hh1, B1, b1, e1⟩ := zBegin p1
  obtain ⟨o2, Hh2, B2, b2, e2⟩ := zBegin p22
  have la : ∀ c ∈ zl k1 u1, c < s1.heap.objs.size := fun c hc => let ⟨_, e⟩ := zl_lowC p1 c hc; Heap.lt_size e
  have lb : ∀ c ∈ zl k2 u2, c < s1.heap.objs.size := fun c hc => let ⟨_, e⟩ := zl_lowC p22 c hc; Heap.lt_size e
  refine zip_begins2 B1 B2 b1 b2 fun h' hz hTI hTO h1 h2 hsz hk => args_nil ?_
  have S := zsep s1.heap.objs.size la lb
  have I2 : Inv X pins σ H1 { s1 with heap := h' } := I1.kept (t' := s1.toks) hk
  have f1 : s1.heap.objs.size ∉ zl k1 u1 := fun e => absurd (la _ e) (Nat.lt_irrefl _)
  have f2 : s1.heap.objs.size + 1 ∉ zl k2 u2 := fun e => absurd (lb _ e) (Nat.not_lt.mpr (Nat.le_succ _))
  have there : ∀ {k : ZKind} {u : Value} {xs : List V} {it : Addr} {h : Heap}, it ∉ zl k u → (zIter k u it 0 h ∧ zCont k u xs h) → ∀ b ∈ (it :: zl k u : List Addr), ∃ o, h.get? b = some o := fun {k u xs it h} hne st b hb => by
    rcases List.mem_cons.mp hb with e | hb
    · rw [e]; exact (zDraws (prog := X.prog) (w := X.w) (A := X.A) (I2.ok.hd hc) it hne).live 0 h st
    · exact zl_lowC st.2 b hb
  have P := pairZipG (prog := X.prog) (w := X.w) S (fun A hA => zDraws (xs := ks.map kV) hA s1.heap.objs.size f1) (fun A hA => zDraws (xs := ws) hA (s1.heap.objs.size + 1) f2) (fun h st => there f1 st) (fun h st => there f2 st)
  have hszI : min (ks.map kV).length ws.length ≤ sizeLine := Nat.le_trans (Nat.min_le_left _ _) hzl
  refine call_dict_rel (knd := mixKind X.prog X.w) (kvs := ks.zip ws) (s := { s1 with heap := h' }) P (I2.ok.hd hc) ⟨hz, hTI, ⟨_, _, hTO⟩, ⟨e1 _ _ h1, p1.up hk⟩, ⟨e2 _ _ h2, p22.up hk⟩, X.A, I2.ok.hd hc⟩ (by rw [List.length_zip, List.length_map]) (fun i k v hh => ?_) hszI fun h2' tk prs hkv hd hk2 => ?_
  · obtain ⟨⟨x, hx, rx⟩, y, hy, ry⟩ := hh
    rw [List.getElem?_map] at hx
    obtain ⟨k0, hk0, e0⟩ := Option.map_eq_some_iff.mp hx
    subst e0
    exact ⟨k0, y, List.getElem?_zip_eq_some.mpr ⟨hk0, hy⟩, kV_is (P := X.prog) (w := X.w) rx, ry⟩
  · have hlen : (mergeK [] (ks.zip ws)).length ≤ sizeLine := by
      refine Nat.le_trans (length_mergeK (ks.zip ws) []) ?_
      rw [List.length_nil, Nat.zero_add, List.length_zip]
      rw [List.length_map] at hszI
      exact hszI
    have hm' : (h'.objs.size == sysModules) = false := beq_eq_false_iff_ne.mpr (Nat.ne_of_gt I2.big)
    have hk3 : ∀ c o, s1.heap.get? c = some o → h2'.get? c = some o := fun c o ec => hk2 c o (notNew _ _ (Heap.lt_size ec)) (hk _ _ ec)
    exact ⟨.ref h'.objs.size, upd H1 h'.objs.size (.dK (mergeK [] (ks.zip ws))), I1.laid (t' := tk) hk3 (by rw [hsz]; omega) ⟨hlen, hm', merged [] prs, KV.merge hkv .nil, hd⟩, rfl, q1 _ (I1.hok.fresh (by rw [hsz]; omega))⟩
end
def chars (s : Str) : List Str := s.cps.toList.map fun c => ⟨#[c]⟩
theorem zd_str {s : Str} : ZD .s (.str s) ((chars s).map D.str) := by
  show (chars s).map D.str = s.cps.toList.map fun c => D.str ⟨#[c]⟩
  unfold chars
  rw [List.map_map]; rfl
section
variable {X : Cx} {e e2 : Expr} {p p2 q pos : Pos} {ρ : Env} {M M1 : Mem} {κ α : Type} [DecidableEq κ] {kf : κ → L2.Key} {vf : α → D} {ks : List κ} {xs : List α}
theorem n_dictZipT {d1 d2 : D} {k1 k2 : ZKind} (hc : X.calm = true) (inj : ∀ a b, kf a = kf b → a = b) (ha : XA X [e, e2] ρ M [d1, d2] M1) (z1 : ZD k1 d1 (ks.map fun k => kD (kf k))) (z2 : ZD k2 d2 (xs.map vf)) (n1 : k1 ≠ .s) (hm : X.mg "dict" = none) (hm2 : X.mg "zip" = none) (hg : Gl X "dict" := by rfl) (hg2 : Gl X "zip" := by rfl)
    (hs : starEach [e, e2] X.env = (false, eval e X.env) :: starEach [e2] X.env := by exact star_of rfl) (hpl : (backTo q (starEach [e2] X.env)).any (·.1) = false := by exact nostars rfl)
    (hs2 : starEach [.Call (.Name "zip" p2) [e, e2] [] q] X.env = (false, eval (.Call (.Name "zip" p2) [e, e2] [] q) X.env) :: starEach [] X.env := by exact star_of rfl) :
    XN X (.Call (.Name "dict" p) [.Call (.Name "zip" p2) [e, e2] [] q] [] pos) ρ M (mDK kf vf (dmerge [] (ks.zip xs))) M1 := .mk fun G σ H Q sl w q0 =>
  Sem.of (pe_dictZipT hc hg hm hg2 hm2 pa_sem hs hpl hs2) (ha.run G σ H _ sl w fun vs G1 H1 e1 w1 r1 => by
    obtain ⟨v, u, rfl, h1, h2⟩ := r1.two
    obtain ⟨va, za, ra⟩ := z1.rep h1
    obtain ⟨vb, zb, rb⟩ := z2.rep h2
    obtain ⟨rfl, rel⟩ := drel_zip ra rb
    have rel2 := drel_merge inj (DRel.nil (K := X.K) (G := G1) (kf := kf) (vf := vf)) rel
    exact ⟨v, u, k1, k2, ks.map kf, vb, rfl, n1, za _ w1.ex, zb _ w1.ex, fun l hl => q0 l G1 _ e1 (w1.newO hl ⟨_, upd_same, rel2.k, rel2.v⟩)⟩)
end
end Wk

/-! a comprehension that may leave items out, each turn changing what is owned -/
namespace Wk
open PySem PySem.Spec PyProof.Rows L2 Evl
section
variable {α β S : Type}
def filS (f : S → α → Option (Option β × S)) : S → List α → Option (List β × S)
  | s, [] => some ([], s)
  | s, x :: xs => (f s x).bind fun y => (filS f y.2 xs).bind fun ys => some (y.1.toList ++ ys.1, ys.2)
theorem filS_append {f : S → α → Option (Option β × S)} : ∀ {xs : List α} {x : α} {s : S} {ys : List β} {s1 : S} {y : Option β × S}, filS f s xs = some (ys, s1) → f s1 x = some y → filS f s (xs ++ [x]) = some (ys ++ y.1.toList, y.2)
  | [], x, s, ys, s1, y, h, h2 => by
    cases h
    show (f s x).bind _ = _
    rw [h2]
    show some (y.1.toList ++ [], y.2) = some ([] ++ y.1.toList, y.2)
    rw [List.append_nil]; rfl
  | w :: ws, x, s, ys, s1, y, h, h2 => by
    have h' : ((f s w).bind fun y => (filS f y.2 ws).bind fun ys => some (y.1.toList ++ ys.1, ys.2)) = some (ys, s1) := h
    obtain ⟨z, g1, g2⟩ := Option.bind_eq_some_iff.mp h'
    obtain ⟨zs, g3, g4⟩ := Option.bind_eq_some_iff.mp g2
    cases g4
    show (f s w).bind _ = _
    rw [g1]
    show (filS f z.2 (ws ++ [x])).bind _ = _
    rw [filS_append (ys := zs.1) (s1 := zs.2) g3 h2]
    show some (z.1.toList ++ (zs.1 ++ y.1.toList), y.2) = _
    rw [List.append_assoc]
theorem filS_split {f : S → α → Option (Option β × S)} : ∀ {xs ys : List α} {s : S} {r : List β × S}, filS f s (xs ++ ys) = some r → ∃ r1, filS f s xs = some r1 ∧ ∃ r2, filS f r1.2 ys = some r2
  | [], ys, s, r, h => ⟨([], s), rfl, r, h⟩
  | x :: xs, ys, s, r, h => by
    have h' : ((f s x).bind fun y => (filS f y.2 (xs ++ ys)).bind fun ys => some (y.1.toList ++ ys.1, ys.2)) = some r := h
    obtain ⟨z, g1, g2⟩ := Option.bind_eq_some_iff.mp h'
    obtain ⟨zs, g3, g4⟩ := Option.bind_eq_some_iff.mp g2
    obtain ⟨r1, h1, r2, h2⟩ := filS_split g3
    exact ⟨(z.1.toList ++ r1.1, r1.2), by show (f s x).bind _ = _; rw [g1]; show (filS f z.2 xs).bind _ = _; rw [h1]; rfl, r2, h2⟩
theorem filS_length {f : S → α → Option (Option β × S)} : ∀ {xs : List α} {s : S} {r : List β × S}, filS f s xs = some r → r.1.length ≤ xs.length
  | [], s, r, h => by cases h; exact Nat.le_refl _
  | x :: xs, s, r, h => by
    have h' : ((f s x).bind fun y => (filS f y.2 xs).bind fun ys => some (y.1.toList ++ ys.1, ys.2)) = some r := h
    obtain ⟨z, g1, g2⟩ := Option.bind_eq_some_iff.mp h'
    obtain ⟨zs', g3, g4⟩ := Option.bind_eq_some_iff.mp g2
    have h5 := filS_length g3
    cases g4
    obtain ⟨z1, z2⟩ := z
    cases z1 with
    | none => show zs'.1.length ≤ _; rw [List.length_cons]; omega
    | some z => show (z :: zs'.1).length ≤ _; rw [List.length_cons, List.length_cons]; omega
variable {X : Cx} {ρ : Env} {M : Mem} {xs : List α} {s0 s1 : S}
theorem l_SP {tg iter elt : Expr} {ifs : List Expr} {scope : Scope} {en : α → D} {en2 : β → D} {f : S → α → Option (Option β × S)} {ys : List β} (own : List (Str × Nat)) (Me : S → Mem) (hi : XI X tg iter ρ M (xs.map en) (Me s0)) (hf : filS f s0 xs = some (ys, s1)) (hl : xs.length ≤ sizeLine)
    (turn : ∀ s x y, x ∈ xs → f s x = some y → ∃ ρ2 k M2, InB X scope (fun Y => XG Y tg (en x) (own.map (·.2)) (wipeD ρ (own.map (·.2))) ρ2) ∧ InB X scope (fun Y => ∀ q acc, XTs Y ifs ρ2 ((q, .lst acc) :: Me s) k ((q, .lst acc) :: M2)) ∧
      (k = true → ∃ z, y.1 = some z ∧ InB X scope (fun Y => ∀ q acc, XE Y elt ρ2 ((q, .lst acc) :: M2) (en2 z) ((q, .lst acc) :: Me y.2))) ∧ (k = false → y.1 = none ∧ M2 = Me y.2)) : XL X elt tg iter ifs scope own ρ M (ys.map en2) (Me s1) := by
  refine l_any own hi (fun i acc M' => ∃ us s, filS f s0 (xs.take i) = some (us, s) ∧ acc = us.map en2 ∧ M' = Me s) ⟨[], s0, rfl, rfl, rfl⟩ (fun i d acc M' hd hI => ?_) (fun acc M2 hI => ?_)
  · obtain ⟨x, hx, rfl⟩ := map_at hd
    obtain ⟨us, s, h1, rfl, rfl⟩ := hI
    obtain ⟨h2, h3⟩ := take_drop_at hx
    rw [h3] at hf
    obtain ⟨r1, h4, r2, h5⟩ := filS_split hf
    rw [h1] at h4; cases h4
    obtain ⟨y, h6, _⟩ := Option.bind_eq_some_iff.mp h5
    obtain ⟨ρ2, k, M2, hg, ht, he, hn⟩ := turn s x y (List.mem_of_getElem? hx) h6
    have h7 := filS_append h1 h6
    refine ⟨ρ2, k, M2, hg, fun s H C cl fp q => ht s H C cl fp q _, fun hk => ?_, fun hk => ?_⟩
    · obtain ⟨z, e, hz⟩ := he hk
      rw [e] at h7
      refine ⟨en2 z, Me y.2, fun s H C cl fp q => hz s H C cl fp q _, ?_, us ++ [z], y.2, by rw [h2]; exact h7, by rw [List.map_append]; rfl, rfl⟩
      rw [List.length_map]
      have h8 := filS_length h1
      rw [List.length_take] at h8
      have := (List.getElem?_eq_some_iff.mp hx).1
      have h8 : us.length ≤ min i xs.length := h8
      omega
    · obtain ⟨e, rfl⟩ := hn hk
      rw [e] at h7
      refine ⟨us, y.2, ?_, rfl, rfl⟩
      rw [h2, h7]
      show some (us ++ [], y.2) = some (us, y.2)
      rw [List.append_nil]
  · obtain ⟨us, s, h1, rfl, rfl⟩ := hI
    rw [List.length_map, List.take_length, hf] at h1
    cases h1
    exact ⟨rfl, rfl⟩
end
end Wk

/-! Wk: dicts whose keys are texts or numbers: list(d), list(d.values()). -/
namespace Wk
open PySem PySem.Spec PyProof.Rows L2 Evl
section
variable {X : Cx} {e a b tg iter : Expr} {ρ : Env} {M M1 M2 : Mem} {d : D} {pos p apos cpos : Pos} {q : Addr} {κ α : Type} [DecidableEq κ] {kf : κ → L2.Key} {vf : α → D} {al : List (κ × α)}
theorem keys_rep {K : PySem.W.Frag} {G : Hp} {ef : κ → D} (hd : ∀ x, kD (kf x) = ef x) : ∀ (al : List (κ × α)), RepL K G ((al.map (·.1)).map ef) ((al.map fun p => kf p.1).map kV)
  | [] => RepL.nil
  | y :: al => by
    refine RepL.cons ?_ (keys_rep hd al)
    show Rep K G (ef y.1) (kV (kf y.1))
    rw [← hd]
    cases kf y.1 with
    | inl i => exact rep_int
    | inr s => exact rep_str
theorem n_listK {ef : κ → D} (hd : ∀ x, kD (kf x) = ef x) (hc : X.calm = true) (ha : XA X [a] ρ M [d] M1) (hq : DctD kf vf M1 d al) (hm : X.mg "list" = none) (hg : Gl X "list" := by rfl) (he : starEach [a] X.env = (false, eval a X.env) :: starEach [] X.env := by exact star_of rfl) :
    XN X (.Call (.Name "list" p) [a] [] pos) ρ M (.lst ((al.map (·.1)).map ef)) M1 := XN.callTy (call_list_dK hc) boot_list ha (fun G H vs Q w rs q => by
  obtain ⟨v, rfl, r⟩ := rs.one
  obtain ⟨c, kvs, rfl, hv, rel⟩ := hq.get w r
  refine ⟨c, kvs, rfl, hv, fun l hl => q l G _ (Ex.refl G) (w.newO hl ⟨_, upd_same, ?_⟩)⟩
  have hk : kvs.map (·.1) = al.map fun p => kf p.1 := rel.k
  have e : (kvs.map fun kv => kV kv.1) = (al.map fun p => kf p.1).map kV := by rw [← hk, List.map_map]; rfl
  rw [e]
  exact keys_rep hd al) hm hg (by decide) (by decide) he (by rfl)
theorem pe_valuesK {td : TE} (he : PE X e td) (hbase : attributeBase e "values" X.env (eval e X.env) = eval e X.env := by exact base_of rfl) (hline : (apos.endLine == cpos.line) = true := by rfl) :
    PE X (.Call (.Attribute e "values" apos) [] [] cpos) (fun σ H Q => td σ H fun x H1 => ∃ d kvs, x = .ref d ∧ H1 d = some (.dK kvs) ∧ ∀ p, H1 p = none → Q (.ref p) (upd H1 p (valsO p d))) := by
  refine ⟨fun pins s σ H Q I h => ?_⟩
  refine wpAny_Call_method (T := "dict") (id := "dict.values") hbase rfl hline F.plainAttrs_dict F.slot_dict_values F.type_dict_values (thn (he.run pins s σ H _ I h) fun u s1 ⟨x, H1, I1, rx, d, kvs, ex, hd, q⟩ => ?_)
  subst ex
  obtain rfl : u = Value.ref d := rx
  obtain ⟨z, hs, vs, rel, o, es, ep, ho, hx, hdat, _⟩ := dk_of I1.hok hd
  have t1 : s1.TypeIs (.ref d) "dict" := ⟨o, ho, hx.1⟩
  refine ⟨t1, fun b q => ?_, ?_⟩
  · cases q; exact ⟨o, ho, hx.2.1⟩
  have hf : H1 s1.heap.objs.size = none := I1.hok.fresh (Nat.le_refl _)
  show wpAny _ _ (callWith cpos (.builtin "dict.values") [.ref d] [] []) _ X.xe s1
  refine method_meetsIn F.slot_dict_values F.entry_dict_values rfl (PySem.evalArgs_none ⟨rfl, t1, F.args_dict_values_1 _, _, meets_dict_values_raw d hs, ⟨es, ep, o, ho, hx, hdat⟩, ?_⟩)
  exact ⟨.ref s1.heap.objs.size, upd H1 s1.heap.objs.size (valsO s1.heap.objs.size d), I1.laid (t' := s1.toks) (fun b u e => Heap.get?_push_of_some _ e) (Nat.le_refl _) (valsO_ok (Heap.get?_push_size _ rfl)), rfl, q _ hf⟩
theorem call_list_valsK (hc : X.calm = true) : CallR X (.type "list") (fun xs H Q => ∃ p a kvs, xs = [V.ref p] ∧ H p = some (valsO p a) ∧ H a = some (.dK kvs) ∧ ∀ l, H l = none → Q (.ref l) (upd H l (.lst (kvs.map (·.2))))) := by
  intro pins s σ H xs us Q I r h
  obtain ⟨p, d, kvs, rfl, hp, hd, q⟩ := h
  obtain ⟨u, rfl, rx⟩ := r.one
  cases rx
  obtain ⟨hv, ⟨ov, hov⟩, _⟩ := (show ObjOk X.prog X.w H s.heap p (valsO p d) from I.hok p _ hp)
  obtain ⟨z, hs, ks, pr, o, es, ep, ho, hx, hdt, hko, hpr, hn⟩ := dk_of I.hok hd
  have l1 : es.size = ks.length := by rw [← Array.length_toList, hpr.length]
  have l2 : kvs.length = ks.length := KV.length pr
  refine PySem.W.kdl_call (PySem.KdlSrc.rawValues (es := es) (ep := ep)) (I.ok.hd hc) ⟨hv, o, ho, hx, hdt⟩ (by omega) fun h' tk acc' c' kp e it => ?_
  have ea : acc'.toList = ks.map fun x => x.2 := by
    have hl : acc'.toList.length = ks.length := by rw [Array.length_toList, it.1]; exact l1
    apply List.ext_getElem?
    intro j
    rw [List.getElem?_map]
    cases hj : acc'.toList[j]? with
    | none =>
      have h1 := List.getElem?_eq_none_iff.mp hj
      rw [List.getElem?_eq_none (by omega)]; rfl
    | some v =>
      obtain ⟨hi, hv⟩ := it.2 j v (by rw [← Array.getElem?_toList]; exact hj)
      have hjl : j < ks.length := by omega
      have hen : es.toList[j]? = some es[j] := by rw [Array.getElem?_toList]; exact Array.getElem?_eq_getElem hi
      have := (Pairs.get? hpr hen (k := ks[j].1) (v := ks[j].2) (List.getElem?_eq_getElem hjl)).2
      rw [List.getElem?_eq_getElem hjl, hv, this]; rfl
  have rv : ∀ {kvs : List (L2.Key × V)} {ks : List (L2.Key × Value)}, KV kvs ks → Vals (kvs.map (·.2)) (ks.map fun x => x.2) := by
    intro kvs ks pr
    induction pr with
    | nil => exact .nil
    | cons h t ih => exact .cons h.2 ih
  refine ⟨.ref s.heap.objs.size, _, I.laid (t' := tk) (o := .lst (kvs.map (·.2))) kp (Nat.le_refl _) ?_, rfl, q _ (I.hok.fresh (Nat.le_refl _))⟩
  exact ⟨by rw [List.length_map]; exact z, acc'.toList, c', by rw [ea]; exact rv pr, by rw [Array.toArray_toList]; exact e⟩
/-- list(d.values()) -/
theorem n_listValsK {p2 : Pos} (hc : X.calm = true) (ho : XE X a ρ M d M1) (hq : DctD kf vf M1 d al) (hm : X.mg "list" = none) (hg : Gl X "list" := by rfl)
    (hbase : attributeBase a "values" X.env (eval a X.env) = eval a X.env := by exact base_of rfl) (hline : (apos.endLine == p2.line) = true := by rfl)
    (he : starEach [.Call (.Attribute a "values" apos) [] [] p2] X.env = (false, eval (.Call (.Attribute a "values" apos) [] [] p2) X.env) :: starEach [] X.env := by exact star_of rfl) :
    XN X (.Call (.Name "list" p) [.Call (.Attribute a "values" apos) [] [] p2] [] pos) ρ M (.lst ((al.map (·.2)).map vf)) M1 := .mk fun G σ H Q sl w q0 =>
  Sem.of (pe_callTy (call_list_valsK hc) hg hm boot_list (pa_cons (pe_valuesK pe_sem hbase hline) pa_nil he) (by decide) (by decide) he (by rfl))
    (ho.run G σ H _ sl w fun v G1 H1 e1 w1 r1 => by
      obtain ⟨c, kvs, rfl, hv, rel⟩ := hq.get w1 r1
      refine ⟨c, kvs, rfl, hv, fun pv hpv => ?_⟩
      have ne : c ≠ pv := fun e => by subst e; rw [hpv] at hv; cases hv
      have w2 := w1.newF hpv (valsO pv c)
      have e2 := w1.exF hpv (valsO pv c)
      refine ⟨pv, c, kvs, rfl, upd_same, by rw [upd_ne ne]; exact hv, fun l hl => ?_⟩
      refine q0 l _ _ (e1.trans e2) (w2.newO hl ⟨_, upd_same, ?_⟩)
      have := rel.v.mono e2
      rw [List.map_map]
      exact this)
end
end Wk

/-! Wk: a, b = x, y -/
namespace Wk
open PySem PySem.Spec PyProof.Rows L2 Evl
section
variable {X : Cx} {ρ : Env} {M M1 : Mem} {d1 d2 : D} {pos : Pos} {rest : List Stmt} {Z : Ends} {G0 : Hp}
theorem st_par {x y : Str} {a b : Expr} {px py pt : Pos} {kt k2 : Nat} {pt2 : Pos} (i j : Nat) (ha : XA X [a, b] ρ M [d1, d2] M1) (k : St X rest Z G0 ((ρ.set i (some d1)).set j (some d2)) M1) (hc : X.calm = true) (hN : X.N.Nodup) (hi : X.N[i]? = some x := by rfl) (hj : X.N[j]? = some y := by rfl) (hij : i ≠ j := by decide)
    (hx : X.env.scope.names.lookup x = some .local := by rfl) (hy : X.env.scope.names.lookup y = some .local := by rfl)
    (hw : swappedStores [.Tuple [.Name x px, .Name y py] kt pt] (.Tuple [a, b] k2 pt2) X.env = pure (some [x, y]) := by rfl)
    (hs : swapsWithSole [.Tuple [.Name x px, .Name y py] kt pt] (.Tuple [a, b] k2 pt2) pos.line X.env = pure false := by exact sws_of rfl) :
    St X (.Assign [.Tuple [.Name x px, .Name y py] kt pt] (.Tuple [a, b] k2 pt2) pos :: rest) Z G0 ρ M := St.mk' fun G σ H e0 sl w =>
  cons_of (ps_par hc hN hi hj hij hx hy pa_sem hw hs) (ha.run G σ H _ sl w fun vs G' H' e' w' r' => by
    obtain ⟨v, u, rfl, r1, r2⟩ := r'.two
    exact ⟨v, u, rfl, k.run (e0.trans e') (((sl.mono e').set i r1).set j r2) w'⟩)
end
end Wk

/-! Wk: texts: walked sign by sign, split, str(number), int(text), a sign in a text. -/
namespace Wk
open PySem PySem.Spec PyProof.Rows L2 Evl
section
variable {X : Cx} {e o a b tg iter : Expr} {ρ : Env} {M M1 M2 : Mem} {s t : Str} {i : Int} {pos apos p : Pos}
/-- for sign in s -/
theorem i_str (h : XE X iter ρ M (.str s) M1) : XI X tg iter ρ M ((chars s).map D.str) M1 := .mk fun G σ H R sl w q =>
  SemI.of (pi_str pe_sem) (h.run G σ H _ sl w fun v G' H' e' w' r' => by
    have hlen : ((chars s).map D.str).length = s.cps.size := by unfold chars; rw [List.length_map, List.length_map, Array.length_toList]
    refine ⟨s, of_str r', q _ G' H' e' w' ⟨fun i G2 M2 H2 e2 w2 hi => by rw [hlen] at hi; exact hi, fun i G2 M2 H2 x H3 e2 w2 y d hd => ?_, fun G2 M2 H2 e2 w2 => by rw [hlen]; exact Nat.le_refl _⟩⟩
    obtain ⟨rfl, c, hc, rfl⟩ := y
    have : d = D.str ⟨#[c]⟩ := by
      unfold chars at hd
      rw [List.getElem?_map, List.getElem?_map, Array.getElem?_toList, hc] at hd
      exact (Option.some.inj hd).symm
    subst this
    exact ⟨G2, Ex.refl G2, w2, rep_str⟩)
def psplit (s t : Str) : Option (List Str) := if (t.length == 0) = false ∧ s.length + 2 ≤ sizeLine then some (Txt.split s t) else none
theorem psplit_some {r : List Str} (h : psplit s t = some r) : ((t.length == 0) = false ∧ s.length + 2 ≤ sizeLine) ∧ Txt.split s t = r := by
  unfold psplit at h; split at h
  · cases h; exact ⟨‹_›, rfl⟩
  · cases h
/-- s.split(t) -/
theorem n_split {r : List Str} (ho : XE X o ρ M (.str s) M1) (he : XE X e ρ M1 (.str t) M2) (h : psplit s t = some r) (hs : starEach [e] X.env = [(false, eval e X.env)] := by exact star_one rfl) (hbase : attributeBase o "split" X.env (eval o X.env) = eval o X.env := by exact base_of rfl) (hline : (apos.endLine == pos.line) = true := by rfl) :
    XN X (.Call (.Attribute o "split" apos) [e] [] pos) ρ M (.lst (r.map D.str)) M2 := .mk fun G σ H Q sl w q =>
  Sem.of (pe_split pe_sem pe_sem hs hbase hline) (ho.run G σ H _ sl w fun v G1 H1 e1 w1 r1 => by
    obtain ⟨h1, rfl⟩ := psplit_some h
    refine ⟨⟨s, of_str r1⟩, he.run G1 σ H1 _ (sl.mono e1) w1 fun u G2 H2 e2 w2 r2 => ?_⟩
    refine ⟨s, t, of_str r1, by rw [of_str r2], h1.1, h1.2, fun l hl => q l G2 _ (e1.trans e2) (w2.newO hl ⟨_, upd_same, ?_⟩)⟩
    generalize Txt.split s t = ys
    induction ys with
    | nil => exact RepL.nil
    | cons y ys ih => exact RepL.cons rep_str ih)
def pstrI (i : Int) : Option Str := if i.natAbs.log2 < 1920 then some (Str.ofString (toString i)) else none
def pintS (s : Str) : Option Int := if s.length ≤ 640 then PySem.intText? s else none
theorem pstrI_some {r : Str} (h : pstrI i = some r) : i.natAbs.log2 < 1920 ∧ Str.ofString (toString i) = r := by
  unfold pstrI at h; split at h
  · cases h; exact ⟨‹_›, rfl⟩
  · cases h
theorem pintS_some (h : pintS s = some i) : s.length ≤ 640 ∧ PySem.intText? s = some i := by
  unfold pintS at h; split at h
  · exact ⟨‹_›, h⟩
  · cases h
/-- int(s) -/
theorem x_intSM (ha : XA X [a] ρ M [.str s] M1) (h : pintS s = some i) (hm : X.mg "int" = none) (hg : Gl X "int" := by rfl) (he : starEach [a] X.env = (false, eval a X.env) :: starEach [] X.env := by exact star_of rfl) :
    XE X (.Call (.Name "int" p) [a] [] pos) ρ M (.int i) M1 := XE.callTy call_int_str boot_int ha (fun G H vs Q w rs q => by
  obtain ⟨v, rfl, r⟩ := rs.one
  obtain ⟨h1, h2⟩ := pintS_some h
  exact ⟨s, i, by rw [of_str r], h2, h1, q.use (Ex.refl G) w rep_int⟩) hm hg (by decide) (by decide) he (by rfl)
/-- a sign in a text -/
def pinS (x t : Str) : Option Bool := match x.cps.toList with | [n] => some (decide (n ∈ t.cps.toList)) | _ => none
theorem pinS_some {k : Bool} (h : pinS s t = some k) : ∃ n, s = ⟨#[n]⟩ ∧ decide (n ∈ t.cps.toList) = k := by
  unfold pinS at h
  split at h
  · rename_i n hn
    refine ⟨n, ?_, Option.some.inj h⟩
    cases s with
    | mk cps =>
      have : cps = #[n] := by rw [← Array.toArray_toList (xs := cps)]; exact congrArg List.toArray hn
      rw [this]
  · cases h
theorem c_inSM {k : Bool} (ha : XE X a ρ M (.str s) M1) (hb : XE X b ρ M1 (.str t) M2) (h : pinS s t = some k) : XC X .In a b ρ M (.bl k) M2 := by
  obtain ⟨n, rfl, rfl⟩ := pinS_some h
  exact c_inS ha hb
theorem c_notInSM {k : Bool} (ha : XE X a ρ M (.str s) M1) (hb : XE X b ρ M1 (.str t) M2) (h : pinS s t = some k) : XC X .NotIn a b ρ M (.bl (!k)) M2 := by
  obtain ⟨n, rfl, rfl⟩ := pinS_some h
  exact c_notInS ha hb
end
end Wk

/-! Wk: a op b op c; tuple(d.values()) of text/number keys; str(number). -/
namespace Wk
open PySem PySem.Spec PyProof.Rows L2 Evl
section
variable {X : Cx} {e a b c o tg iter : Expr} {ρ : Env} {M M1 M2 : Mem} {d : D} {pos p apos cpos : Pos} {q : Addr} {i j k : Int} {s : Str} {κ α : Type} [DecidableEq κ] {kf : κ → L2.Key} {vf : α → D} {al : List (κ × α)}
/-- a op b op' c, of numbers; c changes nothing -/
theorem x_chain {op op' : CmpOp} {f g : Int → Int → Bool} (ho : OpR X (compareOp op) (rI0 fun i j => .bl (f i j))) (ho' : OpR X (compareOp op') (rI0 fun i j => .bl (g i j)))
    (ha : XE X a ρ M (.int i) M1) (hb : XE X b ρ M1 (.int j) M2) (hc : XE X c ρ M2 (.int k) M2)
    (hm : lastMarks [op, op'] [b, c] = false := by with_unfolding_all rfl) : XE X (.Compare a [op, op'] [b, c] pos) ρ M (.bl (f i j && g j k)) M2 := .mk fun G σ H Q sl w q =>
  Sem.of (pe_chain ho ho' pe_sem pe_sem pe_sem hm) (ha.run G σ H _ sl w fun x G1 H1 e1 w1 r1 => hb.run G1 σ H1 _ (sl.mono e1) w1 fun y G2 H2 e2 w2 r2 => by
    refine ⟨i, j, of_int r1, of_int r2, f i j, rfl, ?_⟩
    cases hf : f i j with
    | false => exact q _ G2 H2 (e1.trans e2) w2 (by rw [hf, Bool.false_and]; exact rep_bl)
    | true =>
      refine hc.run G2 σ H2 _ (sl.mono (e1.trans e2)) w2 fun z G3 H3 e3 w3 r3 => ?_
      refine ⟨j, k, of_int r2, of_int r3, q _ G3 H3 ((e1.trans e2).trans e3) w3 ?_⟩
      rw [hf, Bool.true_and]; exact rep_bl)
theorem t_chain {op op' : CmpOp} {f g : Int → Int → Bool} (ho : OpR X (compareOp op) (rI0 fun i j => .bl (f i j))) (ho' : OpR X (compareOp op') (rI0 fun i j => .bl (g i j)))
    (ha : XE X a ρ M (.int i) M1) (hb : XE X b ρ M1 (.int j) M2) (hc : XE X c ρ M2 (.int k) M2)
    (hm : lastMarks [op, op'] [b, c] = false := by with_unfolding_all rfl) : XT X (.Compare a [op, op'] [b, c] pos) ρ M (f i j && g j k) M2 := .mk fun G σ H Q sl w q =>
  SemT.of (pt_chain ho ho' pe_sem pe_sem pe_sem hm) (ha.run G σ H _ sl w fun x G1 H1 e1 w1 r1 => hb.run G1 σ H1 _ (sl.mono e1) w1 fun y G2 H2 e2 w2 r2 => by
    refine ⟨i, j, of_int r1, of_int r2, f i j, rfl, ?_⟩
    cases hf : f i j with
    | false =>
      rw [if_neg Bool.false_ne_true]
      refine ⟨false, rfl, ?_⟩
      have := q G2 H2 (e1.trans e2) w2
      rw [hf, Bool.false_and] at this; exact this
    | true =>
      rw [if_pos rfl]
      refine hc.run G2 σ H2 _ (sl.mono (e1.trans e2)) w2 fun z G3 H3 e3 w3 r3 => ?_
      refine ⟨j, k, of_int r2, of_int r3, g j k, rfl, ?_⟩
      have := q G3 H3 ((e1.trans e2).trans e3) w3
      rw [hf, Bool.true_and] at this; exact this)
theorem x_strIO {r : Str} (ha : XA X [a] ρ M [.int i] M1) (h : pstrI i = some r) (hm : X.mg "str" = none) (hg : Gl X "str" := by rfl) (he : starEach [a] X.env = (false, eval a X.env) :: starEach [] X.env := by exact star_of rfl) :
    XE X (.Call (.Name "str" p) [a] [] pos) ρ M (.str r) M1 := by
  obtain ⟨h1, rfl⟩ := pstrI_some h
  exact x_strI ha h1 hm hg he
theorem call_tuple_valsK (hc : X.calm = true) : CallR X (.type "tuple") (fun xs H Q => ∃ p a kvs, xs = [V.ref p] ∧ H p = some (valsO p a) ∧ H a = some (.dK kvs) ∧ NewT H (kvs.map (·.2)) Q) := by
  intro pins s σ H xs us Q I r h
  obtain ⟨p, d, kvs, rfl, hp, hd, q⟩ := h
  obtain ⟨u, rfl, rx⟩ := r.one
  cases rx
  obtain ⟨hv, _, _⟩ := (show ObjOk X.prog X.w H s.heap p (valsO p d) from I.hok p _ hp)
  obtain ⟨z, hs, ks, pr, o, es, ep, ho, hx, hdt, hko, hpr, hn⟩ := dk_of I.hok hd
  have l1 : es.size = ks.length := by rw [← Array.length_toList, hpr.length]
  have l2 : kvs.length = ks.length := KV.length pr
  refine tuple_of_kdl (PySem.KdlSrc.rawValues (es := es) (ep := ep)) (I.ok.hd hc) ⟨hv, o, ho, hx, hdt⟩ (by omega) fun h' tk acc' kp it => ?_
  have ea : acc'.toList = ks.map fun x => x.2 := by
    have hl : acc'.toList.length = ks.length := by rw [Array.length_toList, it.1]; exact l1
    apply List.ext_getElem?
    intro j
    rw [List.getElem?_map]
    cases hj : acc'.toList[j]? with
    | none =>
      have h1 := List.getElem?_eq_none_iff.mp hj
      rw [List.getElem?_eq_none (by omega)]; rfl
    | some v =>
      obtain ⟨hi, hv⟩ := it.2 j v (by rw [← Array.getElem?_toList]; exact hj)
      have hjl : j < ks.length := by omega
      have hen : es.toList[j]? = some es[j] := by rw [Array.getElem?_toList]; exact Array.getElem?_eq_getElem hi
      have := (Pairs.get? hpr hen (k := ks[j].1) (v := ks[j].2) (List.getElem?_eq_getElem hjl)).2
      rw [List.getElem?_eq_getElem hjl, hv, this]; rfl
  have rv : ∀ {kvs : List (L2.Key × V)} {ks : List (L2.Key × Value)}, KV kvs ks → Vals (kvs.map (·.2)) (ks.map fun x => x.2) := by
    intro kvs ks pr
    induction pr with
    | nil => exact .nil
    | cons h t ih => exact .cons h.2 ih
  have I1 : Inv X pins σ H { s with heap := h', toks := tk } := I.kept (t' := tk) kp
  have := new_tup (h' := h') (tk := tk) (s := s) (xs := kvs.map (·.2)) (its := ks.map fun x => x.2) (Q := Q) I1 (rv pr) (by rw [List.length_map]; omega) q
  rw [← ea, Array.toArray_toList] at this
  exact this
/-- tuple(d.values()) -/
theorem x_tupValsK {p2 : Pos} (hc : X.calm = true) (ho : XE X a ρ M d M1) (hq : DctD kf vf M1 d al) (hm : X.mg "tuple" = none) (hg : Gl X "tuple" := by rfl)
    (hbase : attributeBase a "values" X.env (eval a X.env) = eval a X.env := by exact base_of rfl) (hline : (apos.endLine == p2.line) = true := by rfl)
    (he : starEach [.Call (.Attribute a "values" apos) [] [] p2] X.env = (false, eval (.Call (.Attribute a "values" apos) [] [] p2) X.env) :: starEach [] X.env := by exact star_of rfl) :
    XE X (.Call (.Name "tuple" p) [.Call (.Attribute a "values" apos) [] [] p2] [] pos) ρ M (.tup ((al.map (·.2)).map vf)) M1 := .mk fun G σ H Q sl w q0 =>
  Sem.of (pe_callTy (call_tuple_valsK hc) hg hm boot_tuple (pa_cons (pe_valuesK pe_sem hbase hline) pa_nil he) (by decide) (by decide) he (by rfl))
    (ho.run G σ H _ sl w fun v G1 H1 e1 w1 r1 => by
      obtain ⟨c, kvs, rfl, hv, rel⟩ := hq.get w1 r1
      refine ⟨c, kvs, rfl, hv, fun pv hpv => ?_⟩
      have ne : c ≠ pv := fun e => by subst e; rw [hpv] at hv; cases hv
      have w2 := w1.newF hpv (valsO pv c)
      have e2 := w1.exF hpv (valsO pv c)
      refine ⟨pv, c, kvs, rfl, upd_same, by rw [upd_ne ne]; exact hv, fun l o h1 h2 hl => ?_⟩
      exact q0.use ((e1.trans e2).trans (w2.exF hl _)) (w2.newF hl _) (by rw [List.map_map]; exact rep_tup (pt_new h1 h2) ((rel.v.mono e2).mono (w2.exF hl _))))
end
end Wk

/-! Wk: own exceptions: what they are, isinstance, their fields; raising. -/
namespace Wk
open PySem PySem.Spec PyProof.Rows L2 Evl
/-- the program's own exceptions -/
inductive Ec where
  | web (r : Int) | table (r : Int) | name (s : Str) | rest | order | ask
deriving DecidableEq
inductive Nm where
  | web | table | name | rest | order | ask | long | val
deriving DecidableEq
def Ec.nm : Ec → Nm
  | .web _ => .web | .table _ => .table | .name _ => .name | .rest => .rest | .order => .order | .ask => .ask
/-- where their classes stand -/
structure Er where
  web : Addr
  table : Addr
  name : Addr
  rest : Addr
  order : Addr
  ask : Addr
  long : Addr
def Er.at (E : Er) : Nm → Addr
  | .web => E.web | .table => E.table | .name => E.name | .rest => E.rest | .order => E.order | .ask => E.ask | .long => E.long | .val => E.long
def Er.vl (E : Er) : Nm → Value
  | .val => .type "ValueError"
  | n => .ref (E.at n)
def Er.dt (E : Er) : Nm → D
  | .val => .ty "ValueError"
  | n => .adr (E.at n)
def Ec.cls (E : Er) (x : Ec) : Addr := E.at x.nm
def Ec.fs : Ec → List (Str × V)
  | .web r => [("row", .int r)] | .table r => [("row", .int r)] | .name s => [("word", .str s)] | _ => []
def isA (x : Ec) (n : Nm) : Bool := match n with
  | .long => true | .val => true | n => decide (x.nm = n)
abbrev eX (E : Er) (x : Ec) : D := .exc (x.cls E) x.fs
/-- what a def answers that may refuse -/
inductive Rs (α : Type) where
  | tv (a : α) | ex (x : Ec)
/-- what the text says of such a class -/
structure ExCls (K : PySem.W.Frag) (C : Addr) : Prop where
  hcl : (PySem.W.clsIn K C).isSome = true
  hty : PySem.W.typeIn K (.ref C) = some (.type "type")
  hga : PySem.W.findIn K (.ref C) "__getattribute__" = some (some (.builtin "BaseException.__getattribute__"))
  hgt : PySem.W.findIn K (.ref C) "__getattr__" = some none
  hsub : PySem.W.subIn K (.ref C) (.type "BaseException") = some true
  ha : PySem.W.findIn K (.ref C) "__class__" = some (some (.builtin "object.__class__"))
  hm : PySem.W.mroIn K C (.type "object") = some true
  hd : PySem.W.hasDictIn K C = true
  hk : PySem.W.keepIn K (.ref C) = true
  nrow : PySem.W.findIn K (.ref C) "row" = some none
  nword : PySem.W.findIn K (.ref C) "word" = some none
/-- .. of all that may be raised (S), and of those asked for (T) -/
structure ErOk (K : PySem.W.Frag) (E : Er) (S T : List Nm) : Prop where
  st : ∀ n ∈ S, n ∈ T
  cl : ∀ n ∈ S, ExCls K (E.at n)
  ty : ∀ n ∈ T, n ≠ .val → (PySem.W.clsIn K (E.at n)).isSome = true ∧ PySem.W.typeIn K (.ref (E.at n)) = some (.type "type") ∧ PySem.W.subIn K (.ref (E.at n)) (.type "BaseException") = some true ∧ PySem.W.hasDictIn K (E.at n) = true
  sub : ∀ x : Ec, x.nm ∈ S → ∀ n ∈ T, PySem.W.subIn K (.ref (x.cls E)) (E.vl n) = some (isA x n)
  hn : PySem.W.specialIn K (.builtin "object.__class__") "__get__" = some (some (.builtin "getset_descriptor.__get__"))
  htk : PySem.W.takesIn K (.builtin "object.__class__") = some true
theorem isA_self (x : Ec) : isA x x.nm = true := by cases x <;> rfl
theorem ErOk.kit {K : PySem.W.Frag} {E : Er} {S T : List Nm} (h : ErOk K E S T) {x : Ec} (hx : x.nm ∈ S) {n : Nm} (hn : n ∈ T) : PySem.W.kitOne K (.ref (x.cls E)) (E.vl n) = some (isA x n) := by
  have hs := h.sub x hx n hn
  have s1 := h.sub x hx x.nm (h.st _ hx)
  rw [isA_self] at s1
  have nv : x.nm ≠ .val := by cases x <;> (intro hc; cases hc)
  have sv : E.vl x.nm = .ref (x.cls E) := by unfold Ec.cls; cases x <;> rfl
  unfold PySem.W.kitOne
  by_cases hb : (Value.ref (x.cls E) == E.vl n) = true
  · rw [if_pos hb]
    have hb := beq_iff_eq.mp hb
    rw [sv] at s1
    rw [← hb, s1] at hs
    exact hs
  · rw [if_neg hb]
    by_cases hv : n = .val
    · subst hv
      show PySem.W.kitCls K (.ref (x.cls E)) (.type "ValueError") = _
      unfold PySem.W.kitCls
      dsimp only
      rw [if_pos (by decide +kernel)]
      exact hs
    · obtain ⟨h1, h2, _⟩ := h.ty n hn hv
      have e : E.vl n = .ref (E.at n) := by cases n <;> first | rfl | exact absurd rfl hv
      rw [e] at hs ⊢
      unfold PySem.W.kitCls
      dsimp only
      rw [h1, h2]
      exact hs
theorem ErOk.exm {K : PySem.W.Frag} {E : Er} {S T : List Nm} (h : ErOk K E S T) {x : Ec} (hx : x.nm ∈ S) {n : Nm} (hn : n ∈ T) (hv : n ≠ .val) : PySem.W.exmOne K (.ref (x.cls E)) (.ref (E.at n)) = some (isA x n) := by
  have hs := h.sub x hx n hn
  obtain ⟨h1, h2, h3, h4⟩ := h.ty n hn hv
  have e : E.vl n = .ref (E.at n) := by cases n <;> first | rfl | exact absurd rfl hv
  rw [e] at hs
  exact PySem.W.exm_ref h3 h4 h2 hs
theorem ErOk.kitx {K : PySem.W.Frag} {E : Er} {S T : List Nm} (h : ErOk K E S T) {x : Ec} (hx : x.nm ∈ S) {a : Addr} {ox : Obj} {od : Option Obj} : PySem.W.KitX K (.ref a) (.ref (x.cls E)) (fun h => PySem.W.InstAt h a ox (x.cls E) od) :=
  have c := h.cl _ hx
  PySem.W.kitx_exc c.hcl c.hga c.hgt c.hsub c.ha h.hn h.htk c.hm
end Wk

/-! Wk: isinstance of a caught exception, its fields. -/
namespace Wk
open PySem PySem.Spec PyProof.Rows L2 Evl
section
variable {X : Cx} {pins : List (Addr × Obj)} {σ : L2.St} {H : Hp} {s : Shared} {a C : Addr} {d : Option Addr} {E : Er} {S T : List Nm} {x : Ec}
theorem exv_at (I : Inv X pins σ H s) (ha : ExAt H a (.ref C) d) : ∃ (oe : Obj) (vs : Array Value), s.heap.get? a = some oe ∧ Zc (.ref C) d oe ∧ oe.data = .fields vs := by
  rcases ha with ha | ⟨rfl, t, ha⟩
  · have q : ObjOk X.prog X.w H s.heap a (.ext fun h => ∃ (oe : Obj) (vs : Array Value), h.get? a = some oe ∧ Zc (.ref C) d oe ∧ oe.data = .fields vs) := I.hok a _ ha
    exact q.1
  · have q : ObjOk X.prog X.w H s.heap a (.ext fun h => ∃ (oe : Obj) (vs : Array Value), h.get? a = some oe ∧ Zc (.ref C) none oe ∧ oe.data = .fields vs ∧ vs[0]? = some (.ref t)) := I.hok a _ ha
    obtain ⟨oe, vs, h1, h2, h3, _⟩ := q.1
    exact ⟨oe, vs, h1, h2, h3⟩
/-- its dict, if any -/
theorem xd_obj {fs : List (Str × V)} (I : Inv X pins σ H s) (hd : XdAt H d fs) {oe : Obj} {vs : Array Value} (he : s.heap.get? a = some oe) (hz : Zc (.ref C) d oe) (hv : oe.data = .fields vs) : ∃ od, PySem.W.InstAt s.heap a oe C od := by
  have hno : PySem.W.notCls oe = true := by unfold PySem.W.notCls; rw [hv]
  rcases hd with ⟨_, rfl⟩ | ⟨dd, rfl, hx⟩
  · exact ⟨none, he, hz.1, hno, by rw [hz.2]; trivial⟩
  · have hx : ObjOk X.prog X.w H s.heap dd (.xd fs) := I.hok dd _ hx
    obtain ⟨mA, ⟨o, es, ep, ho, _⟩, _⟩ := hx
    exact ⟨some o, he, hz.1, hno, by rw [hz.2]; exact ho⟩
/-- isinstance(e, c), e caught -/
def rIsX (K : PySem.W.Frag) (E : Er) (x : Ec) : List V → Hp → VK → Prop := fun xs H Q => ∃ (a : Addr) (d : Option Addr) (c : V) (cv : Value) (b : Bool), xs = [.ref a, c] ∧ ExAt H a (.ref (x.cls E)) d ∧ XdAt H d x.fs ∧ (∀ u, RelV c u → u = cv) ∧ PySem.W.kitOne K (.ref (x.cls E)) cv = some b ∧ Q (.bl b) H
theorem call_isX (EO : ErOk X.K E S T) (hx : x.nm ∈ S) : CallR X (.builtin "isinstance") (rIsX X.K E x) := by
  intro pins s σ H xs us Q I r h
  obtain ⟨a, d, c, cv, b, rfl, ha, hd, hcv, e, q⟩ := h
  cases r with
  | cons rx rr =>
    cases rr with
    | cons rt rr =>
      cases rr
      cases rx
      have ec := hcv _ rt
      subst ec
      obtain ⟨oe, vs, he, hz, hv⟩ := exv_at I ha
      obtain ⟨od, J⟩ := xd_obj I hd he hz hv
      exact PySem.W.kia_one (EO.kitx hx) I.kIn J e (fun z => nomatch z) fun tk => ⟨.bl b, H, I.kept (t' := tk) fun _ _ z => z, rfl, q⟩
theorem kit_any {K : PySem.W.Frag} (EO : ErOk K E S T) (hx : x.nm ∈ S) : ∀ ns : List Nm, (∀ n ∈ ns, n ∈ T) → PySem.W.kitAny K (.ref (x.cls E)) (ns.map E.vl) = some (ns.any (isA x))
  | [], _ => rfl
  | n :: ns, h => by
    have h1 := EO.kit hx (h n List.mem_cons_self)
    rw [List.map_cons]
    unfold PySem.W.kitAny
    rw [h1, List.any_cons]
    cases isA x n with
    | true => rfl
    | false => exact kit_any EO hx ns fun m hm => h m (List.mem_cons_of_mem _ hm)
/-- the classes of a tuple, as values -/
theorem vals_cls {ns : List Nm} : ∀ {vs : List V} {us : List Value}, vs = ns.map (fun n => match n with | .val => V.ty "ValueError" | n => V.ref (E.at n)) → Vals vs us → us = ns.map E.vl := by
  induction ns with
  | nil => intro vs us e r; subst e; cases r; rfl
  | cons n ns ih =>
    intro vs us e r
    subst e
    cases r with
    | cons r1 r2 =>
      rw [List.map_cons, ih rfl r2]
      congr 1
      cases n <;> exact r1
def Nm.v (E : Er) : Nm → V := fun n => match n with | .val => V.ty "ValueError" | n => V.ref (E.at n)
theorem dt_v {K : PySem.W.Frag} {G : Hp} {n : Nm} {v : V} (h : Rep K G (E.dt n) v) : v = n.v E := by
  cases n <;> first | exact of_adr h | exact of_ty h
theorem dts_v {K : PySem.W.Frag} {G : Hp} : ∀ {ns : List Nm} {vs : List V}, RepL K G (ns.map E.dt) vs → vs = ns.map (Nm.v E)
  | [], _, h => by unfold RepL at h; exact h
  | n :: ns, _, h => by
    rw [List.map_cons] at h
    unfold RepL at h
    obtain ⟨v, r, rfl, a, b⟩ := h
    rw [dt_v a, dts_v b, List.map_cons]
def rIsXT (K : PySem.W.Frag) (E : Er) (x : Ec) (ns : List Nm) : List V → Hp → VK → Prop := fun xs H Q => ∃ (a p : Addr) (d : Option Addr), xs = [.ref a, .ref p] ∧ ExAt H a (.ref (x.cls E)) d ∧ XdAt H d x.fs ∧ PTu H p (ns.map (Nm.v E)) ∧ Q (.bl (ns.any (isA x))) H
theorem call_isXT (EO : ErOk X.K E S T) (hx : x.nm ∈ S) {ns : List Nm} (hns : ∀ n ∈ ns, n ∈ T) : CallR X (.builtin "isinstance") (rIsXT X.K E x ns) := by
  intro pins s σ H xs us Q I r h
  obtain ⟨a, p, d, rfl, ha, hd, hp, q⟩ := h
  obtain ⟨u1, u2, rfl, r1, r2⟩ := r.two
  cases r1
  cases r2
  obtain ⟨oe, vs, he, hz, hv⟩ := exv_at I ha
  obtain ⟨od, J⟩ := xd_obj I hd he hz hv
  obtain ⟨its, rv, ⟨o, ho, hc, n, hdt⟩, _⟩ := I.tuple hp.sq
  have ei := vals_cls (E := E) (ns := ns) rfl rv
  subst ei
  obtain ⟨c, dd, dt, sl⟩ := o
  dsimp only at hc hdt
  subst hc
  subst hdt
  exact PySem.W.kia_tup (EO.kitx hx) I.kIn J ho (kit_any EO hx ns hns) (fun z => nomatch z) fun tk => ⟨.bl (ns.any (isA x)), H, I.kept (t' := tk) fun _ _ z => z, rfl, q⟩
end
section
variable {X : Cx} {ρ : Env} {M M1 M2 : Mem} {E : Er} {S T : List Nm} {x : Ec} {n : Nm} {e c b : Expr} {p pos : Pos} {f : Str} {te : TE}
theorem rel_v {v : V} {u : Value} (h : v = n.v E) (r : RelV v u) : u = E.vl n := by
  subst h
  cases n <;> exact r
theorem x_isX (EO : ErOk X.K E S T) (hx : x.nm ∈ S) (hn : n ∈ T) (ha : XA X [e, c] ρ M [eX E x, E.dt n] M1) (hm : X.mg "isinstance" = none) (hg : Gl X "isinstance" := by rfl)
    (he : starEach [e, c] X.env = (false, eval e X.env) :: starEach [c] X.env := by exact star_of rfl) (hpl : (backTo pos (starEach [c] X.env)).any (·.1) = false := by exact nostars rfl) :
    XE X (.Call (.Name "isinstance" p) [e, c] [] pos) ρ M (.bl (isA x n)) M1 := XE.callB (call_isX EO hx) boot_isinstance ha (fun G H vs Q w rs q => by
  unfold RepL at rs
  obtain ⟨v1, r, rfl, r1, rs⟩ := rs
  unfold RepL at rs
  obtain ⟨v2, r, rfl, r2, rs⟩ := rs
  unfold RepL at rs
  subst rs
  unfold Rep at r1
  obtain ⟨a, d, rfl, hg, hd⟩ := r1
  exact ⟨a, d, v2, E.vl n, _, rfl, hg.mono w.ex, hd.mono w.ex, fun u hu => rel_v (dt_v r2) hu, EO.kit hx hn, q.use (Ex.refl G) w rep_bl⟩) hm hg (by decide) (by decide) he hpl
theorem x_isXT {ns : List Nm} (EO : ErOk X.K E S T) (hx : x.nm ∈ S) (hns : ∀ n ∈ ns, n ∈ T) (ha : XA X [e, c] ρ M [eX E x, .tup (ns.map E.dt)] M1) (hm : X.mg "isinstance" = none) (hg : Gl X "isinstance" := by rfl)
    (he : starEach [e, c] X.env = (false, eval e X.env) :: starEach [c] X.env := by exact star_of rfl) (hpl : (backTo pos (starEach [c] X.env)).any (·.1) = false := by exact nostars rfl) :
    XE X (.Call (.Name "isinstance" p) [e, c] [] pos) ρ M (.bl (ns.any (isA x))) M1 := XE.callB (call_isXT EO hx hns) boot_isinstance ha (fun G H vs Q w rs q => by
  unfold RepL at rs
  obtain ⟨v1, r, rfl, r1, rs⟩ := rs
  unfold RepL at rs
  obtain ⟨v2, r, rfl, r2, rs⟩ := rs
  unfold RepL at rs
  subst rs
  unfold Rep at r1
  obtain ⟨a, d, rfl, hg, hd⟩ := r1
  obtain ⟨p, vs, rfl, hp, rv⟩ := of_tup r2
  rw [dts_v rv] at hp
  exact ⟨a, p, d, rfl, hg.mono w.ex, hd.mono w.ex, hp.mono w.ex, q.use (Ex.refl G) w rep_bl⟩) hm hg (by decide) (by decide) he hpl
/-- a class by its name -/
theorem x_cl {x : Str} (hm : X.mg x = some (.ref (E.at n))) (hv : n ≠ .val := by decide) (hg : Gl X x := by rfl) (hd : (x == ("__debug__" : Str)) = false := by decide) : XE X (.Name x pos) ρ M (E.dt n) M :=
  x_c (v := n.v E) (pe_glob hg hm (by cases n <;> first | exact rfl | exact absurd rfl hv) hd) fun G => by cases n <;> first | exact rep_adr | exact absurd rfl hv
theorem x_clV (hm : X.mg "ValueError" = none) (hg : Gl X "ValueError" := by rfl) : XE X (.Name "ValueError" pos) ρ M (E.dt .val) M := x_ty PyProof.Rows.Boot.«ValueError» hm hg
/-- e.f of a caught exception -/
theorem pe_xv (EO : ErOk X.K E S T) (hx : x.nm ∈ S) (hno : PySem.W.findIn X.K (.ref (x.cls E)) f = some none) (he : PE X e te) (hb : attributeBase e f X.env (eval e X.env) = eval e X.env) :
    PE X (.Attribute e f pos) (fun σ H Q => te σ H fun y H1 => ∃ a d v, y = .ref a ∧ ExAt H1 a (.ref (x.cls E)) d ∧ XdAt H1 d x.fs ∧ x.fs.lookup f = some v ∧ Q v H1) := by
  refine ⟨fun pins s σ H Q I h => ?_⟩
  refine attr_of hb (thn (he.run pins s σ H _ I h) fun u s1 hh => ?_)
  obtain ⟨y, H1, I1, rx, a, d, v, ey, ha, hd, l, q⟩ := hh
  subst ey
  obtain rfl : u = Value.ref a := rx
  obtain ⟨oe, vs, he, hz, hv⟩ := exv_at I1 ha
  rcases hd with ⟨hf, _⟩ | ⟨dd, rfl, hdd⟩
  · rw [hf] at l; cases l
  have hx' : ObjOk X.prog X.w H1 s1.heap dd (.xd x.fs) := I1.hok dd _ hdd
  obtain ⟨mA, hns, hr⟩ := hx'
  obtain ⟨od, ho, hl⟩ := lookIn_ns hns
  obtain ⟨u, hu, ru⟩ := RelO.some_of (v := v) (o := mA f) (by rw [← l]; exact hr f)
  have J : PySem.W.InstAt s1.heap a oe (x.cls E) (some od) := ⟨he, hz.1, by unfold PySem.W.notCls; rw [hv] <;> rfl, by rw [hz.2]; exact ho⟩
  have c := EO.cl _ hx
  exact HandSPX.exc_get I1.kIn J c.hga c.hgt c.hsub (PySem.W.findObj_own c.hd hno rfl (by rw [hl, hu])) (handed_of ru) ⟨v, H1, I1.tok _, ru, q⟩
def Ec.row? : Ec → Option Int
  | .web r => some r | .table r => some r | _ => none
def Ec.word? : Ec → Option Str
  | .name s => some s | _ => none
theorem row_at {r : Int} (h : x.row? = some r) : x.fs.lookup ("row" : Str) = some (V.int r) := by
  cases x <;> first | (cases h; rfl) | (cases h)
theorem word_at {r : Str} (h : x.word? = some r) : x.fs.lookup ("word" : Str) = some (V.str r) := by
  cases x <;> first | (cases h; rfl) | (cases h)
theorem x_row {r : Int} (EO : ErOk X.K E S T) (hx : x.nm ∈ S) (he : XE X e ρ M (eX E x) M1) (h : x.row? = some r) (hb : attributeBase e "row" X.env (eval e X.env) = eval e X.env := by exact base_of rfl) : XE X (.Attribute e "row" pos) ρ M (.int r) M1 := .mk fun G σ H Q sl w q =>
  Sem.of (pe_xv EO hx (EO.cl _ hx).nrow pe_sem hb) (he.run G σ H _ sl w fun v G1 H1 e1 w1 r1 => by
    unfold Rep at r1
    obtain ⟨a, d, rfl, hg, hd⟩ := r1
    exact ⟨a, d, .int r, rfl, hg.mono w1.ex, hd.mono w1.ex, row_at h, q.use e1 w1 rep_int⟩)
theorem x_word {r : Str} (EO : ErOk X.K E S T) (hx : x.nm ∈ S) (he : XE X e ρ M (eX E x) M1) (h : x.word? = some r) (hb : attributeBase e "word" X.env (eval e X.env) = eval e X.env := by exact base_of rfl) : XE X (.Attribute e "word" pos) ρ M (.str r) M1 := .mk fun G σ H Q sl w q =>
  Sem.of (pe_xv EO hx (EO.cl _ hx).nword pe_sem hb) (he.run G σ H _ sl w fun v G1 H1 e1 w1 r1 => by
    unfold Rep at r1
    obtain ⟨a, d, rfl, hg, hd⟩ := r1
    exact ⟨a, d, .str r, rfl, hg.mono w1.ex, hd.mono w1.ex, word_at h, q.use e1 w1 rep_str⟩)
/-! the same of the exception that a suite handles: a, at pin (a, oe), d its dict, known to be x -/
structure Sut (X : Cx) (E : Er) (x : Ec) (a : Addr) (oe : Obj) (d : Option Addr) : Prop where
  z : Zc (.ref (x.cls E)) d oe
  f : ∃ vs, oe.data = .fields vs
variable {a : Addr} {oe : Obj} {d : Option Addr} {pn : List (Addr × Obj)}
theorem sut_inst {pins : List (Addr × Obj)} {σ : L2.St} {H : Hp} {s : Shared} (U : Sut X E x a oe d) (I : Inv (X.suite a ((a, oe) :: pn)) pins σ H s) (hd : XdAt H d x.fs) : ∃ od, PySem.W.InstAt s.heap a oe (x.cls E) od := by
  obtain ⟨hget, _⟩ := I.pin (a, oe) (List.mem_append_left _ List.mem_cons_self)
  obtain ⟨vs, hv⟩ := U.f
  exact xd_obj I hd hget U.z hv
theorem call_isS (EO : ErOk X.K E S T) (hx : x.nm ∈ S) (U : Sut X E x a oe d) : CallR (X.suite a ((a, oe) :: pn)) (.builtin "isinstance") (fun xs H Q => ∃ c cv b, xs = [.ref a, c] ∧ XdAt H d x.fs ∧ (∀ u, RelV c u → u = cv) ∧ PySem.W.kitOne X.K (.ref (x.cls E)) cv = some b ∧ Q (.bl b) H) := by
  intro pins s σ H xs us Q I r h
  obtain ⟨c, cv, b, rfl, hd, hcv, e, q⟩ := h
  obtain ⟨u1, u2, rfl, r1, r2⟩ := r.two
  cases r1
  have ec := hcv _ r2
  subst ec
  obtain ⟨od, J⟩ := sut_inst U I hd
  exact PySem.W.kia_one (EO.kitx hx) I.kIn J e (fun z => nomatch z) fun tk => ⟨.bl b, H, I.kept (t' := tk) fun _ _ z => z, rfl, q⟩
theorem call_isST (EO : ErOk X.K E S T) (hx : x.nm ∈ S) (U : Sut X E x a oe d) {ns : List Nm} (hns : ∀ n ∈ ns, n ∈ T) : CallR (X.suite a ((a, oe) :: pn)) (.builtin "isinstance") (fun xs H Q => ∃ p, xs = [.ref a, .ref p] ∧ XdAt H d x.fs ∧ PTu H p (ns.map (Nm.v E)) ∧ Q (.bl (ns.any (isA x))) H) := by
  intro pins s σ H xs us Q I r h
  obtain ⟨p, rfl, hd, hp, q⟩ := h
  obtain ⟨u1, u2, rfl, r1, r2⟩ := r.two
  cases r1
  cases r2
  obtain ⟨od, J⟩ := sut_inst U I hd
  obtain ⟨its, rv, ⟨o, ho, hc, n, hdt⟩, _⟩ := I.tuple hp.sq
  have ei := vals_cls (E := E) (ns := ns) rfl rv
  subst ei
  obtain ⟨c, dd, dt, sl⟩ := o
  dsimp only at hc hdt
  subst hc
  subst hdt
  exact PySem.W.kia_tup (EO.kitx hx) I.kIn J ho (kit_any EO hx ns hns) (fun z => nomatch z) fun tk => ⟨.bl (ns.any (isA x)), H, I.kept (t' := tk) fun _ _ z => z, rfl, q⟩
theorem x_isS (EO : ErOk X.K E S T) (hx : x.nm ∈ S) (U : Sut X E x a oe d) (hn : n ∈ T) (ha : XA (X.suite a ((a, oe) :: pn)) [e, c] ρ M [.exs a d x.fs, E.dt n] M1) (hm : X.mg "isinstance" = none) (hg : Gl (X.suite a ((a, oe) :: pn)) "isinstance" := by rfl)
    (he : starEach [e, c] X.env = (false, eval e X.env) :: starEach [c] X.env := by exact star_of rfl) (hpl : (backTo pos (starEach [c] X.env)).any (·.1) = false := by exact nostars rfl) :
    XE (X.suite a ((a, oe) :: pn)) (.Call (.Name "isinstance" p) [e, c] [] pos) ρ M (.bl (isA x n)) M1 := XE.callB (call_isS EO hx U) boot_isinstance ha (fun G H vs Q w rs q => by
  obtain ⟨v1, v2, rfl, r1, r2⟩ := rs.two
  unfold Rep at r1
  obtain ⟨rfl, hd⟩ := r1
  exact ⟨v2, E.vl n, _, rfl, hd.mono w.ex, fun u hu => rel_v (dt_v r2) hu, EO.kit hx hn, q.use (Ex.refl G) w rep_bl⟩) hm hg (by decide) (by decide) he hpl
theorem x_isST {ns : List Nm} (EO : ErOk X.K E S T) (hx : x.nm ∈ S) (U : Sut X E x a oe d) (hns : ∀ n ∈ ns, n ∈ T) (ha : XA (X.suite a ((a, oe) :: pn)) [e, c] ρ M [.exs a d x.fs, .tup (ns.map E.dt)] M1) (hm : X.mg "isinstance" = none) (hg : Gl (X.suite a ((a, oe) :: pn)) "isinstance" := by rfl)
    (he : starEach [e, c] X.env = (false, eval e X.env) :: starEach [c] X.env := by exact star_of rfl) (hpl : (backTo pos (starEach [c] X.env)).any (·.1) = false := by exact nostars rfl) :
    XE (X.suite a ((a, oe) :: pn)) (.Call (.Name "isinstance" p) [e, c] [] pos) ρ M (.bl (ns.any (isA x))) M1 := XE.callB (call_isST EO hx U hns) boot_isinstance ha (fun G H vs Q w rs q => by
  obtain ⟨v1, v2, rfl, r1, r2⟩ := rs.two
  unfold Rep at r1
  obtain ⟨rfl, hd⟩ := r1
  obtain ⟨p, vs, rfl, hp, rv⟩ := of_tup r2
  rw [dts_v rv] at hp
  exact ⟨p, rfl, hd.mono w.ex, hp.mono w.ex, q.use (Ex.refl G) w rep_bl⟩) hm hg (by decide) (by decide) he hpl
theorem pe_xs (EO : ErOk X.K E S T) (hx : x.nm ∈ S) (U : Sut X E x a oe d) (hno : PySem.W.findIn X.K (.ref (x.cls E)) f = some none) (he : PE (X.suite a ((a, oe) :: pn)) e te) (hb : attributeBase e f X.env (eval e X.env) = eval e X.env) :
    PE (X.suite a ((a, oe) :: pn)) (.Attribute e f pos) (fun σ H Q => te σ H fun y H1 => ∃ v, y = .ref a ∧ XdAt H1 d x.fs ∧ x.fs.lookup f = some v ∧ Q v H1) := by
  refine ⟨fun pins s σ H Q I h => ?_⟩
  refine attr_of hb (thn (he.run pins s σ H _ I h) fun u s1 hh => ?_)
  obtain ⟨y, H1, I1, rx, v, ey, hd, l, q⟩ := hh
  subst ey
  obtain rfl : u = Value.ref a := rx
  obtain ⟨hget, _⟩ := I1.pin (a, oe) (List.mem_append_left _ List.mem_cons_self)
  obtain ⟨vs, hv⟩ := U.f
  rcases hd with ⟨hf, _⟩ | ⟨dd, rfl, hdd⟩
  · rw [hf] at l; cases l
  have hx' : ObjOk X.prog X.w H1 s1.heap dd (.xd x.fs) := I1.hok dd _ hdd
  obtain ⟨mA, hns, hr⟩ := hx'
  obtain ⟨od, ho, hl⟩ := lookIn_ns hns
  obtain ⟨u, hu, ru⟩ := RelO.some_of (v := v) (o := mA f) (by rw [← l]; exact hr f)
  have J : PySem.W.InstAt s1.heap a oe (x.cls E) (some od) := ⟨hget, U.z.1, by unfold PySem.W.notCls; rw [hv] <;> rfl, by rw [U.z.2]; exact ho⟩
  have c := EO.cl _ hx
  exact HandSPX.exc_get I1.kIn J c.hga c.hgt c.hsub (PySem.W.findObj_own c.hd hno rfl (by rw [hl, hu])) (handed_of ru) ⟨v, H1, I1.tok _, ru, q⟩
theorem x_rowS {r : Int} (EO : ErOk X.K E S T) (hx : x.nm ∈ S) (U : Sut X E x a oe d) (he : XE (X.suite a ((a, oe) :: pn)) e ρ M (.exs a d x.fs) M1) (h : x.row? = some r) (hb : attributeBase e "row" X.env (eval e X.env) = eval e X.env := by exact base_of rfl) : XE (X.suite a ((a, oe) :: pn)) (.Attribute e "row" pos) ρ M (.int r) M1 := .mk fun G σ H Q sl w q =>
  Sem.of (pe_xs EO hx U (EO.cl _ hx).nrow pe_sem hb) (he.run G σ H _ sl w fun v G1 H1 e1 w1 r1 => by
    unfold Rep at r1
    obtain ⟨rfl, hd⟩ := r1
    exact ⟨.int r, rfl, hd.mono w1.ex, row_at h, q.use e1 w1 rep_int⟩)
theorem x_wordS {r : Str} (EO : ErOk X.K E S T) (hx : x.nm ∈ S) (U : Sut X E x a oe d) (he : XE (X.suite a ((a, oe) :: pn)) e ρ M (.exs a d x.fs) M1) (h : x.word? = some r) (hb : attributeBase e "word" X.env (eval e X.env) = eval e X.env := by exact base_of rfl) : XE (X.suite a ((a, oe) :: pn)) (.Attribute e "word" pos) ρ M (.str r) M1 := .mk fun G σ H Q sl w q =>
  Sem.of (pe_xs EO hx U (EO.cl _ hx).nword pe_sem hb) (he.run G σ H _ sl w fun v G1 H1 e1 w1 r1 => by
    unfold Rep at r1
    obtain ⟨rfl, hd⟩ := r1
    exact ⟨.str r, rfl, hd.mono w1.ex, word_at h, q.use e1 w1 rep_str⟩)
end
end Wk

/-! Wk: defs that may refuse; what refuses in an expression, in a statement. -/
namespace Wk
open PySem PySem.Spec PyProof.Rows L2 Evl
/-- e refuses with x -/
structure XX (X : Cx) (E : Er) (e : Expr) (ρ : Env) (M : Mem) (x : Ec) (M' : Mem) : Prop where
  run : ∀ (G : Hp) (σ : L2.St) (H : Hp) (Q : VK) (W : WX), Takes X W → Sl X.K G ρ σ → Wd X.K G M H → (∀ d G' H', Ex G G' → Wd X.K G' M' H' → XdAt G' d x.fs → W (.ref (x.cls E)) d σ H') → Sem X e σ H Q
structure XXA (X : Cx) (E : Er) (es : List Expr) (ρ : Env) (M : Mem) (x : Ec) (M' : Mem) : Prop where
  run : ∀ (G : Hp) (σ : L2.St) (H : Hp) (Q : List V → Hp → Prop) (W : WX), Takes X W → Sl X.K G ρ σ → Wd X.K G M H → (∀ d G' H', Ex G G' → Wd X.K G' M' H' → XdAt G' d x.fs → W (.ref (x.cls E)) d σ H') → SemA X es σ H Q
/-- a def that makes of ds and what it is lent, Mc, the value d and Mc', or refuses and leaves Mc' -/
def spX (K : PySem.W.Frag) (E : Er) (R : List D → Mem → Rs D → Mem → Prop) : Sp := fun vs H Q Ek => ∃ G F ds Mc r Mc', RepL K G ds vs ∧ Wd K G (Mc ++ F) H ∧ R ds Mc r Mc' ∧
  (∀ d, r = .tv d → ∀ v G' H', Ex G G' → Wd K G' (Mc' ++ F) H' → Rep K G' d v → Q v H') ∧ (∀ x, r = .ex x → ∀ d G' H', Ex G G' → Wd K G' (Mc' ++ F) H' → XdAt G' d x.fs → Ek (.ref (x.cls E)) d H')
section
variable {P : Program} {w : World} {K : PySem.W.Frag} {mg : Str → Option Value} {base : Heap} {E : Er}
abbrev cxX (P : Program) (w : World) (K : PySem.W.Frag) (mg : Str → Option Value) (base : Heap) (N : List Str) (qual : Str) (sc : Scope) (f : Addr) (cdv : Value) (A : Around) (outer : List PySem.Env) (s : Shared) (H : Hp) (Ek : XK) : Cx :=
  cxOf (L2.CX P w) P w K mg base N qual sc f cdv A outer s H Ek
theorem fn_okX {x qual : Str} {st : Stmt} {f : Addr} {fd : FuncData} {N ps : List Str} {k : Nat} {R : List D → Mem → Rs D → Mem → Prop} (F : Fun K x qual st f fd) (S : FnScope N ps (defScope st)) (hl : ∀ ds Mc r Mc', R ds Mc r Mc' → ds.length = ps.length)
    (body : ∀ (cdv : Value) (A : Around) (outer : List PySem.Env) (s : Shared) (H0 : Hp) (Ek : XK), Room k (A.deeper (envOfC qual (defScope st) s.heap.objs.size f cdv)) → ∀ (G0 : Hp) (F : Mem) ds Mc r Mc' (Q : VK), R ds Mc r Mc' →
      (∀ d, r = .tv d → ∀ v G' H', Ex G0 G' → Wd K G' (Mc' ++ F) H' → Rep K G' d v → Q v H') → (∀ x, r = .ex x → ∀ d G' H', Ex G0 G' → Wd K G' (Mc' ++ F) H' → XdAt G' d x.fs → Ek (.ref (x.cls E)) d H') →
      Takes (cxX P w K mg base N qual (defScope st) f cdv A outer s H0 Ek) (fun cls d _ H => Ek cls d H) → PassesOwn (model P w) (cxX P w K mg base N qual (defScope st) f cdv A outer s H0 Ek).A (cxX P w K mg base N qual (defScope st) f cdv A outer s H0 Ek).env (cxX P w K mg base N qual (defScope st) f cdv A outer s H0 Ek).xe →
      St (cxX P w K mg base N qual (defScope st) f cdv A outer s H0 Ek) (defBody st) { nx := fun _ H' => Q .non H', rt := Q } G0 (startD N ds) (Mc ++ F)) :
    FnOk P w K mg base (L2.CX P w) (k + 1) f fd ps (spX K E R) := by
  refine F.okX S (fun vs H Q Ek h => ?_) (fun cdv A outer s H vs Q Ek hr h => ?_)
  · obtain ⟨G, F, ds, Mc, d, Mc', r, _, hR, _⟩ := h
    rw [r.length, hl ds Mc d Mc' hR]
  · obtain ⟨G, F, ds, Mc, r, Mc', rl, wd, hR, q1, q2⟩ := h
    exact ⟨_, pss_sem, (body cdv A outer s H Ek hr G F ds Mc r Mc' Q hR q1 q2 (takes_of rfl rfl rfl rfl) (passes_of rfl)).run (Ex.refl G) (sl_start rl) wd⟩
end
/-- such a def that stands -/
structure DefX (P : Program) (w : World) (K : PySem.W.Frag) (mg : Str → Option Value) (base : Heap) (E : Er) (k : Nat) (x : Str) (ps : List Str) (R : List D → Mem → Rs D → Mem → Prop) : Prop where
  ex : ∃ f fd, FnOk P w K mg base (L2.CX P w) k f fd ps (spX K E R) ∧ mg x = some (.ref f) ∧ PySem.W.keepIn K (.ref f) = true ∧ Binds K fd ps []
structure MDefX (P : Program) (w : World) (K : PySem.W.Frag) (mg : Str → Option Value) (base : Heap) (E : Er) (k : Nat) (C : Addr) (m : Str) (ps : List Str) (R : List D → Mem → Rs D → Mem → Prop) : Prop where
  ex : ∃ f fd, FnOk P w K mg base (L2.CX P w) k f fd ps (spX K E R) ∧ Meth K C m f ∧ Binds K fd ps [] ∧ Cls K C
section
variable {X : Cx} {E : Er} {ρ : Env} {M M1 : Mem} {d : D} {ds ds0 : List D} {k k' : Nat} {ps : List Str} {x m : Str} {p pos apos : Pos} {e o : Expr} {es : List Expr} {R : List D → Mem → Rs D → Mem → Prop} {xc : Ec} {q C : Addr} {fs : List Str}
/-- it answers -/
theorem x_callX (F : DefX X.prog X.w X.K X.mg X.base E k x ps R) (hr : Room k' X.A) (hk : k ≤ k')
    (pre Mc post : Mem) {Mc' : Mem} (ha : XA X (e :: es) ρ M ds (pre ++ (Mc ++ post))) (hR : R ds Mc (.tv d) Mc')
    (hg : Gl X x := by rfl) (hdb : (x == ("__debug__" : Str)) = false := by decide) (he : starEach (e :: es) X.env = (false, eval e X.env) :: starEach es X.env := by exact star_of rfl) (hpl : (backTo pos (starEach es X.env)).any (·.1) = false := by exact nostars rfl) :
    XE X (.Call (.Name x p) (e :: es) [] pos) ρ M d (pre ++ (Mc' ++ post)) := .mk fun G σ H Q sl w q => by
  obtain ⟨f, fd, h1, h2, h3, h4⟩ := F.ex
  refine Sem.of (pe_call (E := E0) h1 (hr.mono hk) hg h2 h3 h4 .nil passL pa_sem hdb he hpl) (ha.run G σ H _ sl w fun vs G1 H1 e1 w1 r1 => ?_)
  show spX X.K E R (vs ++ []) H1 Q E0
  rw [List.append_nil]
  refine ⟨G1, pre ++ post, ds, Mc, .tv d, Mc', r1, w1.perm (pm_perm pre post Mc), hR, fun d' ed v G' H' e' w' r' => ?_, fun x ex => by cases ex⟩
  cases ed
  exact q.use (e1.trans e') (w'.perm (pm_perm pre post Mc').symm) r'
/-- it refuses -/
theorem xr_call (F : DefX X.prog X.w X.K X.mg X.base E k x ps R) (hr : Room k' X.A) (hk : k ≤ k')
    (pre Mc post : Mem) {Mc' : Mem} (ha : XA X (e :: es) ρ M ds (pre ++ (Mc ++ post))) (hR : R ds Mc (.ex xc) Mc')
    (hg : Gl X x := by rfl) (hdb : (x == ("__debug__" : Str)) = false := by decide) (he : starEach (e :: es) X.env = (false, eval e X.env) :: starEach es X.env := by exact star_of rfl) (hpl : (backTo pos (starEach es X.env)).any (·.1) = false := by exact nostars rfl) :
    XX X E (.Call (.Name x p) (e :: es) [] pos) ρ M xc (pre ++ (Mc' ++ post)) := .mk fun G σ H Q W tk sl w q => by
  obtain ⟨f, fd, h1, h2, h3, h4⟩ := F.ex
  refine Sem.of (pe_callS h1 (hr.mono hk) hg h2 h3 h4 (fun σ => passAt tk σ) pa_sem hdb he hpl) (ha.run G σ H _ sl w fun vs G1 H1 e1 w1 r1 => ?_)
  refine ⟨G1, pre ++ post, ds, Mc, .ex xc, Mc', r1, w1.perm (pm_perm pre post Mc), hR, (fun d' ed => by cases ed), fun x ex d G' H' e' w' hx => ?_⟩
  cases ex
  exact q d G' H' (e1.trans e') (w'.perm (pm_perm pre post Mc').symm) hx
def tMethS (C : Addr) (m : Str) (sp : Sp) (E : L2.St → XK) (ta : TE) (t : TA) : TE := fun σ H Q => ta σ H fun x H1 => ∃ a dx fs, x = .ref a ∧ H1 a = some (.ins C dx fs) ∧ fs.lookup m = none ∧ t σ H1 fun vs H2 => sp (x :: vs) H2 Q (E σ)
theorem pe_methE {CX : CXT} {k : Nat} {f C : Addr} {fd : FuncData} {ps : List Str} {sp : Sp} {E : L2.St → XK} {m : Str} {pos apos : Pos} {e o : Expr} {es : List Expr} {ta : TE} {t : TA} {pl : PySem.Sem Bool} (he : PE X o ta) (c : Cls X.K C) (hm : Meth X.K C m f) (F : FnOk X.prog X.w X.K X.mg X.base CX k f fd ps sp) (hr : Room k X.A) (hb : Binds X.K fd ps []) (hx : ∀ σ, PassesAt CX X σ (E σ)) (ha : PA X (e :: es) t)
    (hst : starEach (e :: es) X.env = (false, eval e X.env) :: starEach es X.env) (hpl : (backTo pos (starEach es X.env)).any (·.1) = false)
    (ht : eval (.Call (.Attribute o m apos) (e :: es) [] pos) X.env = (do
      let ov ← eval o X.env
      standAt apos.atName
      let (f, first) ← holding [ov] (getMethod ov m pl)
      callWith pos f first (backTo pos (starEach (e :: es) X.env)) (backToKw pos (keywordEach [] X.env)))) :
    PE X (.Call (.Attribute o m apos) (e :: es) [] pos) (tMethS C m sp E ta t) := by
  refine ⟨fun pins s σ H Q I h => ?_⟩
  refine PySem.W.methodCall_KW (pl := pl) (thn (he.run pins s σ H _ I h) fun u s1 ⟨x, H1, I1, rx, a, dx, fs, ex, ea, l, q⟩ => ?_) ht
  subst ex
  obtain rfl : u = Value.ref a := rx
  refine getmeth_ok I1 ea c hm l ?_
  refine PySem.W.callWith_K (first := [.ref a]) (h₀ := X.base) I.ok.mod.kin hm.kp (thn (ha.run pos pins s1 σ H1 _ I1 q) fun us s2 ⟨vs, H2, I2, r, q2⟩ => ⟨I2.kIn, ?_⟩) hst hpl
  exact run_fnS (us := .ref a :: us) (vs := .ref a :: vs) F hr hb (hx σ) I2 (.cons rfl r) q2
/-- o.m(e, ..), o owned: it answers -/
theorem x_methX {pl : PySem.Sem Bool} (F : MDefX X.prog X.w X.K X.mg X.base E k C m ps R) (hr : Room k' X.A) (hk : k ≤ k') (kk : Nat) (ho : XE X o ρ M (.adr q) M1) (ho1 : M1[kk]? = some (q, .ins C fs ds0)) (hm : m ∉ fs)
    (pre Mc post : Mem) {Mc' : Mem} (ha : XA X (e :: es) ρ M1 ds (pre ++ (Mc ++ post))) (hR : R (.adr q :: ds) Mc (.tv d) Mc')
    (hst : starEach (e :: es) X.env = (false, eval e X.env) :: starEach es X.env := by exact star_of rfl) (hpl : (backTo pos (starEach es X.env)).any (·.1) = false := by exact nostars rfl)
    (ht : eval (.Call (.Attribute o m apos) (e :: es) [] pos) X.env = (do
      let ov ← eval o X.env
      standAt apos.atName
      let (f, first) ← holding [ov] (getMethod ov m pl)
      callWith pos f first (backTo pos (starEach (e :: es) X.env)) (backToKw pos (keywordEach [] X.env))) := by rfl) :
    XE X (.Call (.Attribute o m apos) (e :: es) [] pos) ρ M d (pre ++ (Mc' ++ post)) := .mk fun G σ H Q sl w q0 => by
  obtain ⟨f, fd, h1, h2, h3, h4⟩ := F.ex
  refine Sem.of (pe_meth (E := E0) pe_sem h4 h2 h1 (hr.mono hk) h3 .nil passL pa_sem hst hpl ht) (ho.run G σ H _ sl w fun v G1 H1 e1 w1 r1 => ?_)
  obtain ⟨dx, kvs, hv, hfs, rv⟩ := (w1.at ho1).2
  refine ⟨q, dx, kvs, of_adr r1, hv, lookup_none (by rw [hfs]; exact hm), ha.run G1 σ H1 _ (sl.mono e1) w1 fun vs G2 H2 e2 w2 r2 => ?_⟩
  rw [List.append_nil]
  refine ⟨G2, pre ++ post, _, Mc, .tv d, Mc', RepL.cons (r1.mono e2) r2, w2.perm (pm_perm pre post Mc), hR, fun d' ed v G' H' e' w' r' => ?_, fun x ex => by cases ex⟩
  cases ed
  exact q0.use ((e1.trans e2).trans e') (w'.perm (pm_perm pre post Mc').symm) r'
/-- .. it refuses -/
theorem xr_meth {pl : PySem.Sem Bool} (F : MDefX X.prog X.w X.K X.mg X.base E k C m ps R) (hr : Room k' X.A) (hk : k ≤ k') (kk : Nat) (ho : XE X o ρ M (.adr q) M1) (ho1 : M1[kk]? = some (q, .ins C fs ds0)) (hm : m ∉ fs)
    (pre Mc post : Mem) {Mc' : Mem} (ha : XA X (e :: es) ρ M1 ds (pre ++ (Mc ++ post))) (hR : R (.adr q :: ds) Mc (.ex xc) Mc')
    (hst : starEach (e :: es) X.env = (false, eval e X.env) :: starEach es X.env := by exact star_of rfl) (hpl : (backTo pos (starEach es X.env)).any (·.1) = false := by exact nostars rfl)
    (ht : eval (.Call (.Attribute o m apos) (e :: es) [] pos) X.env = (do
      let ov ← eval o X.env
      standAt apos.atName
      let (f, first) ← holding [ov] (getMethod ov m pl)
      callWith pos f first (backTo pos (starEach (e :: es) X.env)) (backToKw pos (keywordEach [] X.env))) := by rfl) :
    XX X E (.Call (.Attribute o m apos) (e :: es) [] pos) ρ M xc (pre ++ (Mc' ++ post)) := .mk fun G σ H Q W tk sl w q0 => by
  obtain ⟨f, fd, h1, h2, h3, h4⟩ := F.ex
  refine Sem.of (pe_methE pe_sem h4 h2 h1 (hr.mono hk) h3 (fun σ => passAt tk σ) pa_sem hst hpl ht) (ho.run G σ H _ sl w fun v G1 H1 e1 w1 r1 => ?_)
  obtain ⟨dx, kvs, hv, hfs, rv⟩ := (w1.at ho1).2
  refine ⟨q, dx, kvs, of_adr r1, hv, lookup_none (by rw [hfs]; exact hm), ha.run G1 σ H1 _ (sl.mono e1) w1 fun vs G2 H2 e2 w2 r2 => ?_⟩
  refine ⟨G2, pre ++ post, _, Mc, .ex xc, Mc', RepL.cons (r1.mono e2) r2, w2.perm (pm_perm pre post Mc), hR, (fun d' ed => by cases ed), fun x ex d G' H' e' w' hx => ?_⟩
  cases ex
  exact q0 d G' H' ((e1.trans e2).trans e') (w'.perm (pm_perm pre post Mc').symm) hx
/-! where it stands in an expression -/
theorem xra_head (h : XX X E e ρ M xc M1) (hs : starEach (e :: es) X.env = (false, eval e X.env) :: starEach es X.env := by exact star_of rfl) : XXA X E (e :: es) ρ M xc M1 := .mk fun G σ H Q W tk sl w q =>
  SemA.of (pa_cons pe_sem pa_sem hs) (h.run G σ H _ W tk sl w q)
theorem xra_cons {M2 : Mem} (ha : XE X e ρ M d M1) (h : XXA X E es ρ M1 xc M2) (hs : starEach (e :: es) X.env = (false, eval e X.env) :: starEach es X.env := by exact star_of rfl) : XXA X E (e :: es) ρ M xc M2 := .mk fun G σ H Q W tk sl w q =>
  SemA.of (pa_cons pe_sem pa_sem hs) (ha.run G σ H _ sl w fun v G1 H1 e1 w1 r1 => h.run G1 σ H1 _ W tk (sl.mono e1) w1 fun d G' H' e' w' x => q d G' H' (e1.trans e') w' x)
theorem xr_lst (h : XXA X E es ρ M xc M1) : XX X E (.List es pos) ρ M xc M1 := .mk fun G σ H Q W tk sl w q =>
  Sem.of (pe_lst pa_sem) (h.run G σ H _ W tk sl w q)
theorem xr_tup {j} (h : XXA X E es ρ M xc M1) : XX X E (.Tuple es j pos) ρ M xc M1 := .mk fun G σ H Q W tk sl w q =>
  Sem.of (pe_tup pa_sem) (h.run G σ H _ W tk sl w q)
/-- a def that does not refuse, of an argument that does -/
theorem xr_callA {R : List D → Mem → D → Mem → Prop} (F : Def X.prog X.w X.K X.mg X.base k x ps R) (hr : Room k' X.A) (hk : k ≤ k') (h : XXA X E (e :: es) ρ M xc M1)
    (hg : Gl X x := by rfl) (hdb : (x == ("__debug__" : Str)) = false := by decide) (he : starEach (e :: es) X.env = (false, eval e X.env) :: starEach es X.env := by exact star_of rfl) (hpl : (backTo pos (starEach es X.env)).any (·.1) = false := by exact nostars rfl) :
    XX X E (.Call (.Name x p) (e :: es) [] pos) ρ M xc M1 := .mk fun G σ H Q W tk sl w q => by
  obtain ⟨f, fd, h1, h2, h3, h4⟩ := F.ex
  exact Sem.of (pe_call (E := E0) h1 (hr.mono hk) hg h2 h3 h4 .nil pass0 pa_sem hdb he hpl) (h.run G σ H _ W tk sl w q)
end
/-! statements -/
section
variable {X : Cx} {E : Er} {rest : List Stmt} {ρ : Env} {M M1 M2 : Mem} {e o : Expr} {es : List Expr} {xc : Ec} {Z : Ends} {G0 : Hp} {W : WX} {pos pos' p p2 : Pos} {d : D}
/-- what is wished of a refusal, at these names and things -/
def Wsh (K : PySem.W.Frag) (E : Er) (W : WX) (xc : Ec) (G0 : Hp) (ρ : Env) (M : Mem) : Prop := ∀ d σ G H, Ex G0 G → Sl K G ρ σ → Wd K G M H → XdAt G d xc.fs → W (.ref (xc.cls E)) d σ H
theorem st_exprR (h : XX X E e ρ M xc M1) (tk : Takes X W) (q : Wsh X.K E W xc G0 ρ M1) (hs : swapsWith e none pos.line X.env = pure false := by exact sw_of rfl) : St X (.Expr e pos :: rest) Z G0 ρ M := St.mk' fun G σ H e0 sl w =>
  cons_of (ps_expr pe_sem hs) (h.run G σ H _ W tk sl w fun d G' H' e' w' x => q d σ G' H' (e0.trans e') (sl.mono e') w' x)
theorem st_retR (h : XX X E e ρ M xc M1) (tk : Takes X W) (q : Wsh X.K E W xc G0 ρ M1) : St X (.Return (some e) pos :: rest) Z G0 ρ M := St.mk' fun G σ H e0 sl w =>
  cons_of (ps_ret pe_sem) (h.run G σ H _ W tk sl w fun d G' H' e' w' x => q d σ G' H' (e0.trans e') (sl.mono e') w' x)
theorem st_asgR {x : Str} (i : Nat) (h : XX X E e ρ M xc M1) (tk : Takes X W) (q : Wsh X.K E W xc G0 ρ M1) (hN : X.N.Nodup) (hi : X.N[i]? = some x := by rfl) (hx : Loc X.env.scope x := by first | exact Or.inl rfl | exact Or.inr rfl)
    (hs : swapsWith e (some (.Name x pos')) pos.line X.env = pure false := by first | exact sw_of rfl | rfl) (hf : X.fn x = true ∨ X.env.scope.names.lookup x = some .local := by first | exact .inl rfl | exact .inr rfl) :
    St X (.Assign [.Name x pos'] e pos :: rest) Z G0 ρ M := St.mk' fun G σ H e0 sl w =>
  cons_of (ps_set hN hi hx pe_sem hs hf) (h.run G σ H _ W tk sl w fun d G' H' e' w' x => q d σ G' H' (e0.trans e') (sl.mono e') w' x)
theorem st_asgGR {tg : Expr} (h : XX X E e ρ M xc M1) (tk : Takes X W) (q : Wsh X.K E W xc G0 ρ M1) (hs : swapsWithSole [tg] e pos.line X.env = pure false := by exact sws_of rfl) (hw : swappedStores [tg] e X.env = pure none := by first | exact sst_of1 rfl rfl | exact sst_of rfl | rfl)
    (h1 : (assignEach [tg] X.env).map (·.2) = [assign tg X.env] := by exact asg_one rfl) : St X (.Assign [tg] e pos :: rest) Z G0 ρ M := St.mk' fun G σ H e0 sl w =>
  cons_of (ps_asg pe_sem pg_sem hs hw h1) (h.run G σ H _ W tk sl w fun d G' H' e' w' x => q d σ G' H' (e0.trans e') (sl.mono e') w' x)
theorem st_fldR {f : Str} (h : XX X E e ρ M xc M1) (tk : Takes X W) (q : Wsh X.K E W xc G0 ρ M1) (hs : swapsWith e (some (.Attribute o f pos')) pos.line X.env = pure false := by first | exact sw_of rfl | rfl) : St X (.Assign [.Attribute o f pos'] e pos :: rest) Z G0 ρ M := St.mk' fun G σ H e0 sl w =>
  cons_of (ps_fld pe_sem pe_sem hs) (h.run G σ H _ W tk sl w fun d G' H' e' w' x => q d σ G' H' (e0.trans e') (sl.mono e') w' x)
/-- what the text says of a class that is made of a text, and raised -/
structure RzT (K : PySem.W.Frag) (mg : Str → Option Value) (x : Str) (C : Addr) : Prop where
  ex : PySem.W.excIn K C [.type "ValueError", .type "Exception", .type "BaseException", .type "object"] "ValueError.__new__" = true
  g : mg x = some (.ref C)
  k : PySem.W.keepIn K (.ref C) = true
  b : PySem.W.subIn K (.ref C) (.type "BaseException") = some true
  t : PySem.W.typeIn K (.ref C) = some (.type "type")
theorem st_raiseT {x m : Str} {j} {p3 : Pos} (T : RzT X.K X.mg x (xc.cls E)) (hc : X.calm = true) (tk : Takes X W) (hf : xc.fs = []) (q : Wsh X.K E W xc G0 ρ M) (hg : Gl X x := by rfl) (hdb : (x == ("__debug__" : Str)) = false := by decide) :
    St X (.Raise (some (.Call (.Name x p) [.Constant (.str m) j p2] [] p3)) none pos :: rest) Z G0 ρ M := St.mk' fun G σ H e0 sl w =>
  cons_of (ps_raise hc tk (pmk_own PySem.F.excBase_ValueError T.ex T.g T.k (raises_own T.b T.t) hg hdb)) (q none σ G H e0 sl w (.inl ⟨hf, rfl⟩))
/-- an __init__ that keeps its argument as f -/
def spI (K : PySem.W.Frag) (f : Str) (P : V → Prop) : Sp := fun vs H Q _ => ∃ (a C : Addr) (v : V), vs = [.ref a, v] ∧ P v ∧ OexC K C ∧ PySem.W.findIn K (.ref C) f = some none ∧ H a = some (exo a C none) ∧
  ∀ dx, H dx = none → dx ≠ a → Q .non (upd (upd H dx (exd dx [(f, v)])) a (exo a C (some dx)))
/-- a class that is made by such a one, and raised -/
structure RzI (P : Program) (w : World) (K : PySem.W.Frag) (mg : Str → Option Value) (base : Heap) (x : Str) (C : Addr) (f : Str) (Pv : V → Prop) (ps : List Str) : Prop where
  T : OexC K C
  nf : PySem.W.findIn K (.ref C) f = some none
  ex : ∃ fI fd, PySem.W.findIn K (.ref C) "__init__" = some (some (.ref fI)) ∧ PySem.W.typeIn K (.ref fI) = some (.type "function") ∧ FnOk P w K mg base CX0 1 fI fd ps (spI K f Pv) ∧ Binds K fd ps []
  g : mg x = some (.ref C)
theorem upd_del {H H2 : Hp} {a d : Addr} {o u : HO} {v : HO} (hn : H a = none) (hd : d ≠ a) : upd (L2.del (upd (upd (upd H a o) d u) a o) a) d v = upd H d v := by
  funext b
  by_cases hb : b = d
  · rw [hb, upd_same, upd_same]
  · rw [upd_ne hb, upd_ne hb]
    by_cases ha : b = a
    · rw [ha, L2.del_same, hn]
    · rw [L2.del_ne ha, upd_ne ha, upd_ne hb, upd_ne ha]
theorem st_raiseI {x f : Str} {v : V} {Pv : V → Prop} {ps : List Str} {k' : Nat} {p3 : Pos} (T : RzI X.prog X.w X.K X.mg X.base x (xc.cls E) f Pv ps) (hr : Room k' X.A) (hk : 2 ≤ k') (hc : X.calm = true) (tk : Takes X W) (ha : XA X (e :: es) ρ M [d] M1)
    (hv : ∀ G u, Rep X.K G d u → u = v) (hok : Pv v) (hf : xc.fs = [(f, v)]) (q : Wsh X.K E W xc G0 ρ M1)
    (hg : Gl X x := by rfl) (hdb : (x == ("__debug__" : Str)) = false := by decide) (he : starEach (e :: es) X.env = (false, eval e X.env) :: starEach es X.env := by exact star_of rfl) (hpl : (backTo p3 (starEach es X.env)).any (·.1) = false := by exact nostars rfl) :
    St X (.Raise (some (.Call (.Name x p) (e :: es) [] p3)) none pos :: rest) Z G0 ρ M := St.mk' fun G σ H e0 sl w => by
  obtain ⟨fI, fd, iC, tI, F1, hb⟩ := T.ex
  refine cons_of (ps_raise hc tk (pmk_oex (dvs := []) T.T iC tI F1 (hr.mono hk) hb .nil pass0 hg T.g pa_sem hdb he hpl)) (ha.run G σ H _ sl w fun vs G1 H1 e1 w1 r1 => ?_)
  obtain ⟨u, rfl, ru⟩ := r1.one
  have eu := hv G1 u ru
  subst eu
  refine ⟨by show 1 ≤ 1000; decide, fun a hn => ?_⟩
  refine ⟨a, xc.cls E, u, rfl, hok, T.T, T.nf, upd_same, fun dx hdx hne => ⟨rfl, dx, [(f, u)], upd_same, by rw [upd_ne hne, upd_same], ?_, ?_⟩⟩
  · rw [upd_ne hne] at hdx; exact hdx
  · have hdx1 : H1 dx = none := by rw [upd_ne hne] at hdx; exact hdx
    have eh : upd (L2.del (upd (upd (upd H1 a (exo a (xc.cls E) none)) dx (exd dx [(f, u)])) a (exo a (xc.cls E) (some dx))) a) dx (.xd [(f, u)]) = upd H1 dx (.xd [(f, u)]) := by
      funext b
      by_cases hb : b = dx
      · rw [hb, upd_same, upd_same]
      · rw [upd_ne hb, upd_ne hb]
        by_cases ha : b = a
        · rw [ha, L2.del_same, hn]
        · rw [L2.del_ne ha, upd_ne ha, upd_ne hb, upd_ne ha]
    show W (.ref (xc.cls E)) (some dx) σ (upd (L2.del (upd (upd (upd H1 a (exo a (xc.cls E) none)) dx (exd dx [(f, u)])) a (exo a (xc.cls E) (some dx))) a) dx (.xd [(f, u)]))
    rw [eh]
    have e2 := w1.exF hdx1 (.xd [(f, u)])
    exact q (some dx) σ _ _ ((e0.trans e1).trans e2) (sl.mono (e1.trans e2)) (w1.newF hdx1 _) (.inr ⟨dx, rfl, by rw [hf]; exact upd_same⟩)
end
end Wk

/-! Wk: try .. except X as e, where the exception may be kept behind the suite. -/
namespace Wk
open PySem PySem.Spec PyProof.Rows L2 Evl
section
variable {X : Cx} {pins : List (Addr × Obj)} {σ : L2.St} {H : Hp} {s : Shared}
/-- an object that came behind the entry, not tracked yet, is tracked from now on -/
theorem inv_track (I : Inv X pins σ H s) {a : Addr} {o : HO} (h0 : X.s_0.heap.get? a = none) (hH : H a = none) (hp : ∀ p ∈ X.pn ++ pins, p.1 ≠ a) (hl : X.env.locals ≠ a) (hc : ∀ x c, X.env.cells.lookup x = some c → c ≠ a)
    (new : ObjOk X.prog X.w (upd H a o) s.heap a o) : Inv X pins σ (upd H a o) s where
  ok := I.ok
  os := I.os
  bare := I.bare
  base := ⟨I.base.keep, I.base.slot, fun b u q n hx => by
      have ne : b ≠ a := fun z => by rw [z, h0] at q; cases q
      rw [upd_ne ne]; exact I.base.free b u q n hx, I.base.there,
    fun b xs q => by
      have q2 := I.base.tups b xs q
      rw [upd_ne (fun z => by rw [z, hH] at q2; cases q2)]; exact q2,
    fun b u v q => by
      have q2 := I.base.frzs b u v q
      rw [upd_ne (fun z => by rw [z, hH] at q2; cases q2)]; exact q2,
    fun b ps q => by
      obtain ⟨m, q2⟩ := I.base.tbls b ps q
      exact ⟨m, by rw [upd_ne (fun z => by rw [z, hH] at q2; cases q2)]; exact q2⟩⟩
  loc := I.loc
  cell := I.cell
  free := by rw [upd_ne hl]; exact I.free
  freeC := fun x c e => by rw [upd_ne (hc x c e)]; exact I.freeC x c e
  pin := fun p h => by
    obtain ⟨q1, q2, q3⟩ := I.pin p h
    exact ⟨q1, by rw [upd_ne (hp p h)]; exact q2, q3⟩
  hok := fun b u e => by
    by_cases hb : b = a
    · subst hb
      rw [upd_same] at e
      cases e
      exact new
    · rw [upd_ne hb] at e
      exact (I.hok b u e).stay (fun c v _ q => q) (fun c q => by rw [upd_ne (fun z => by rw [z, hH] at q; cases q)]; exact q) fun c xs q => by rw [upd_ne (fun z => by rw [z, hH] at q; cases q)]; exact q
  len := I.len
theorem exV_ok {P : Program} {w : World} {h : Heap} {a : Addr} {cls : Value} {d : Option Addr} {oe : Obj} {vs : Array Value} (he : h.get? a = some oe) (hz : Zc cls d oe) (hd : oe.data = .fields vs) : ObjOk P w H h a (exV a cls d) :=
  ⟨⟨oe, vs, he, hz, hd⟩, ⟨oe, he⟩, fun h1 h2 ⟨o, v, q, r⟩ k => ⟨o, v, k o q, r⟩⟩
/-- a suite's end, back to the frame with the exception still pinned -/
theorem inv_trS {a : Addr} {oe : Obj} {pn : List (Addr × Obj)} {pins' : List (Addr × Obj)} {xe : Value → Shared → Prop} (I : Inv (X.suite a ((a, oe) :: pn)) pins' σ H s) (ok : X.Ok) : Inv (X.tr ((a, oe) :: pn) xe) [] σ H s :=
  ⟨ok.toTry _ _, I.os, I.bare, I.base, I.loc, I.cell, I.free, I.freeC, fun p hp => I.pin p (List.mem_append_left _ (by rw [List.append_nil] at hp; exact hp)), I.hok, I.len⟩
theorem inv_untr {q : Addr × Obj} {xe : Value → Shared → Prop} (I : Inv (X.tr (q :: (X.pn ++ pins)) xe) [] σ H s) (ok : X.Ok) : Inv X pins σ H s :=
  ⟨ok, I.os, I.bare, I.base, I.loc, I.cell, I.free, I.freeC, fun p hp => I.pin p (List.mem_append_left _ (List.mem_cons_of_mem _ hp)), I.hok, I.len⟩
end
/-- the ends of a suite that handles a: behind it the exception is tracked -/
def sutE (D : Ends) (i : Nat) (a : Addr) (cls : Value) (d : Option Addr) : Ends :=
  { nx := fun σ' H' => H' a = none → D.nx (σ'.set i none) (upd H' a (exV a cls d)), rt := D.rt, bk := fun σ' H' => D.bk (σ'.set i none) H', ct := fun σ' H' => D.ct (σ'.set i none) H' }
/-- what the clause 'except x as n' wishes, the suite read by SemSs -/
def wAsT (X : Cx) (c : Value) (i : Nat) (suite : List Stmt) (Wout : WX) (D : Ends) : WX := fun cls d σ H =>
  ∃ b, PySem.W.exmOne X.K cls c = some b ∧ (b = true → ∀ a oe pn, H a = none → Zc cls d oe → (∃ vs, oe.data = .fields vs) → SemSs (X.suite a ((a, oe) :: pn)) suite (sutE D i a cls d) (σ.set i (some (.ref a))) H) ∧
    (b = false → Wout cls d σ H)
section
variable {X : Cx} {x n : Str} {c : Value} {i : Nat} {body suite : List Stmt} {b₀ : Stmt} {np pos pos' : Pos} {tb : WX → TS} {Wout : WX}
theorem ps_try_asT (hs : X.stack = X.env :: X.outer) (hf : X.env.frame = some X.env.locals) (hex : X.ex = []) (hN : X.N.Nodup) (hi : X.N[i]? = some n) (hln : X.env.kindOf n = some .local) (hc : Names X x c) (tk : Takes X Wout)
    (hb : ∀ (W : WX) (pn : List (Addr × Obj)) (xe : Value → Shared → Prop), Takes (X.tr pn xe) W → PassesOwn (model X.prog X.w) X.A X.env xe → PSs (X.tr pn xe) body (tb W)) :
    PS X (.Try body [.ExceptHandler (some (.Name x np)) (some n) (b₀ :: suite) pos'] [] [] pos) (fun D σ H => tb (wAsT X c i (b₀ :: suite) Wout D) D σ H) := by
  refine ⟨fun pins s σ H D I h => ?_⟩
  have ok := I.ok
  have hfr : X.A.frames = some (X.env :: X.outer) := by rw [ok.frames, hs]
  have hloc : Loc X.env.scope n := .inl hln
  refine wpAny_Try_except ?_
  refine wpAny_mono ((hb (wAsT X c i (b₀ :: suite) Wout D) (X.pn ++ pins) (fun e s₁ => wpAny (model X.prog X.w) X.A (noteFrame e X.env) (fun _ s₂ => wpAny (model X.prog X.w) X.A (setFlight e none) (fun _ s₃ =>
    wpAny (model X.prog X.w) X.A (handleBy e X.env [.ExceptHandler (some (.Name x np)) (some n) (b₀ :: suite) pos']) (SP X pins D) X.xe s₃) X.xe s₂) X.xe s₁) (fun u s' xx => ?_) PassesOwn.looking).run [] s σ H D (I.toTry _) h) (fun f s1 hsp => ?_) (fun e s1 he => he)
  · -- the catch
    obtain ⟨a, B, sI, pins', σ', H', cls, d, rfl, J', nb, up, sky, na, os, ag, b, hb1, hyes, hno⟩ := xx
    have J : Inv X pins σ' H' sI := J'.ofTry ok
    have sky' : Sky B (X.env :: X.outer) a (Zc cls d) X.env.locals s'.heap := by rw [← hs]; exact sky
    show wpAny (model X.prog X.w) X.A (noteFrame (.ref a) X.env) _ _ _
    refine Sky.land Zc.steady hfr hf sky' fun h3 fl3 up3 => ?_
    have J3 : Inv X pins σ' H' { s' with heap := h3 } := J.landed nb fl3.1 (up.trans up3) os ag
    obtain ⟨oe3, vs3, he3, hz3, hd3⟩ := fl3.there
    have notFr : ∀ {h : Heap} {o : Obj} {vs : Array Value}, h.FunFrames B (X.env :: X.outer) → h.get? a = some o → o.data = .fields vs → a ∉ frs (X.env :: X.outer) := fun {h o vs} ff e dd hm => by
      obtain ⟨_, o', e', hnf⟩ := ff.mem hm
      rw [e] at e'; cases e'
      exact hnf _ dd
    have nfr := notFr fl3.2.2.1 he3 hd3
    have nL : a ≠ X.env.locals := fun z => nfr (List.mem_filterMap.mpr ⟨X.env, List.mem_cons_self, by rw [hf, z]⟩)
    have nF : a ∉ X.fs := fun hm => by
      obtain ⟨e, he, q⟩ := List.mem_filterMap.mp hm
      exact nfr (List.mem_filterMap.mpr ⟨e, List.mem_cons_of_mem _ he, q⟩)
    have nS : a ∉ frs X.stack := by rw [hs]; exact nfr
    -- a did not stand ahead of it
    have sIn : sI.heap.get? a = none := by
      cases e : sI.heap.get? a with
      | none => rfl
      | some o =>
        have q := nb a o e nS
        rw [fl3.2.1] at q; cases q
    have S3 := J3.suite he3 hd3 na nL nF
    refine wpAny_handleBy_cons (codeAny_handlers_test ?_) (by intro q; cases q)
    have LT : PySem.W.Looks (model X.prog X.w) h3 (typeOf (.ref a)) cls := fun A Q E s k q => wpAny_typeOf_ref (k _ _ he3) (by rw [hz3.1]; exact q)
    have LM := PySem.W.exm_one (M := model X.prog X.w) (J3.kIn) LT hb1
    have test : ∀ {Q : Value → Shared → Prop} {E : Value → Shared → Prop}, Q c { s' with heap := h3 } → wpAny (model X.prog X.w) (X.A.mark (some (.ref a))) (eval (.Name x np) X.env) Q E { s' with heap := h3 } := fun {Q E} q => by
      obtain ⟨hg, hdbg, hm | ⟨hm, hv, hnn⟩⟩ := hc
      · exact ld_glob (X := X.suite a ((a, oe3) :: (X.pn ++ pins))) S3 hg hm q hdbg
      · exact ld_blt (X := X.suite a ((a, oe3) :: (X.pn ++ pins))) S3 hg hm hv q hnn hdbg
    refine test (LM.here ?_)
    cases b with
    | true =>
      refine codeAny_handlers_suite_as ?_
      refine HandSPX.lands_againZ fl3 fun h4 fl4 up4 => ?_
      have J4 : Inv X pins σ' H' { s' with heap := h4 } := J.landed nb fl4.1 ((up.trans up3).trans up4) os ag
      obtain ⟨oe4, vs4, he4, hz4, hd4⟩ := fl4.there
      have S4 := J4.suite he4 hd4 na nL nF
      refine store_ok (X := X.suite a ((a, oe4) :: (X.pn ++ pins))) (v := .ref a) S4 hN hi hloc rfl (fun s5 S5 => ?_) (.inr hln)
      have suRun := hyes rfl a oe4 (X.pn ++ pins) na hz4 ⟨_, hd4⟩
      refine wpAny_mono (suRun [] s5 S5) (fun f s6 hsp => ?_) (fun _ _ z => False.elim z)
      have end_ : ∀ {σ6 : L2.St} {H6 : Hp} {Q : Shared → Prop}, Inv (X.suite a ((a, oe4) :: (X.pn ++ pins))) [] σ6 H6 s6 → (∀ s7, Inv X pins (σ6.set i none) H6 s7 → Q s7) →
          wpAny (model X.prog X.w) X.A (do bindName X.env n .none; unbindBehindTheSuite X.env n pos') (fun _ s7 => Q s7) X.xe s6 := fun {σ6 H6 Q} S6 hq => gone_ok (S6.unsuite ok) hN hi hln hq
      have endT : ∀ {σ6 : L2.St} {H6 : Hp} {Q : Shared → Prop}, Inv (X.suite a ((a, oe4) :: (X.pn ++ pins))) [] σ6 H6 s6 → (∀ s7, H6 a = none → Inv X pins (σ6.set i none) (upd H6 a (exV a cls d)) s7 → Q s7) →
          wpAny (model X.prog X.w) X.A (do bindName X.env n .none; unbindBehindTheSuite X.env n pos') (fun _ s7 => Q s7) X.xe s6 := fun {σ6 H6 Q} S6 hq => by
        refine gone_ok (X := X.tr ((a, oe4) :: (X.pn ++ pins)) X.xe) (inv_trS S6 ok) hN hi hln fun s7 J7 => ?_
        obtain ⟨hget, hna, _⟩ := J7.pin (a, oe4) (List.mem_append_left _ List.mem_cons_self)
        refine hq s7 hna ?_
        have K7 : Inv X pins (σ6.set i none) H6 s7 := inv_untr J7 ok
        have s0n : X.s_0.heap.get? a = none := by
          cases e : X.s_0.heap.get? a with
          | none => rfl
          | some o =>
            obtain ⟨o', q⟩ := J.base.there a o e (by rw [hex]; exact fun z => nomatch z)
            rw [sIn] at q; cases q
        refine inv_track K7 s0n hna (fun p hp z => ?_) (Ne.symm nL) (fun y c e z => ?_) (exV_ok hget hz4 hd4)
        · obtain ⟨q1, _⟩ := J.pin p hp
          rw [z, sIn] at q1; cases q1
        · obtain ⟨v, o, ho, _⟩ := J.cell y c e
          rw [z, sIn] at ho; cases ho
      cases f with
      | next =>
        obtain ⟨σ6, H6, S6, q6⟩ := hsp
        exact endT S6 fun s7 hna J7 => ⟨_, _, J7, q6 hna⟩
      | brk =>
        obtain ⟨σ6, H6, S6, q6⟩ := hsp
        exact end_ S6 fun s7 J7 => ⟨_, _, J7, q6⟩
      | cont =>
        obtain ⟨σ6, H6, S6, q6⟩ := hsp
        exact end_ S6 fun s7 J7 => ⟨_, _, J7, q6⟩
      | ret u =>
        obtain ⟨v6, σ6, H6, S6, r6, q6⟩ := hsp
        exact end_ S6 fun s7 J7 => ⟨_, _, _, J7, r6, q6⟩
    | false =>
      show wpAny _ X.A (handleBy (.ref a) X.env []) _ _ _
      refine wpAny_handleBy_nil ?_
      obtain ⟨k1, k2, k3, oe, vs, T, oT, ts', he, hz, hd, h1, hr⟩ := id fl3
      unfold PySem.passOn
      refine wpAny_bind (wpAny_field he hd h1 ?_)
      rw [if_neg (show ¬ ((Value.ref T == Value.none) = true) from by simp)]
      have fin : wpAny (model X.prog X.w) X.A (setFlight (.ref a) X.env.frame) (fun _ s4 => wpAny (model X.prog X.w) X.A (throw (.ref a) : PySem.Sem Flow) (SP X pins D) X.xe s4) X.xe { s' with heap := h3 } := by
        rw [hf]
        refine HandSPX.setFlight_upZ fl3 fun h4 hh4 up4 => wpAny_throw (tk _ _ ?_)
        exact ⟨a, B, sI, pins, σ', H', cls, d, rfl, J, nb, (up.trans up3).trans up4, .inr (.inr (by rw [hs]; exact hh4)), na, os, ag, hno rfl⟩
      first
        | exact wpAny_bind (wpAny_pure (wpAny_bind fin))
        | exact wpAny_bind fin
  · cases f with
    | next =>
      obtain ⟨σ', H', J', q⟩ := hsp
      exact wpAny_execs_nil ⟨σ', H', J'.ofTry ok, q⟩
    | brk =>
      obtain ⟨σ', H', J', q⟩ := hsp
      exact ⟨σ', H', J'.ofTry ok, q⟩
    | cont =>
      obtain ⟨σ', H', J', q⟩ := hsp
      exact ⟨σ', H', J'.ofTry ok, q⟩
    | ret u =>
      obtain ⟨v, σ', H', J', r, q⟩ := hsp
      exact ⟨v, σ', H', J'.ofTry ok, r, q⟩
end
end Wk

/-! Wk: an __init__ that calls its base's, and keeps its argument. -/
namespace Wk
open PySem PySem.Spec PyProof.Rows L2 Evl
/-- the base class, LongError, at L -/
structure LgOk (K : PySem.W.Frag) (mg : Str → Option Value) (L : Addr) : Prop where
  g : mg "LongError" = some (.ref L)
  rd : PySem.W.readsIn K L (.type "type") = true
  ga : PySem.W.specialIn K (.ref L) "__getattribute__" = some (some (.builtin "type.__getattribute__"))
  vi : PySem.W.findCls K (.ref L) (.type "type") "__init__" = some (.val (.builtin "ValueError.__init__"))
section
variable {X : Cx} {o e : Expr} {es : List Expr} {to te : TE} {ta : TA} {L : Addr} {p p' p1 p2 pos : Pos}
theorem pe_leinit {pl : PySem.Sem Bool} (T : LgOk X.K X.mg L) (hg : Gl X "LongError") (ha : PA X (e :: es) ta)
    (hc : eval (.Call (.Attribute (.Name "LongError" p1) "__init__" p2) (e :: es) [] pos) X.env = (do
      let ov ← eval (.Name "LongError" p1) X.env
      standAt p2.atName
      let (f, first) ← holding [ov] (getMethod ov "__init__" pl)
      callWith pos f first (backTo pos (starEach (e :: es) X.env)) (backToKw pos (keywordEach [] X.env))) := by rfl)
    (he : starEach (e :: es) X.env = (false, eval e X.env) :: starEach es X.env := by rfl) (hpl : (backTo pos (starEach es X.env)).any (·.1) = false := by rfl) :
    PE X (.Call (.Attribute (.Name "LongError" p1) "__init__" p2) (e :: es) [] pos) (tVeI X.K ta) := by
  refine ⟨fun pins s σ H Q I h => ?_⟩
  refine PySem.W.methodCall_KW (ld_glob I hg T.g ?_ (by decide)) hc
  refine PySem.W.method_cls I.kIn T.ga (PySem.W.cls_value I.kIn T.rd T.vi (by decide +kernel) ?_)
  show wpAny _ _ (callWith pos (Value.builtin "ValueError.__init__") [] (backTo pos (starEach (e :: es) X.env)) []) _ _ _
  refine PyProof.Rows.callWith_method1 (thn (ha.run pos pins _ σ H _ (I.tok _) h) fun us s1 ⟨vs, H1, I1, r1, a, C, ws, ev, hl, T, ea, q⟩ => ?_) he hpl
  subst ev
  cases r1 with
  | @cons _ u0 _ ur ra rw' =>
    obtain rfl : u0 = Value.ref a := ra
    have hlen : ur.length ≤ sizeLine := by
      rw [← Paired.length rw', sizeLine_eq]
      omega
    exact oinit_ok T I1 ea hlen fun s' J => ⟨.non, H1, J, rfl, q⟩
end
section
variable {P : Program} {w : World} {K : PySem.W.Frag} {mg : Str → Option Value} {base : Heap}
def isNum (v : V) : Prop := ∃ i : Int, v = .int i ∧ i.natAbs.log2 < 1920
def isTxt (v : V) : Prop := ∃ s : Str, v = .str s ∧ s.length ≤ 100000
theorem spI_num {f : Str} {vs : List V} {H : Hp} {Q : VK} {E : XK} (h : spI K f isNum vs H Q E) : ∃ (a C : Addr) (i : Int), vs = [.ref a, .int i] ∧ i.natAbs.log2 < 1920 ∧ OexC K C ∧ PySem.W.findIn K (.ref C) f = some none ∧ H a = some (exo a C none) ∧
    ∀ dx, H dx = none → dx ≠ a → Q .non (upd (upd H dx (exd dx [(f, .int i)])) a (exo a C (some dx))) := by
  obtain ⟨a, C, v, rfl, ⟨i, rfl, hi⟩, r⟩ := h
  exact ⟨a, C, i, rfl, hi, r⟩
theorem spI_txt {f : Str} {vs : List V} {H : Hp} {Q : VK} {E : XK} (h : spI K f isTxt vs H Q E) : ∃ (a C : Addr) (i : Str), vs = [.ref a, .str i] ∧ i.length ≤ 100000 ∧ OexC K C ∧ PySem.W.findIn K (.ref C) f = some none ∧ H a = some (exo a C none) ∧
    ∀ dx, H dx = none → dx ≠ a → Q .non (upd (upd H dx (exd dx [(f, .str i)])) a (exo a C (some dx))) := by
  obtain ⟨a, C, v, rfl, ⟨i, rfl, hi⟩, r⟩ := h
  exact ⟨a, C, i, rfl, hi, r⟩
theorem str_num_len {i : Int} (h : i.natAbs.log2 < 1920) : (Str.ofString (toString i)).length ≤ 100000 := by
  have e := int_text_length_le (k := 1920) (by decide) h
  rw [PySem.ofString_length]; omega
/-- every refusal's kind -/
def fullS : List Nm := [.web, .table, .name, .rest, .order, .ask]
def fullT : List Nm := [.web, .table, .name, .rest, .order, .ask, .long, .val]
theorem full_mem (x : Ec) : x.nm ∈ fullS := by cases x <;> simp [fullS, Ec.nm]
def Rs.map {α β : Type} (f : α → β) : Rs α → Rs β
  | .tv a => .tv (f a)
  | .ex x => .ex x
def prow (i : Int) : Option Int := if i.natAbs.log2 < 1920 then some i else none
def pword (s : Str) : Option Str := if s.length ≤ 100000 then some s else none
theorem prow_eq {i r : Int} (h : prow i = some r) : i = r := by
  unfold prow at h; split at h
  · exact Option.some.inj h
  · cases h
theorem prow_ok {i r : Int} (h : prow i = some r) : isNum (.int r) := by
  have e := prow_eq h
  subst e
  unfold prow at h; split at h
  · exact ⟨i, rfl, ‹_›⟩
  · cases h
theorem pword_eq {i r : Str} (h : pword i = some r) : i = r := by
  unfold pword at h; split at h
  · exact Option.some.inj h
  · cases h
theorem pword_ok {i r : Str} (h : pword i = some r) : isTxt (.str r) := by
  have e := pword_eq h
  subst e
  unfold pword at h; split at h
  · exact ⟨i, rfl, ‹_›⟩
  · cases h
def rsVal {α : Type} : Rs α → Option α
  | .tv a => some a
  | .ex _ => none
def rsVal2 {α β : Type} : Rs α × β → Option (α × β)
  | (.tv a, b) => some (a, b)
  | (.ex _, _) => none
theorem rs_val {α : Type} {m : Option (Rs α)} {v : α} (h : m.bind rsVal = some v) : m = some (.tv v) := by
  obtain ⟨r, rfl, h⟩ := Option.bind_eq_some_iff.mp h
  cases r with
  | tv a => rw [Option.some.inj h]
  | ex x => cases h
theorem rs_val2 {α β : Type} {m : Option (Rs α × β)} {v : α × β} (h : m.bind rsVal2 = some v) : m = some (.tv v.1, v.2) := by
  obtain ⟨⟨r, b⟩, rfl, h⟩ := Option.bind_eq_some_iff.mp h
  cases r with
  | tv a => rw [← Option.some.inj h]
  | ex x => cases h
/-- the ends of a function's body that may refuse -/
theorem wsh_def {K : PySem.W.Frag} {E : Er} {Ek : XK} {x : Ec} {G0 : Hp} {ρ : Env} {M : Mem} (q : ∀ d G H, Ex G0 G → Wd K G M H → XdAt G d x.fs → Ek (.ref (x.cls E)) d H) : Wsh K E (fun cls d _ H => Ek cls d H) x G0 ρ M :=
  fun d σ G H e sl w hx => q d G H e w hx
/-- what is wished in a try's body: the suite -/
theorem wsh_suite {X : Cx} {K : PySem.W.Frag} {E : Er} {c : Value} {i : Nat} {suite : List Stmt} {Wout : WX} {Z : Ends} {x : Ec} {G0 : Hp} {ρ : Env} {M : Mem} (hexm : PySem.W.exmOne X.K (.ref (x.cls E)) c = some true)
    (k : ∀ a oe d pn, Sut X E x a oe d → St (X.suite a ((a, oe) :: pn)) suite (sutE Z i a (.ref (x.cls E)) d) G0 (ρ.set i (some (.exs a d x.fs))) M) (hK : K = X.K := by rfl) : Wsh K E (wAsT X c i suite Wout Z) x G0 ρ M := by
  subst hK
  exact fun d σ G H e sl w hx => ⟨true, hexm, fun _ a oe pn na hz hf => (k a oe d pn ⟨hz, hf⟩).go _ _ ⟨G, e, sl.set i (by unfold Rep; exact ⟨rfl, hx⟩), w⟩, fun h => by cases h⟩
section
variable {X : Cx} {rest body suite : List Stmt} {b₀ : Stmt} {Z : Ends} {G0 : Hp} {ρ ρs ρr : Env} {M : Mem} {E : Er} {xc : Ec} {a : Addr} {oe : Obj} {d : Option Addr} {pn : List (Addr × Obj)} {i : Nat} {x n : Str} {c : Value} {np pos pos' : Pos} {xe : Value → Shared → Prop}
theorem st_goT (k : St X rest Z G0 ρ M) : St (X.tr pn xe) [] { Z with nx := SemSs X rest Z } G0 ρ M := .mk fun σ H a => SemSs.of pss_nil (k.go σ H a)
theorem st_try (hN : X.N.Nodup) (i : Nat) (hc : Names X x c) 
    (hb : ∀ (pn : List (Addr × Obj)) (xe : Value → Shared → Prop), Takes (X.tr pn xe) (wAsT X c i (b₀ :: suite) (fun _ _ _ _ => False) { Z with nx := SemSs X rest Z }) → PassesOwn (model X.prog X.w) X.A X.env xe → St (X.tr pn xe) body { Z with nx := SemSs X rest Z } G0 ρ M)
    (hs : X.stack = X.env :: X.outer := by rfl) (hf : X.env.frame = some X.env.locals := by rfl) (hex : X.ex = [] := by rfl) (hi : X.N[i]? = some n := by rfl) (hln : X.env.kindOf n = some .local := by rfl) :
    St X (.Try body [.ExceptHandler (some (.Name x np)) (some n) (b₀ :: suite) pos'] [] [] pos :: rest) Z G0 ρ M := .mk fun σ H at_ => by
  refine cons_of (ps_try_asT (tb := fun W D σ H => ∀ (pn : List (Addr × Obj)) (xe : Value → Shared → Prop), Takes (X.tr pn xe) W → PassesOwn (model X.prog X.w) X.A X.env xe → SemSs (X.tr pn xe) body D σ H) hs hf hex hN hi hln hc takes0 (fun W pn xe tk po => ⟨fun pins s σ H D I h => h pn xe tk po pins s I⟩)) ?_
  intro pn xe tk po
  exact (hb pn xe tk po).go σ H at_
/-- slots behind a suite: dropped, kept, or the exception, now tracked -/
def SutC (E : Er) (xc : Ec) (a : Addr) (d : Option Addr) : Env → Env → Prop
  | [], [] => True
  | o :: r, o' :: r' => (o' = none ∨ o' = o ∨ (o = some (.exs a d xc.fs) ∧ o' = some (eX E xc))) ∧ SutC E xc a d r r'
  | _, _ => False
theorem sutC_len : ∀ {ρs ρr : Env}, SutC E xc a d ρs ρr → ρr.length = ρs.length
  | [], [], _ => rfl
  | _ :: _, _ :: _, h => by rw [List.length_cons, List.length_cons, sutC_len h.2]
theorem sutC_get : ∀ {ρs ρr : Env}, SutC E xc a d ρs ρr → ∀ {j : Nat} {dd : D}, ρr[j]? = some (some dd) → ρs[j]? = some (some dd) ∨ (ρs[j]? = some (some (.exs a d xc.fs)) ∧ dd = eX E xc)
  | [], [], _, j, dd, e => by simp at e
  | o :: r, o' :: r', h, 0, dd, e => by
    have e : o' = some dd := by simpa using e
    subst e
    rcases h.1 with h1 | h1 | ⟨h1, h2⟩
    · cases h1
    · subst h1; exact .inl rfl
    · subst h1; exact .inr ⟨rfl, Option.some.inj h2⟩
  | o :: r, o' :: r', h, j + 1, dd, e => by
    have := sutC_get h.2 (j := j) (dd := dd) (by simpa using e)
    simpa using this
theorem sut_end {rt : V → Hp → Prop} (k : St X rest Z G0 ρr M) (hc : SutC E xc a d ρs ρr) (hi : ρr[i]? = some none) : ∀ σ H, At (X.suite a ((a, oe) :: pn)).K G0 ρs M σ H → (sutE { Z with nx := SemSs X rest Z } i a (.ref (xc.cls E)) d).nx σ H := by
  intro σ H ⟨G, e, sl, w⟩ na
  have e2 : Ex G (upd G a (exV a (.ref (xc.cls E)) d)) := w.exF na _
  refine k.go _ _ ⟨_, e.trans e2, ⟨by rw [List.length_set, sl.len, sutC_len hc], fun j dd hj => ?_⟩, w.newF na _⟩
  have ne : i ≠ j := fun z => by subst z; rw [hi] at hj; cases hj
  rw [List.getElem?_set_ne ne]
  rcases sutC_get hc hj with h1 | ⟨h1, rfl⟩
  · obtain ⟨v, h2, h3⟩ := sl.get j dd h1
    exact ⟨v, h2, h3.mono e2⟩
  · obtain ⟨v, h2, h3⟩ := sl.get j _ h1
    unfold Rep at h3
    obtain ⟨rfl, hx⟩ := h3
    exact ⟨_, h2, by unfold Rep; exact ⟨a, d, rfl, .inl upd_same, hx.mono e2⟩⟩
theorem st_sutEnd (k : St X rest Z G0 ρr M) (hc : SutC E xc a d ρs ρr) (hi : ρr[i]? = some none) : St (X.suite a ((a, oe) :: pn)) [] (sutE { Z with nx := SemSs X rest Z } i a (.ref (xc.cls E)) d) G0 ρs M := st_end (sut_end (rt := Z.rt) k hc hi)
end
end
end Wk

/-! Wk: an exception that is made and kept, its text; xs.insert(i, x). -/
namespace Wk
open PySem PySem.Spec PyProof.Rows L2 Evl
section
variable {X : Cx} {e : Expr} {t : L2.St → Hp → XK → Prop}
/-- what makes an exception gives it back -/
theorem pe_mk (h : PMk X e t) : PE X e (fun σ H Q => t σ H fun cls d H' => ∀ a, H' a = none → Q (.ref a) (upd H' a (exV a cls d))) := by
  refine ⟨fun pins s σ H Q I q => thn (h pins s σ H _ I q) fun u s' hu => ?_⟩
  obtain ⟨a, oe, vs, sI, H', cls, d, rfl, J, k, hne, ha, hz, hd, h1, na, os, ag, r, q⟩ := hu
  have J2 : Inv X pins σ (upd H' a (exV a cls d)) { sI with heap := s'.heap, toks := s'.toks } := J.laidN k hne na (exV_ok ha hz hd)
  exact ⟨.ref a, _, ⟨J2.ok, os.trans J.os, ag, J2.base, J2.loc, J2.cell, J2.free, J2.freeC, J2.pin, J2.hok, J2.len⟩, rfl, q a na⟩
theorem exVT_ok {P : Program} {w : World} {H : Hp} {h : Heap} {a t : Addr} {cls : Value} {oe : Obj} {vs : Array Value} (he : h.get? a = some oe) (hz : Zc cls none oe) (hd : oe.data = .fields vs) (h0 : vs[0]? = some (.ref t)) : ObjOk P w H h a (exVT a cls t) :=
  ⟨⟨oe, vs, he, hz, hd, h0⟩, ⟨oe, he⟩, fun h1 h2 ⟨o, v, q, r⟩ k => ⟨o, v, k o q, r⟩⟩
variable {C : Addr} {bmB : List Value} {B newId initId : String} {x m : Str} {j : Nat} {p p2 pos : Pos}
/-- X('m') as a value -/
theorem pe_exT (F : ExcBaseFacts B newId initId bmB) (q : PySem.W.excIn X.K C bmB newId = true) (gC : X.mg x = some (.ref C)) (kC : PySem.W.keepIn X.K (.ref C) = true) (hg : Gl X x) (hex : X.ex = []) 
    (hdb : (x == ("__debug__" : Str)) = false := by decide) : PE X (.Call (.Name x p) [.Constant (.str m) j p2] [] pos) (fun _ H Q => ∀ a t, H a = none → H t = none → a ≠ t → Q (.ref a) (upd (upd H a (exVT a (.ref C) t)) t (.tup [.str m]))) := by
  refine ⟨fun pins s σ H Q I h => ?_⟩
  refine wpAny_Call_Name_kw (ld_glob I hg gC ?_ hdb)
  have ha : PA X [.Constant (.str m) j p2] (tCons (tC (.str m)) tNil) := pa_cons pe_str pa_nil
  refine PySem.W.callWith_K (h₀ := X.base) I.ok.mod.kin kC (thn (ha.run pos pins s σ H (fun vs H1 => vs = [V.str m] ∧ H = H1) I ⟨rfl, rfl⟩) fun us s1 hh => ?_)
  obtain ⟨vs, H1, I1, r1, ev, eH⟩ := hh
  subst ev
  rw [← eH] at I1
  refine ⟨I1.kIn, ?_⟩
  obtain ⟨u, rfl, ru⟩ := r1.one
  show wpAny _ _ (call (.ref C) [u]) _ _ _
  obtain ⟨bm, N, nm, qn, bs, hdct, sn, sub, ab, col, dd, k0, k1, k2, k3, k5, mN, hC, hN, hni, T⟩ := exc_obj I1.kIn q
  refine wpAny_call_exc_subT F T hC hN hni (fun h' a hm => ?_) (by show 1 ≤ sizeLine; rw [sizeLine_eq]; omega)
  have hn : H a = none := I1.hok.gone hm.new
  obtain ⟨t, ht, htn, htt⟩ := hm.there
  have hnt : H t = none := I1.hok.gone htn
  have hat : a ≠ t := fun z => by
    subst z
    rw [htt] at ht
    have e := Option.some.inj ht
    cases e
  have J : Inv X pins σ (upd H a (exVT a (.ref C) t)) { s1 with heap := h' } := I1.laidN hm.keeps hm.new hn (exVT_ok ht ⟨rfl, rfl⟩ rfl rfl)
  have n0 : X.s_0.heap.get? t = none := by
    cases e : X.s_0.heap.get? t with
    | none => rfl
    | some o =>
      obtain ⟨o', q⟩ := I1.base.there t o e (by rw [hex]; exact fun z => nomatch z)
      rw [htn] at q; cases q
  refine ⟨.ref a, upd (upd H a (exVT a (.ref C) t)) t (.tup [.str m]), inv_track J n0 (by rw [upd_ne (Ne.symm hat)]; exact hnt) (fun p hp z => ?_) (fun z => ?_) (fun y c e z => ?_) ?_, rfl, h a t hn hnt hat⟩
  · obtain ⟨q1, _⟩ := I1.pin p hp
    rw [z, htn] at q1; cases q1
  · obtain ⟨m, ⟨o, es, ep, ho, r⟩, hl⟩ := I1.loc
    rw [z, htn] at ho; cases ho
  · obtain ⟨v, o, ho, _⟩ := I1.cell y c e
    rw [z, htn] at ho; cases ho
  · exact ⟨by show 1 ≤ sizeLine; rw [sizeLine_eq]; omega, [u], r1, ⟨_, htt, rfl, _, rfl⟩⟩
end
section
variable {X : Cx} {E : Er} {rest : List Stmt} {ρ : Env} {M M1 M2 : Mem} {e o : Expr} {es : List Expr} {xc : Ec} {d : D} {pos pos' p p2 : Pos} {S T : List Nm}
theorem x_mkI {x f : Str} {v : V} {Pv : V → Prop} {ps : List Str} {k' : Nat} {p3 : Pos} (T : RzI X.prog X.w X.K X.mg X.base x (xc.cls E) f Pv ps) (hr : Room k' X.A) (hk : 2 ≤ k') (ha : XA X (e :: es) ρ M [d] M1)
    (hv : ∀ G u, Rep X.K G d u → u = v) (hok : Pv v) (hf : xc.fs = [(f, v)])
    (hg : Gl X x := by rfl) (hdb : (x == ("__debug__" : Str)) = false := by decide) (he : starEach (e :: es) X.env = (false, eval e X.env) :: starEach es X.env := by exact star_of rfl) (hpl : (backTo p3 (starEach es X.env)).any (·.1) = false := by exact nostars rfl) :
    XE X (.Call (.Name x p) (e :: es) [] p3) ρ M (eX E xc) M1 := .mk fun G σ H Q sl w q => by
  obtain ⟨fI, fd, iC, tI, F1, hb⟩ := T.ex
  refine Sem.of (pe_mk (pmk_oex (dvs := []) T.T iC tI F1 (hr.mono hk) hb .nil pass0 hg T.g pa_sem hdb he hpl)) (ha.run G σ H _ sl w fun vs G1 H1 e1 w1 r1 => ?_)
  obtain ⟨u, rfl, ru⟩ := r1.one
  have eu := hv G1 u ru
  subst eu
  refine ⟨by show 1 ≤ 1000; decide, fun a hn => ?_⟩
  refine ⟨a, xc.cls E, u, rfl, hok, T.T, T.nf, upd_same, fun dx hdx hne => ⟨rfl, dx, [(f, u)], upd_same, by rw [upd_ne hne, upd_same], ?_, ?_⟩⟩
  · rw [upd_ne hne] at hdx; exact hdx
  · have hdx1 : H1 dx = none := by rw [upd_ne hne] at hdx; exact hdx
    have eh : upd (L2.del (upd (upd (upd H1 a (exo a (xc.cls E) none)) dx (exd dx [(f, u)])) a (exo a (xc.cls E) (some dx))) a) dx (.xd [(f, u)]) = upd H1 dx (.xd [(f, u)]) := by
      funext b
      by_cases hb : b = dx
      · rw [hb, upd_same, upd_same]
      · rw [upd_ne hb, upd_ne hb]
        by_cases ha : b = a
        · rw [ha, L2.del_same, hn]
        · rw [L2.del_ne ha, upd_ne ha, upd_ne hb, upd_ne ha]
    rw [eh]
    intro a2 ha2
    have e2 := w1.exF hdx1 (.xd [(f, u)])
    have w2 := w1.newF hdx1 (.xd [(f, u)])
    have e3 := w2.exF ha2 (exV a2 (.ref (xc.cls E)) (some dx))
    refine q.use ((e1.trans e2).trans e3) (w2.newF ha2 _) ?_
    unfold Rep
    exact ⟨a2, some dx, rfl, .inl upd_same, .inr ⟨dx, rfl, by rw [hf]; exact e3 _ _ upd_same⟩⟩
theorem x_mkT {x m : Str} {j} {p3 : Pos} {C : Addr} (T : RzT X.K X.mg x C) (hex : X.ex = [] := by rfl) (hg : Gl X x := by rfl) (hdb : (x == ("__debug__" : Str)) = false := by decide) :
    XE X (.Call (.Name x p) [.Constant (.str m) j p2] [] p3) ρ M (.exm C m) M := .mk fun G σ H Q sl w q => by
  refine Sem.of (pe_exT PySem.F.excBase_ValueError T.ex T.g T.k hg hex hdb) fun a t ha ht hne => ?_
  have e2 := w.exF ha (exVT a (.ref C) t)
  have w2 := w.newF ha (exVT a (.ref C) t)
  have ht2 : upd H a (exVT a (.ref C) t) t = none := by rw [upd_ne (Ne.symm hne)]; exact ht
  have e3 := w2.exF ht2 (.tup [.str m])
  refine q.use (e2.trans e3) (w2.newF ht2 _) ?_
  unfold Rep
  exact ⟨a, t, rfl, e3 _ _ upd_same, upd_same⟩
/-- an exception that was made here: a kept field, or a text -/
structure ExM where
  x : Ec
  m : Str
def isT (x : Ec) : Bool := match x with
  | .rest => true | .order => true | .ask => true | _ => false
def eM (E : Er) (y : ExM) : D := if isT y.x then .exm (y.x.cls E) y.m else eX E y.x
theorem eM_of {E : Er} {y : ExM} {K : PySem.W.Frag} {G : Hp} {v : V} (h : Rep K G (eM E y) v) : Rep K G (eX E y.x) v := by
  unfold eM at h
  split at h
  · rename_i hc
    have hf : y.x.fs = [] := by
      obtain ⟨x, m⟩ := y
      cases x <;> first | rfl | (cases hc)
    unfold Rep at h ⊢
    obtain ⟨a, t, rfl, h1, h2⟩ := h
    exact ⟨a, none, rfl, .inr ⟨rfl, t, h1⟩, .inl ⟨hf, rfl⟩⟩
  · exact h
theorem x_weakM {y : ExM} (h : XE X e ρ M (eM E y) M1) : XE X e ρ M (eX E y.x) M1 := .mk fun G σ H Q sl w q =>
  h.run G σ H _ sl w fun v G1 H1 e1 w1 r1 => q.use e1 w1 (eM_of r1)
theorem x_mkIM {m : Str} (h : XE X e ρ M (eX E xc) M1) (ht : isT xc = false) : XE X e ρ M (eM E ⟨xc, m⟩) M1 := by
  unfold eM
  rw [if_neg (by rw [ht]; exact Bool.false_ne_true)]
  exact h
theorem x_mkTM {m : Str} (h : XE X e ρ M (.exm (xc.cls E) m) M1) (ht : isT xc = true) : XE X e ρ M (eM E ⟨xc, m⟩) M1 := by
  unfold eM
  rw [if_pos ht]
  exact h
def pstrM (y : ExM) : Option Str := if isT y.x then some y.m else none
/-- what the text says of str of such -/
structure StrOk (K : PySem.W.Frag) (E : Er) (S : List Nm) : Prop where
  s : ∀ n ∈ S, PySem.W.findIn K (.ref (E.at n)) "__str__" = some (some (.builtin "BaseException.__str__"))
  b : ∀ n ∈ S, PySem.W.subIn K (.ref (E.at n)) (.type "BaseException") = some true
theorem call_str_exm (hu : X.A.units + 2 < cLine) : CallR X (.type "str") (fun xs H Q => ∃ (a t C : Addr) (m : Str), xs = [.ref a] ∧ H a = some (exVT a (.ref C) t) ∧ H t = some (.tup [.str m]) ∧ PySem.W.findIn X.K (.ref C) "__str__" = some (some (.builtin "BaseException.__str__")) ∧ PySem.W.subIn X.K (.ref C) (.type "BaseException") = some true ∧ Q (.str m) H) := by
  intro pins s σ H xs us Q I r h
  obtain ⟨a, t, C, m, rfl, ha, ht, hs, hb, q⟩ := h
  obtain ⟨u, rfl, ru⟩ := r.one
  cases ru
  have qa : ObjOk X.prog X.w H s.heap a (.ext fun h => ∃ (oe : Obj) (vs : Array Value), h.get? a = some oe ∧ Zc (.ref C) none oe ∧ oe.data = .fields vs ∧ vs[0]? = some (.ref t)) := I.hok a _ ha
  obtain ⟨oe, vs, h1, h2, h3, h4⟩ := qa.1
  have qt : ObjOk X.prog X.w H s.heap t (.tup [.str m]) := I.hok t _ ht
  obtain ⟨_, its, rv, hit⟩ := qt
  obtain ⟨u, rfl, ru⟩ := rv.one
  obtain ⟨tk, rfl⟩ := ru
  refine PySem.P.str_of_C_one (K := X.K) (C := C) (t0 := t) (m := m) (tk := tk) hu ⟨I.kIn, oe, vs, h1, h2.1, h3, h4⟩ ?_ hs hb ⟨.str m, H, I, ⟨tk, rfl⟩, q⟩
  obtain ⟨o, ho, hc, n, hd⟩ := hit
  exact ⟨o, n, ho, hc, hd⟩
theorem x_strM {y : ExM} {r : Str} (SO : StrOk X.K E S) (hS : y.x.nm ∈ S) (hu : X.A.units + 64 < cLine) (ha : XA X [e] ρ M [eM E y] M1) (h : pstrM y = some r) (hm : X.mg "str" = none) (hg : Gl X "str" := by rfl) (he : starEach [e] X.env = (false, eval e X.env) :: starEach [] X.env := by exact star_of rfl) :
    XE X (.Call (.Name "str" p) [e] [] pos) ρ M (.str r) M1 := XE.callTy (call_str_exm (by omega)) boot_str ha (fun G H vs Q w rs q => by
  unfold pstrM at h
  split at h
  · rename_i hc
    have h := Option.some.inj h
    subst h
    obtain ⟨v, rfl, r1⟩ := rs.one
    unfold eM at r1
    rw [if_pos hc] at r1
    unfold Rep at r1
    obtain ⟨a, t, rfl, h1, h2⟩ := r1
    exact ⟨a, t, _, y.m, rfl, w.ex _ _ h1, w.ex _ _ h2, SO.s _ hS, SO.b _ hS, q.use (Ex.refl G) w rep_str⟩
  · cases h) hm hg (by decide) (by decide) he (by exact nostars rfl)
end
/-! xs.insert(i, x) -/
def pins {α : Type} (xs : List α) (i : Int) (y : α) : Option (List α) := if 0 ≤ i ∧ i < 2 ^ 63 ∧ xs.length < sizeLine then some (xs.take i.toNat ++ [y] ++ xs.drop i.toNat) else none
theorem pins_some {α : Type} {xs ys : List α} {i : Int} {y : α} (h : pins xs i y = some ys) : (0 ≤ i ∧ i < 2 ^ 63 ∧ xs.length < sizeLine) ∧ xs.take i.toNat ++ [y] ++ xs.drop i.toNat = ys := by
  unfold pins at h
  split at h
  · exact ⟨‹_›, Option.some.inj h⟩
  · cases h
section
variable {X : Cx} {a e1 e2 : Expr} {ρ : Env} {M M1 M2 : Mem} {q : Addr} {ds : List D} {α : Type} {f : α → D} {xs ys : List α} {v : α} {i : Int} {apos pos : Pos}
theorem x_insertO (k : Nat) (ho : XE X a ρ M (.adr q) M1) (ha : XA X [e1, e2] ρ M1 [.int i, f v] M2) (hk1 : M1[k]? = some (q, .lst ds)) (hk : M2[k]? = some (q, .lst (xs.map f))) (h : pins xs i v = some ys)
    (hbase : attributeBase a "insert" X.env (eval a X.env) = eval a X.env := by exact base_of rfl)
    (hfew : ((backTo pos (starEach [e1, e2] X.env)).all (fun x => !x.1) && (backToKw pos (keywordEach [] X.env)).all (fun x => x.1.isSome)
      && decide ([e1, e2].length + ([] : List Keyword).length + (if ([] : List Keyword).isEmpty then 0 else 1) < 30)) = true := by exact fewargs rfl (by decide))
    (hline : (apos.endLine == pos.line) = true := by rfl) (hs : starEach [e1, e2] X.env = (false, eval e1 X.env) :: starEach [e2] X.env := by exact star_of rfl) (hplain : (backTo pos (starEach [e2] X.env)).any (·.1) = false := by exact nostars rfl) :
    XE X (.Call (.Attribute a "insert" apos) [e1, e2] [] pos) ρ M .non (M2.set k (q, .lst (ys.map f))) := by
  obtain ⟨⟨h0, h1, h2⟩, rfl⟩ := pins_some h
  exact XE.meth PySem.F.plainAttrs_list PySem.F.slot_list_insert PySem.F.type_list_insert mt_insert ho ha (ty_own hk1) (fun G H v vs Q w r1 rs2 wq => by
    obtain ⟨u1, u2, rfl, r2, r3⟩ := rs2.two
    obtain ⟨us, hv, rv⟩ := (w.at hk).2
    rw [of_int r2]
    refine ⟨q, us, i, u2, of_adr r1, rfl, hv, by rw [rv.length, List.length_map]; exact h2, h0, h1, wq.use (Ex.refl G) (w.set hk ⟨_, upd_same, ?_⟩) rep_non⟩
    rw [List.map_append, List.map_append, List.map_take, List.map_drop]
    exact ((rv.take i.toNat).append (RepL.cons r3 RepL.nil)).append (rv.drop i.toNat)) hbase hfew hline hs hplain
end
end Wk

namespace K53
open PySem PySem.Spec PyProof.Rows L2 Evl Wk
def topS (i : Nat) : Stmt := PySem.Challenge.pw_walksago_k53_states_that_are_none.main.body.getD i (.Pass ⟨0, 0, 0, 0⟩)
structure Cns (mg : Str → Option Value) : Prop where
  triv : True
section
variable {P : Program} {w : World} {K : PySem.W.Frag} {mg : Str → Option Value} {base : Heap} {C : Addr} {Er : Wk.Er}
/-! own exceptions -/
structure EMg (mg : Str → Option Value) (Er : Wk.Er) : Prop where
  c_LongError : mg "LongError" = some (.ref Er.long)
  c_NoWeb : mg "NoWeb" = some (.ref Er.web)
  c_NoTable : mg "NoTable" = some (.ref Er.table)
  c_NoName : mg "NoName" = some (.ref Er.name)
  c_NoRest : mg "NoRest" = some (.ref Er.rest)
  c_NoOrder : mg "NoOrder" = some (.ref Er.order)
  c_NoAsk : mg "NoAsk" = some (.ref Er.ask)
  c_ValueError : mg "ValueError" = none
abbrev s_x_NoWeb : Stmt := inClass (topS 2) 0
theorem sc_x_NoWeb : FnScope ["self", "row"] ["self", "row"] (defScope s_x_NoWeb) := ⟨rfl, rfl, rfl, by decide +kernel, rfl, by decide +kernel, by decide +kernel⟩
theorem ok_x_NoWeb {f : Addr} {fd : FuncData} (F : Fun K "__init__" "NoWeb.__init__" s_x_NoWeb f fd) {L : Addr} (T : LgOk K mg L) (hs : mg "str" = none) : FnOk P w K mg base CX0 1 f fd ["self", "row"] (spI K "row" isNum) := by
  refine F.ok sc_x_NoWeb (fun vs H Q E h => by obtain ⟨a, C, v, rfl, _⟩ := h; rfl) (fun cdv A outer s H vs Q E hr h => ?_)
  obtain ⟨a, C, i, rfl, hi, hO, hno, ha, q⟩ := spI_num h
  refine ⟨_, pss_cons (ps_expr (pe_leinit T rfl (pa_cons (pe_var (i := 0) rfl (.inl rfl)) (pa_cons (pe_op op_add_str pe_str (pe_callTy call_str_int rfl hs boot_str (pa_cons (pe_var (i := 1) rfl (.inl rfl)) pa_nil))) pa_nil))) rfl) (pss_cons (ps_ost (pe_var (i := 0) rfl (.inl rfl)) (pe_var (i := 1) rfl (.inl rfl))) pss_nil), ?_⟩
  exact ⟨_, rfl, _, rfl, i, rfl, hi, _, _, rfl, rfl, (by rw [sizeLine_eq]; exact Nat.le_trans (Nat.add_le_add (show _ ≤ 100 by decide +kernel) (str_num_len hi)) (by decide)), a, C, _, rfl, (by show 1 ≤ 1000; decide), hO, ha, _, rfl, _, rfl, a, C, rfl, hO, hno, .inl ⟨ha, fun dx h1 h2 => q dx h1 h2⟩⟩
abbrev s_x_NoTable : Stmt := inClass (topS 3) 0
theorem sc_x_NoTable : FnScope ["self", "row"] ["self", "row"] (defScope s_x_NoTable) := ⟨rfl, rfl, rfl, by decide +kernel, rfl, by decide +kernel, by decide +kernel⟩
theorem ok_x_NoTable {f : Addr} {fd : FuncData} (F : Fun K "__init__" "NoTable.__init__" s_x_NoTable f fd) {L : Addr} (T : LgOk K mg L) (hs : mg "str" = none) : FnOk P w K mg base CX0 1 f fd ["self", "row"] (spI K "row" isNum) := by
  refine F.ok sc_x_NoTable (fun vs H Q E h => by obtain ⟨a, C, v, rfl, _⟩ := h; rfl) (fun cdv A outer s H vs Q E hr h => ?_)
  obtain ⟨a, C, i, rfl, hi, hO, hno, ha, q⟩ := spI_num h
  refine ⟨_, pss_cons (ps_expr (pe_leinit T rfl (pa_cons (pe_var (i := 0) rfl (.inl rfl)) (pa_cons (pe_op op_add_str pe_str (pe_callTy call_str_int rfl hs boot_str (pa_cons (pe_var (i := 1) rfl (.inl rfl)) pa_nil))) pa_nil))) rfl) (pss_cons (ps_ost (pe_var (i := 0) rfl (.inl rfl)) (pe_var (i := 1) rfl (.inl rfl))) pss_nil), ?_⟩
  exact ⟨_, rfl, _, rfl, i, rfl, hi, _, _, rfl, rfl, (by rw [sizeLine_eq]; exact Nat.le_trans (Nat.add_le_add (show _ ≤ 100 by decide +kernel) (str_num_len hi)) (by decide)), a, C, _, rfl, (by show 1 ≤ 1000; decide), hO, ha, _, rfl, _, rfl, a, C, rfl, hO, hno, .inl ⟨ha, fun dx h1 h2 => q dx h1 h2⟩⟩
abbrev s_x_NoName : Stmt := inClass (topS 4) 0
theorem sc_x_NoName : FnScope ["self", "word"] ["self", "word"] (defScope s_x_NoName) := ⟨rfl, rfl, rfl, by decide +kernel, rfl, by decide +kernel, by decide +kernel⟩
theorem ok_x_NoName {f : Addr} {fd : FuncData} (F : Fun K "__init__" "NoName.__init__" s_x_NoName f fd) {L : Addr} (T : LgOk K mg L) (hs : mg "str" = none) : FnOk P w K mg base CX0 1 f fd ["self", "word"] (spI K "word" isTxt) := by
  refine F.ok sc_x_NoName (fun vs H Q E h => by obtain ⟨a, C, v, rfl, _⟩ := h; rfl) (fun cdv A outer s H vs Q E hr h => ?_)
  obtain ⟨a, C, i, rfl, hi, hO, hno, ha, q⟩ := spI_txt h
  refine ⟨_, pss_cons (ps_expr (pe_leinit T rfl (pa_cons (pe_var (i := 0) rfl (.inl rfl)) (pa_cons (pe_op op_add_str pe_str (pe_callTy SkE.call_str_str rfl hs boot_str (pa_cons (pe_var (i := 1) rfl (.inl rfl)) pa_nil))) pa_nil))) rfl) (pss_cons (ps_ost (pe_var (i := 0) rfl (.inl rfl)) (pe_var (i := 1) rfl (.inl rfl))) pss_nil), ?_⟩
  exact ⟨_, rfl, _, rfl, i, rfl, _, i, rfl, rfl, (by rw [sizeLine_eq]; exact Nat.le_trans (Nat.add_le_add (show _ ≤ 100 by decide +kernel) hi) (by decide)), a, C, _, rfl, (by show 1 ≤ 1000; decide), hO, ha, _, rfl, _, rfl, a, C, rfl, hO, hno, .inl ⟨ha, fun dx h1 h2 => q dx h1 h2⟩⟩

noncomputable def m_l_take (k : Deck) (many : Int) : Option (Int × Deck) :=
  (pmod k.pos k.cells.length).bind fun v1 =>
  (pix k.cells v1).bind fun v2 =>
  if v2 = 0 ∨ v2 = -1 then
    (pmod (k.seed + 7919 * (k.pos + 1)) 2147483587).bind fun v3 =>
    (pmod (v3 * 69621) 2147483629).bind fun v4 =>
    (pmul v4 v4).bind fun v5 =>
    (pmod (v5 + 31 * (k.pos + 1)) 2147483563).bind fun v6 =>
    (pmod (v6 * 16807) 2147483549).bind fun v7 =>
    (pdiv v7 8).bind fun v8 =>
    (pmod v8 many).bind fun v9 => some (v9, ⟨k.cells, k.pos + 1, k.seed⟩)
  else
    (pdiv v2 many).bind fun v3 =>
    (pset k.cells v1 v3).bind fun v5 =>
    (pmod v2 many).bind fun v4 => some (v4, ⟨v5, k.pos + 1, k.seed⟩)
def R_l_take : List D → Mem → D → Mem → Prop := fun ds Mc d Mc' => ∃ (a c : Addr) (dk : Deck) (p_many : Int) (r : Int × Deck), ds = [D.adr a, D.int p_many] ∧ Mc = Deck.mem a c dk ∧ m_l_take dk p_many = some r ∧ d = D.int r.1 ∧ Mc' = Deck.mem a c r.2
abbrev s_l_take : Stmt := topS 16
theorem sc_l_take : FnScope ["deck", "many", "at", "cell", "one"] ["deck", "many"] (defScope s_l_take) := ⟨rfl, rfl, rfl, by decide +kernel, rfl, by decide +kernel, by decide +kernel⟩
theorem ok_l_take {f : Addr} {fd : FuncData} (F : Fun K "_law_take" "_law_take" s_l_take f fd) (B : Blt mg) : FnOk P w K mg base CX0 1 f fd ["deck", "many"] (spR K R_l_take) := by
  refine fn_ok F sc_l_take (fun ds Mc d Mc' h => ?_) (fun cdv A outer s H0 E hr G0 Fr ds Mc d Mc' Q h q => ?_)
  · obtain ⟨a, c, dk, many, r, rfl, _⟩ := h; rfl
  obtain ⟨a, c, dk, many, r, rfl, rfl, hm, rfl, rfl⟩ := h
  have nd := sc_l_take.nd
  unfold m_l_take at hm
  obtain ⟨v1, h1, hm⟩ := Option.bind_eq_some_iff.mp hm
  obtain ⟨v2, h2, hm⟩ := Option.bind_eq_some_iff.mp hm
  refine st_asg 2 (x_modO (x_ixO 0 (x_var 0 rfl) x_int rfl rfl) (x_lenm (f := D.int) (xs := dk.cells) (a_cons (x_ixO 0 (x_var 0 rfl) x_int rfl rfl) a_nil) (.own 1 c _ rfl) B.len) h1) ?_ nd
  refine st_setL 0 (x_add (x_ixO 0 (x_var 0 rfl) x_int rfl rfl) x_int) (x_var 0 rfl) x_int rfl rfl ?_
  refine st_asg 3 (x_ixOm (f := D.int) (xs := dk.cells) 1 (x_ixO 0 (x_var 0 rfl) x_int rfl rfl) (x_var 2 rfl) rfl h2) ?_ nd
  refine st_if (t_w (w_orP (t_cmp (c_eqI (x_var 3 rfl) x_int)) (fun _ => w_or1 (t_cmp (c_eqI (x_var 3 rfl) (x_neg x_int)))))) (fun hc => ?_) (fun hc => ?_)
  · rw [if_pos (by simpa using hc)] at hm
    obtain ⟨v3, h3, hm⟩ := Option.bind_eq_some_iff.mp hm
    obtain ⟨v4, h4, hm⟩ := Option.bind_eq_some_iff.mp hm
    obtain ⟨v5, h5, hm⟩ := Option.bind_eq_some_iff.mp hm
    obtain ⟨v6, h6, hm⟩ := Option.bind_eq_some_iff.mp hm
    obtain ⟨v7, h7, hm⟩ := Option.bind_eq_some_iff.mp hm
    obtain ⟨v8, h8, hm⟩ := Option.bind_eq_some_iff.mp hm
    obtain ⟨v9, h9, hm⟩ := Option.bind_eq_some_iff.mp hm
    cases hm
    refine st_asg 4 (x_modO (x_mulR (x_modO (x_add (x_ixO 0 (x_var 0 rfl) x_int rfl rfl) (x_mulL x_int (x_ixO 0 (x_var 0 rfl) x_int rfl rfl))) x_int h3) x_int) x_int h4) ?_ nd
    refine st_asg 4 (x_modO (x_mulR (x_modO (x_add (x_mulO (x_var 4 rfl) (x_var 4 rfl) h5) (x_mulL x_int (x_ixO 0 (x_var 0 rfl) x_int rfl rfl))) x_int h6) x_int) x_int h7) ?_ nd
    exact st_ret (x_modO (x_fdivO (x_var 4 rfl) x_int h8) (x_var 1 rfl) h9) q
  · rw [if_neg (by simpa using hc)] at hm
    obtain ⟨v3, h3, hm⟩ := Option.bind_eq_some_iff.mp hm
    obtain ⟨v5, h5, hm⟩ := Option.bind_eq_some_iff.mp hm
    obtain ⟨v4, h4, hm⟩ := Option.bind_eq_some_iff.mp hm
    cases hm
    refine st_go ?_
    refine st_setO (f := D.int) (xs := dk.cells) (v := v3) 1 (x_fdivO (x_var 3 rfl) (x_var 1 rfl) h3) (x_ixO 0 (x_var 0 rfl) x_int rfl rfl) (x_var 2 rfl) rfl h5 ?_
    exact st_ret (x_modO (x_var 3 rfl) (x_var 1 rfl) h4) q

noncomputable def m_need_states_l1 (p_web : ((List Str) × (List (Str × Int × (List Str))))) (s1 : Unit) (x2 : Str) : Option (Fl Unit (Rs Unit)) :=
  if (!decide (x2 ∈ p_web.1)) = true then ((pword x2).bind fun v12 => some (Fl.rt (Rs.ex (.name v12)))) else (some (Fl.nx ()))
noncomputable def m_need_states (p_web : ((List Str) × (List (Str × Int × (List Str))))) (p_states : (List Str)) : Option (Rs Unit) :=
  (forR (m_need_states_l1 p_web) () p_states).bind fun y8 => (match y8 with | .rt r13 => some r13 | .nx s3 => some (Rs.tv ()))
def R_need_states : List D → Mem → Rs D → Mem → Prop := fun ds Mc d Mc' => ∃ (p_web : ((List Str) × (List (Str × Int × (List Str))))) (p_states : (List Str)) (r : (Rs Unit)), ds = [((eP2 (eTs D.str) (eTs (eP3 D.str D.int (eTs D.str)))) p_web), ((eTs D.str) p_states)] ∧ Mc = [] ∧ m_need_states p_web p_states = some r ∧ d = Rs.map (fun z => D.non) r ∧ Mc' = []
abbrev s_need_states : Stmt := topS 9
abbrev N_need_states : List Str := ["web", "states", "name"]
theorem sc_need_states : FnScope N_need_states ["web", "states"] (defScope s_need_states) := ⟨rfl, rfl, rfl, by decide +kernel, rfl, by decide +kernel, by decide +kernel⟩
theorem ok_need_states {f : Addr} {fd : FuncData} (F : Fun K "need_states" "need_states" s_need_states f fd) (B : Blt mg) (Cn : Cns mg) (EO : ErOk K Er fullS fullT) (Em : EMg mg Er) (Rz_NoName : RzI P w K mg base "NoName" Er.name "word" isTxt ["self", "word"]) : FnOk P w K mg base (L2.CX P w) 3 f fd ["web", "states"] (spX K Er R_need_states) := by
  refine fn_okX F sc_need_states (fun ds Mc d Mc' h => ?_) (fun cdv A outer s H0 Ek hr G0 Fr ds Mc d Mc' Q h q1 q2 tk po => ?_)
  · obtain ⟨p_web, p_states, r, rfl, _⟩ := h; rfl
  obtain ⟨p_web, p_states, r, rfl, rfl, hm, rfl, rfl⟩ := h
  have nd := sc_need_states.nd
  have hu : (A.deeper (envOfC "need_states" (defScope s_need_states) s.heap.objs.size f cdv)).units + 64 < cLine := hr.units
  have hu2 : (A.deeper (envOfC "need_states" (defScope s_need_states) s.heap.objs.size f cdv)).units + 65 < cLine := by have := hr.un; omega
  unfold m_need_states at hm
  obtain ⟨y8, hy9, hm⟩ := Option.bind_eq_some_iff.mp hm
  refine st_forR (s0 := ()) (en := D.str) (xs := p_states) (f := (m_need_states_l1 p_web)) (y := y8) po rfl (fun s1 => [some ((eP2 (eTs D.str) (eTs (eP3 D.str D.int (eTs D.str)))) p_web), some ((eTs D.str) p_states), none]) (fun s1 => ([] ++ Fr)) (i_tup (x_var 1 rfl)) hy9 (fun G6 e7 s1 x2 s3' hx5 hf4 hz10 => ⟨_, _, (g_name 2 nd), ?_⟩) (fun s3 hs => ?_)
  · unfold m_need_states_l1 at hf4
    refine st_if (k := (!decide (x2 ∈ p_web.1))) (t_cmp (c_notInStrs (ns := p_web.1) (x_var 2 rfl) (x_ixT (x_var 0 rfl) x_int rfl) (SeqD.tup _))) (fun hc11 => ?_) (fun hc11 => ?_)
    · have hf4 := (if_pos hc11).symm.trans hf4
      obtain ⟨v12, h12, hf4⟩ := Option.bind_eq_some_iff.mp hf4
      have hrr := Option.some.inj hf4
      subst hrr
      have hy := hz10 _ rfl; subst hy
      have hrr := Option.some.inj hm
      subst hrr
      exact st_raiseI (xc := (.name v12)) (v := (.str v12)) Rz_NoName hr (by decide) rfl tk (a_cons (x_is (x_var 2 rfl) (congrArg D.str (pword_eq h12))) a_nil) (fun G u r => of_str r) (pword_ok h12) rfl (wsh_def (fun d G H e w hx => by exact q2 _ rfl d G H (e7.trans e) w hx))
    · have hf4 := (if_neg (nf hc11)).symm.trans hf4
      refine st_go ?_
      have hrr := Option.some.inj hf4
      subst hrr
      exact st_end (fun σ H a => ⟨_, rfl, (a.wipe [2])⟩)
  subst hs
  have hrr := Option.some.inj hm
  subst hrr
  exact st_end (fun σ H ⟨G, e, sl, w⟩ => q1 _ rfl _ G H e (w.dropN 0) rep_non)
noncomputable def m_rows_led_c1 (v8 : (List (Str × Int))) (x15 : Str) :=
  (dget v8 x15).bind fun v19 => some v19
noncomputable def m_rows_led_c2 (v8 : (List (Str × Int))) (x10 : (Str × Int × (List Str))) :=
  (pfit x10.2.2.length ()).bind fun v14 => (mapO (m_rows_led_c1 v8) x10.2.2).bind fun v22 => some v22
noncomputable def m_rows_led (p_web : ((List Str) × (List (Str × Int × (List Str))))) : Option (List (List Int)) :=
  (pfit (places p_web.1).length ()).bind fun v1 => (some (dmerge [] (((places p_web.1).filter (fun (x2 : (Int × Str)) => true)).map (fun (x2 : (Int × Str)) => (x2.2, x2.1))))).bind fun v8 => (pfit p_web.2.length ()).bind fun v9 => (mapO (m_rows_led_c2 v8) p_web.2).bind fun v25 => some v25
def R_rows_led : List D → Mem → D → Mem → Prop := fun ds Mc d Mc' => ∃ (p_web : ((List Str) × (List (Str × Int × (List Str))))) (r : (List (List Int))), ds = [((eP2 (eTs D.str) (eTs (eP3 D.str D.int (eTs D.str)))) p_web)] ∧ Mc = [] ∧ m_rows_led p_web = some r ∧ d = ((eLs (eLs D.int)) r) ∧ Mc' = []
abbrev s_rows_led : Stmt := topS 10
abbrev N_rows_led : List Str := ["web", "places", "place", "name", "move", "weight", "images"]
theorem sc_rows_led : FnScope N_rows_led ["web"] (defScope s_rows_led) := ⟨rfl, rfl, rfl, by decide +kernel, rfl, by decide +kernel, by decide +kernel⟩
theorem ok_rows_led {f : Addr} {fd : FuncData} (F : Fun K "rows_led" "rows_led" s_rows_led f fd) (B : Blt mg) (Cn : Cns mg) : FnOk P w K mg base CX0 1 f fd ["web"] (spR K R_rows_led) := by
  refine fn_ok F sc_rows_led (fun ds Mc d Mc' h => ?_) (fun cdv A outer s H0 E hr G0 Fr ds Mc d Mc' Q h q => ?_)
  · obtain ⟨p_web, r, rfl, _⟩ := h; rfl
  obtain ⟨p_web, r, rfl, rfl, hm, rfl, rfl⟩ := h
  have nd := sc_rows_led.nd
  have hu : (A.deeper (envOfC "rows_led" (defScope s_rows_led) s.heap.objs.size f cdv)).units + 64 < cLine := hr.units
  have hu2 : (A.deeper (envOfC "rows_led" (defScope s_rows_led) s.heap.objs.size f cdv)).units + 65 < cLine := by have := hr.un; omega
  unfold m_rows_led at hm
  obtain ⟨v1, h1, hm⟩ := Option.bind_eq_some_iff.mp hm
  obtain ⟨v8, h8, hm⟩ := Option.bind_eq_some_iff.mp hm
  have h8 := Option.some.inj h8
  refine st_asg (d := ((eDK (Sum.inr : Str → L2.Key) D.int) v8)) 1 (x_is (x_frzD (n_dictP (kf := (Sum.inr : Str → L2.Key)) (vf := D.int) (ps := (((places p_web.1).filter (fun (x2 : (Int × Str)) => true)).map (fun (x2 : (Int × Str)) => (x2.2, x2.1)))) rfl (fun _ _ => inj_inr) (a_cons (x_frz (n_lc (own := [("place", 2), ("name", 3)]) (l_F (en2 := (eP2 D.str D.int)) (en := (eK2 D.int D.str)) (xs := (places p_web.1)) (g := (fun (x2 : (Int × Str)) => (x2.2, x2.1))) (pr := (fun (x2 : (Int × Str)) => true)) [("place", 2), ("name", 3)] (i_enumTO (xs := p_web.1) (f := D.str) (a_cons (x_ixT (x_var 0 rfl) x_int rfl) a_nil) B.enumerate) (Nat.le_of_lt (pfit_some h1).1) (fun x2 hx6 => ⟨_, fun _ _ _ _ _ => (g_ktup rfl (gs_cons (g_name 2 nd) (gs_cons (g_name 3 nd) gs_nil))), fun _ _ _ _ _ q4 acc3 => ts_nil, fun _ _ _ _ _ _ q4 acc3 => (x_tup (a_cons (x_var 3 rfl) (a_cons (x_var 2 rfl) a_nil)) (by show (2:Nat) ≤ sizeLine; decide))⟩)) rfl nd (blkOk_by (N := N_rows_led) (sc := defScope s_rows_led) (by decide +kernel)))) a_nil) B.dict)) (congrArg (eDK (Sum.inr : Str → L2.Key) D.int) h8)) ?_ nd
  obtain ⟨v9, h9, hm⟩ := Option.bind_eq_some_iff.mp hm
  obtain ⟨v25, h25, hm⟩ := Option.bind_eq_some_iff.mp hm
  have hrr := Option.some.inj hm
  subst hrr
  exact st_ret (x_frz (n_lc (own := [("move", 4), ("weight", 5), ("images", 6)]) (l_O (en2 := (eLs D.int)) (en := (eP3 D.str D.int (eTs D.str))) (xs := p_web.2) (ys := v25) (f := (m_rows_led_c2 v8)) [("move", 4), ("weight", 5), ("images", 6)] (i_tup (x_ixT (x_var 0 rfl) x_int rfl)) h25 (Nat.le_of_lt (pfit_some h9).1) (fun x10 y24 hx23 h => by unfold m_rows_led_c2 at h; obtain ⟨v14, h14, h⟩ := Option.bind_eq_some_iff.mp h; obtain ⟨v22, h22, h⟩ := Option.bind_eq_some_iff.mp h; have hrr := Option.some.inj h; subst hrr; exact ⟨_, fun _ _ _ _ _ => (g_tup rfl (gs_cons (g_name 4 nd) (gs_cons (g_name 5 nd) (gs_cons (g_name 6 nd) gs_nil)))), fun _ _ _ _ _ q12 acc11 => (x_frz (n_lc (own := [("name", 3)]) (l_O (en2 := D.int) (en := D.str) (xs := x10.2.2) (ys := v22) (f := (m_rows_led_c1 v8)) [("name", 3)] (i_tup (x_var 6 rfl)) h22 (Nat.le_of_lt (pfit_some h14).1) (fun x15 y21 hx20 h => by unfold m_rows_led_c1 at h; obtain ⟨v19, h19, h⟩ := Option.bind_eq_some_iff.mp h; have hrr := Option.some.inj h; subst hrr; exact ⟨_, fun _ _ _ _ _ => (g_name 3 nd), fun _ _ _ _ _ q17 acc16 => (x_dgetK (kf := (Sum.inr : Str → L2.Key)) (vf := D.int) (al := v8) (key := x15) (hu1 hu) (fun _ _ => inj_inr) (x_var 1 rfl) (x_var 3 rfl) (DctD.frz _) h19)⟩)) rfl nd (by exact blkOk_by (by kernel_rfl))))⟩)) rfl nd (blkOk_by (N := N_rows_led) (sc := defScope s_rows_led) (by decide +kernel)))) (fun v G H e w r => q v G H e (w.dropN 0) r)
noncomputable def m_led_along_c1 (p_row : (List Int)) (x2 : Int) :=
  (pix p_row x2).bind fun v6 => some v6
noncomputable def m_led_along (p_row : (List Int)) (p_some : (List Int)) : Option (List Int) :=
  (pfit p_some.length ()).bind fun v1 => (mapO (m_led_along_c1 p_row) p_some).bind fun v9 => (psos v9).bind fun v10 => some v10
def R_led_along : List D → Mem → D → Mem → Prop := fun ds Mc d Mc' => ∃ (p_row : (List Int)) (p_some : (List Int)) (r : (List Int)), ds = [((eLs D.int) p_row), ((eTs D.int) p_some)] ∧ Mc = [] ∧ m_led_along p_row p_some = some r ∧ d = ((eTs D.int) r) ∧ Mc' = []
abbrev s_led_along : Stmt := topS 11
abbrev N_led_along : List Str := ["row", "some", "place"]
theorem sc_led_along : FnScope N_led_along ["row", "some"] (defScope s_led_along) := ⟨rfl, rfl, rfl, by decide +kernel, rfl, by decide +kernel, by decide +kernel⟩
theorem ok_led_along {f : Addr} {fd : FuncData} (F : Fun K "led_along" "led_along" s_led_along f fd) (B : Blt mg) (Cn : Cns mg) : FnOk P w K mg base CX0 1 f fd ["row", "some"] (spR K R_led_along) := by
  refine fn_ok F sc_led_along (fun ds Mc d Mc' h => ?_) (fun cdv A outer s H0 E hr G0 Fr ds Mc d Mc' Q h q => ?_)
  · obtain ⟨p_row, p_some, r, rfl, _⟩ := h; rfl
  obtain ⟨p_row, p_some, r, rfl, rfl, hm, rfl, rfl⟩ := h
  have nd := sc_led_along.nd
  have hu : (A.deeper (envOfC "led_along" (defScope s_led_along) s.heap.objs.size f cdv)).units + 64 < cLine := hr.units
  have hu2 : (A.deeper (envOfC "led_along" (defScope s_led_along) s.heap.objs.size f cdv)).units + 65 < cLine := by have := hr.un; omega
  unfold m_led_along at hm
  obtain ⟨v1, h1, hm⟩ := Option.bind_eq_some_iff.mp hm
  obtain ⟨v9, h9, hm⟩ := Option.bind_eq_some_iff.mp hm
  obtain ⟨v10, h10, hm⟩ := Option.bind_eq_some_iff.mp hm
  have hrr := Option.some.inj hm
  subst hrr
  exact st_ret (x_tupleOf (a_cons (x_frz (n_sortedSet (xs := v9) (ys := v10) rfl (x_frz (n_lc (own := [("place", 2)]) (l_O (en2 := D.int) (en := D.int) (xs := p_some) (ys := v9) (f := (m_led_along_c1 p_row)) [("place", 2)] (i_tup (x_var 1 rfl)) h9 (Nat.le_of_lt (pfit_some h1).1) (fun x2 y8 hx7 h => by unfold m_led_along_c1 at h; obtain ⟨v6, h6, h⟩ := Option.bind_eq_some_iff.mp h; have hrr := Option.some.inj h; subst hrr; exact ⟨_, fun _ _ _ _ _ => (g_name 2 nd), fun _ _ _ _ _ q4 acc3 => (x_ixLm (f := D.int) (xs := p_row) (x_var 0 rfl) (x_var 2 rfl) h6)⟩)) rfl nd (blkOk_by (N := N_led_along) (sc := defScope s_led_along) (by decide +kernel)))) (SeqD.lst _) h10 B.sorted B.set)) a_nil) (SeqD.lst _) B.tuple) (fun v G H e w r => q v G H e (w.dropN 0) r)
noncomputable def m_is_watching_w1 (s5 : ((List ((List Int) × (List Int))) × (List (((List Int) × (List Int)) × Bool)))) : Option Bool :=
  (peq ((eLs (eP2 (eTs D.int) (eTs D.int))) s5.1) ((eLs (eP2 (eTs D.int) (eTs D.int))) ([] : List ((List Int) × (List Int))))).bind fun v12 => some (!v12)
noncomputable def m_is_watching_l2 (v15 : (((List Int) × (List Int)) × (List ((List Int) × (List Int))))) (s17 : ((List (((List Int) × (List Int)) × Bool)) × (List ((List Int) × (List Int))))) (x18 : (List Int)) : Option ((List (((List Int) × (List Int)) × Bool)) × (List ((List Int) × (List Int)))) :=
  (m_led_along x18 v15.1.1).bind fun v27 => (m_led_along x18 v15.1.2).bind fun v28 => ((if ((!dhas s17.1 (v27, v28)) && (decide (1 < ((((v27, v28).2).length : Nat) : Int)))) = true then ((dput s17.1 (v27, v28) true).bind fun v34 => (psnoc s17.2 (v27, v28)).bind fun v35 => some (v34, v35)) else (some (s17.1, s17.2)) : Option ((List (((List Int) × (List Int)) × Bool)) × (List ((List Int) × (List Int)))))).bind fun s32 => some (s32.1, s32.2)
noncomputable def m_is_watching_b3 (p_rows : (List (List Int))) (s5 : ((List ((List Int) × (List Int))) × (List (((List Int) × (List Int)) × Bool)))) : Option (Fl ((List ((List Int) × (List Int))) × (List (((List Int) × (List Int)) × Bool))) Bool) :=
  (ppopL s5.1).bind fun v15 => if ((decide (((v15.1.1.length : Nat) : Int) < 2)) && (decide (1 < ((v15.1.2.length : Nat) : Int)))) = true then (some (Fl.rt false)) else ((foldO (m_is_watching_l2 v15) (s5.2, v15.2) p_rows).bind fun s19 => some (Fl.nx (s19.2, s19.1)))
noncomputable def m_is_watching (p_rows : (List (List Int))) (p_some : (List Int)) (p_many : Int) : Option Bool :=
  (prng 0 p_many).bind fun v1 => (whileR m_is_watching_w1 (m_is_watching_b3 p_rows) ([((sortI p_some), v1)], [(((sortI p_some), v1), true)])).bind fun y14 => (match y14 with | .rt r36 => some r36 | .nx s6 => some true)
def R_is_watching : List D → Mem → D → Mem → Prop := fun ds Mc d Mc' => ∃ (p_rows : (List (List Int))) (p_some : (List Int)) (p_many : Int) (r : Bool), ds = [((eLs (eLs D.int)) p_rows), ((eLs D.int) p_some), (D.int p_many)] ∧ Mc = [] ∧ m_is_watching p_rows p_some p_many = some r ∧ d = (D.bl r) ∧ Mc' = []
abbrev s_is_watching : Stmt := topS 12
abbrev N_is_watching : List Str := ["rows", "some", "many", "first", "met", "waiting", "few", "all_of", "row", "led"]
theorem sc_is_watching : FnScope N_is_watching ["rows", "some", "many"] (defScope s_is_watching) := ⟨rfl, rfl, rfl, by decide +kernel, rfl, by decide +kernel, by decide +kernel⟩
theorem ok_is_watching {f : Addr} {fd : FuncData} (F : Fun K "is_watching" "is_watching" s_is_watching f fd) (B : Blt mg) (Cn : Cns mg) (D_led_along : Def P w K mg base 1 "led_along" ["row", "some"] R_led_along) : FnOk P w K mg base CX0 2 f fd ["rows", "some", "many"] (spR K R_is_watching) := by
  refine fn_ok F sc_is_watching (fun ds Mc d Mc' h => ?_) (fun cdv A outer s H0 E hr G0 Fr ds Mc d Mc' Q h q => ?_)
  · obtain ⟨p_rows, p_some, p_many, r, rfl, _⟩ := h; rfl
  obtain ⟨p_rows, p_some, p_many, r, rfl, rfl, hm, rfl, rfl⟩ := h
  have nd := sc_is_watching.nd
  have hu : (A.deeper (envOfC "is_watching" (defScope s_is_watching) s.heap.objs.size f cdv)).units + 64 < cLine := hr.units
  have hu2 : (A.deeper (envOfC "is_watching" (defScope s_is_watching) s.heap.objs.size f cdv)).units + 65 < cLine := by have := hr.un; omega
  unfold m_is_watching at hm
  obtain ⟨v1, h1, hm⟩ := Option.bind_eq_some_iff.mp hm
  refine st_asg (d := ((eP2 (eTs D.int) (eTs D.int)) ((sortI p_some), v1))) 3 (x_tup (a_cons (x_tupleOf (a_cons (x_frz (n_sortedO (a_cons (x_var 1 rfl) a_nil) (SeqD.lst _) (ht := by intro _ h; cases h) B.sorted)) a_nil) (SeqD.lst _) B.tuple) (a_cons (x_tupleOf (a_cons (x_frz (n_listRgO rfl (r_1 (x_var 2 rfl) B.range) h1 B.list)) a_nil) (SeqD.lst _) B.tuple) a_nil)) (by show (2:Nat) ≤ sizeLine; decide)) ?_ nd
  refine st_new (o := mDN w (kN2 (kTs NestedKey.num) (kTs NestedKey.num)) D.bl ([(((sortI p_some), v1), true)])) 4 (n_dispN (kf := (kN2 (kTs NestedKey.num) (kTs NestedKey.num))) (ef := (eP2 (eTs D.int) (eTs D.int))) (vf := D.bl) (key := ((sortI p_some), v1)) (v := true) hu (kc_p2 (kc_ts kc_int) (kc_ts kc_int)) (fun q2 => (x_var 3 rfl)) (fun q2 => x_bl)) (fun q3 => ?_) nd
  refine st_new (o := MO.lst (([((sortI p_some), v1)]).map (eP2 (eTs D.int) (eTs D.int)))) 5 (n_lst (a_cons (x_var 3 rfl) a_nil) (by show (1:Nat) ≤ sizeLine; decide)) (fun q4 => ?_) nd
  obtain ⟨y14, hy11, hm⟩ := Option.bind_eq_some_iff.mp hm
  refine st_whileR (cf := m_is_watching_w1) (f := (m_is_watching_b3 p_rows)) (s0 := ([((sortI p_some), v1)], [(((sortI p_some), v1), true)])) (y := y14) PassesOwn.never (fun s5 => [some ((eLs (eLs D.int)) p_rows), some ((eLs D.int) p_some), some (D.int p_many), some ((eP2 (eTs D.int) (eTs D.int)) ((sortI p_some), v1)), some (D.adr q3), some (D.adr q4), none, none, none, none]) (fun s5 => ((q4, MO.lst (s5.1.map (eP2 (eTs D.int) (eTs D.int)))) :: ((q3, (mDN w (kN2 (kTs NestedKey.num) (kTs NestedKey.num)) D.bl s5.2)) :: ([] ++ Fr)))) hy11 (fun s5 b9 hb10 => ?_) (fun s6 hs => ?_)
  · unfold m_is_watching_w1 at hb10
    obtain ⟨v12, h12, hb10⟩ := Option.bind_eq_some_iff.mp hb10
    cases hb10
    refine ⟨_, (t_cmp (c_neQ hu (x_var 5 rfl) (x_frz (n_lst a_nil (by show (0:Nat) ≤ sizeLine; decide))) (RdD.own 0 q4 (s5.1.map (eP2 (eTs D.int) (eTs D.int))) rfl) (RdD.self _) h12)), fun _ => rfl, fun _ s6' hf7 hz13 => ?_⟩
    unfold m_is_watching_b3 at hf7
    obtain ⟨v15, h15, hf7⟩ := Option.bind_eq_some_iff.mp hf7
    refine st_asgG (d := ((eP2 (eTs D.int) (eTs D.int)) v15.1)) (x_popLO (f := (eP2 (eTs D.int) (eTs D.int))) (xs := s5.1) 0 (x_var 5 rfl) rfl h15) (g_tup rfl (gs_cons (g_name 6 nd) (gs_cons (g_name 7 nd) gs_nil))) ?_
    refine st_if (k := ((decide (((v15.1.1.length : Nat) : Int) < 2)) && (decide (1 < ((v15.1.2.length : Nat) : Int))))) (t_w (w_andP (t_cmp (c_lt (x_lenm (f := D.int) (xs := v15.1.1) (a_cons (x_var 6 rfl) a_nil) (SeqD.tup _) B.len) x_int)) (fun _ => (w_and1 (t_cmp (c_gt (x_lenm (f := D.int) (xs := v15.1.2) (a_cons (x_var 7 rfl) a_nil) (SeqD.tup _) B.len) x_int)))))) (fun hc16 => ?_) (fun hc16 => ?_)
    · have hf7 := (if_pos hc16).symm.trans hf7
      have hrr := Option.some.inj hf7
      subst hrr
      have hy := hz13 _ rfl; subst hy
      have hrr := Option.some.inj hm
      subst hrr
      exact st_ret x_bl (fun v G H e w r => q v G H e (w.dropN 2) r)
    · have hf7 := (if_neg (nf hc16)).symm.trans hf7
      refine st_go ?_
      obtain ⟨s19, hy25, hf7⟩ := Option.bind_eq_some_iff.mp hf7
      refine st_forO (s0 := (s5.2, v15.2)) (en := (eLs D.int)) (xs := p_rows) (f := (m_is_watching_l2 v15)) (s1 := s19) PassesOwn.never rfl (fun s17 => [some ((eLs (eLs D.int)) p_rows), some ((eLs D.int) p_some), some (D.int p_many), some ((eP2 (eTs D.int) (eTs D.int)) ((sortI p_some), v1)), some (D.adr q3), some (D.adr q4), some ((eTs D.int) v15.1.1), some ((eTs D.int) v15.1.2), none, none]) (fun s17 => ((q4, MO.lst (s17.2.map (eP2 (eTs D.int) (eTs D.int)))) :: ((q3, (mDN w (kN2 (kTs NestedKey.num) (kTs NestedKey.num)) D.bl s17.1)) :: ([] ++ Fr)))) (i_lst (x_var 0 rfl)) hy25 (fun G22 e23 s17 x18 s19' hx21 hf20 => ⟨_, _, (g_name 8 nd), ?_⟩) ?_
      · unfold m_is_watching_l2 at hf20
        obtain ⟨v27, h27, hf20⟩ := Option.bind_eq_some_iff.mp hf20
        obtain ⟨v28, h28, hf20⟩ := Option.bind_eq_some_iff.mp hf20
        refine st_asg (d := ((eP2 (eTs D.int) (eTs D.int)) (v27, v28))) 9 (x_tup (a_cons (x_callD (d := ((eTs D.int) v27)) D_led_along hr (by decide) [] [] ((q4, MO.lst (s17.2.map (eP2 (eTs D.int) (eTs D.int)))) :: ((q3, (mDN w (kN2 (kTs NestedKey.num) (kTs NestedKey.num)) D.bl s17.1)) :: ([] ++ Fr))) (Mc' := []) (a_cons (x_var 8 rfl) (a_cons (x_var 6 rfl) a_nil)) ⟨x18, v15.1.1, v27, rfl, rfl, h27, rfl, rfl⟩) (a_cons (x_callD (d := ((eTs D.int) v28)) D_led_along hr (by decide) [] [] ((q4, MO.lst (s17.2.map (eP2 (eTs D.int) (eTs D.int)))) :: ((q3, (mDN w (kN2 (kTs NestedKey.num) (kTs NestedKey.num)) D.bl s17.1)) :: ([] ++ Fr))) (Mc' := []) (a_cons (x_var 8 rfl) (a_cons (x_var 7 rfl) a_nil)) ⟨x18, v15.1.2, v28, rfl, rfl, h28, rfl, rfl⟩) a_nil)) (by show (2:Nat) ≤ sizeLine; decide)) ?_ nd
        obtain ⟨s32, hj33, hf20⟩ := Option.bind_eq_some_iff.mp hf20
        refine st_ifJ (k := ((!dhas s17.1 (v27, v28)) && (decide (1 < ((((v27, v28).2).length : Nat) : Int))))) [some ((eLs (eLs D.int)) p_rows), some ((eLs D.int) p_some), some (D.int p_many), some ((eP2 (eTs D.int) (eTs D.int)) ((sortI p_some), v1)), some (D.adr q3), some (D.adr q4), some ((eTs D.int) v15.1.1), some ((eTs D.int) v15.1.2), some ((eLs D.int) x18), some ((eP2 (eTs D.int) (eTs D.int)) (v27, v28))] ((q4, MO.lst (s32.2.map (eP2 (eTs D.int) (eTs D.int)))) :: ((q3, (mDN w (kN2 (kTs NestedKey.num) (kTs NestedKey.num)) D.bl s32.1)) :: ([] ++ Fr))) (t_w (w_andP (t_cmp (c_notInN (kf := (kN2 (kTs NestedKey.num) (kTs NestedKey.num))) (ef := (eP2 (eTs D.int) (eTs D.int))) (vf := D.bl) (al := s17.1) (key := (v27, v28)) hu (kc_p2 (kc_ts kc_int) (kc_ts kc_int)) (x_var 9 rfl) (x_var 4 rfl) (DctN.own 1 q3 s17.1 rfl))) (fun _ => (w_and1 (t_cmp (c_gt (x_lenm (f := D.int) (xs := (v27, v28).2) (a_cons (x_ixT (x_var 9 rfl) x_int rfl) a_nil) (SeqD.tup _) B.len) x_int)))))) (fun hc29 => ?_) (fun hc29 => ?_) ?_
        · have hj33 := (if_pos hc29).symm.trans hj33
          obtain ⟨v34, h34, hj33⟩ := Option.bind_eq_some_iff.mp hj33
          refine st_dputN (kf := (kN2 (kTs NestedKey.num) (kTs NestedKey.num))) (ef := (eP2 (eTs D.int) (eTs D.int))) (vf := D.bl) (al := s17.1) (key := (v27, v28)) (v := true) hu (kc_p2 (kc_ts kc_int) (kc_ts kc_int)) 1 x_bl (x_var 4 rfl) (x_var 9 rfl) rfl h34 ?_
          obtain ⟨v35, h35, hj33⟩ := Option.bind_eq_some_iff.mp hj33
          refine st_expr (x_appendO (f := (eP2 (eTs D.int) (eTs D.int))) (xs := s17.2) (v := (v27, v28)) 0 (x_var 5 rfl) (a_cons (x_var 9 rfl) a_nil) rfl rfl h35) ?_
          have hrr := Option.some.inj hj33
          subst hrr
          exact st_end (fun σ H a => a)
        · have hj33 := (if_neg (nf hc29)).symm.trans hj33
          have hrr := Option.some.inj hj33
          subst hrr
          exact st_end (fun σ H a => a)
        have hrr := Option.some.inj hf20
        subst hrr
        exact st_end (fun σ H a => (a.wipe [8, 9]))
      have hrr := Option.some.inj hf7
      subst hrr
      exact st_end (fun σ H a => ⟨_, rfl, (a.wipe [6, 7])⟩)
  subst hs
  have hrr := Option.some.inj hm
  subst hrr
  exact st_ret x_bl (fun v G H e w r => q v G H e (w.dropN 2) r)
noncomputable def m_is_enough_c1 (p_web : ((List Str) × (List (Str × Int × (List Str))))) (x5 : Str) :=
  (pindex p_web.1 x5).bind fun v9 => some v9
noncomputable def m_is_enough (p_web : ((List Str) × (List (Str × Int × (List Str))))) (p_states : (List Str)) : Option (Rs Bool) :=
  (m_need_states p_web p_states).bind fun rv1 => (match rv1 with | .tv v1 => (m_rows_led p_web).bind fun v3 => (pfit p_states.length ()).bind fun v4 => (mapO (m_is_enough_c1 p_web) p_states).bind fun v12 => (m_is_watching v3 v12 ((p_web.1.length : Nat) : Int)).bind fun v13 => some (Rs.tv v13) | .ex x2 => some (Rs.ex x2))
def R_is_enough : List D → Mem → Rs D → Mem → Prop := fun ds Mc d Mc' => ∃ (p_web : ((List Str) × (List (Str × Int × (List Str))))) (p_states : (List Str)) (r : (Rs Bool)), ds = [((eP2 (eTs D.str) (eTs (eP3 D.str D.int (eTs D.str)))) p_web), ((eTs D.str) p_states)] ∧ Mc = [] ∧ m_is_enough p_web p_states = some r ∧ d = Rs.map (fun z => (D.bl z)) r ∧ Mc' = []
abbrev s_is_enough : Stmt := topS 13
abbrev N_is_enough : List Str := ["web", "states", "name"]
theorem sc_is_enough : FnScope N_is_enough ["web", "states"] (defScope s_is_enough) := ⟨rfl, rfl, rfl, by decide +kernel, rfl, by decide +kernel, by decide +kernel⟩
theorem ok_is_enough {f : Addr} {fd : FuncData} (F : Fun K "is_enough" "is_enough" s_is_enough f fd) (B : Blt mg) (Cn : Cns mg) (D_need_states : DefX P w K mg base Er 3 "need_states" ["web", "states"] R_need_states) (D_rows_led : Def P w K mg base 1 "rows_led" ["web"] R_rows_led) (D_is_watching : Def P w K mg base 2 "is_watching" ["rows", "some", "many"] R_is_watching) (EO : ErOk K Er fullS fullT) (Em : EMg mg Er) : FnOk P w K mg base (L2.CX P w) 4 f fd ["web", "states"] (spX K Er R_is_enough) := by
  refine fn_okX F sc_is_enough (fun ds Mc d Mc' h => ?_) (fun cdv A outer s H0 Ek hr G0 Fr ds Mc d Mc' Q h q1 q2 tk po => ?_)
  · obtain ⟨p_web, p_states, r, rfl, _⟩ := h; rfl
  obtain ⟨p_web, p_states, r, rfl, rfl, hm, rfl, rfl⟩ := h
  have nd := sc_is_enough.nd
  have hu : (A.deeper (envOfC "is_enough" (defScope s_is_enough) s.heap.objs.size f cdv)).units + 64 < cLine := hr.units
  have hu2 : (A.deeper (envOfC "is_enough" (defScope s_is_enough) s.heap.objs.size f cdv)).units + 65 < cLine := by have := hr.un; omega
  unfold m_is_enough at hm
  obtain ⟨rv1, h1, hm⟩ := Option.bind_eq_some_iff.mp hm
  rcases rv1 with v1 | x2
  rotate_left
  · have hrr := Option.some.inj hm
    subst hrr
    exact st_exprR  (xr_call (xc := x2) D_need_states hr (by decide) [] [] ([] ++ Fr) (Mc' := []) (a_cons (x_var 0 rfl) (a_cons (x_var 1 rfl) a_nil)) ⟨p_web, p_states, (.ex x2), rfl, rfl, h1, rfl, rfl⟩) (tk) (wsh_def (fun d G H e w hx => by exact q2 _ rfl d G H e w hx))
  refine st_expr (x_callX (d := D.non) D_need_states hr (by decide) [] [] ([] ++ Fr) (Mc' := []) (a_cons (x_var 0 rfl) (a_cons (x_var 1 rfl) a_nil)) ⟨p_web, p_states, (.tv v1), rfl, rfl, h1, rfl, rfl⟩) ?_
  obtain ⟨v3, h3, hm⟩ := Option.bind_eq_some_iff.mp hm
  obtain ⟨v4, h4, hm⟩ := Option.bind_eq_some_iff.mp hm
  obtain ⟨v12, h12, hm⟩ := Option.bind_eq_some_iff.mp hm
  obtain ⟨v13, h13, hm⟩ := Option.bind_eq_some_iff.mp hm
  have hrr := Option.some.inj hm
  subst hrr
  exact st_ret (x_callD (d := (D.bl v13)) D_is_watching hr (by decide) [] [] ([] ++ Fr) (Mc' := []) (a_cons (x_callD (d := ((eLs (eLs D.int)) v3)) D_rows_led hr (by decide) [] [] ([] ++ Fr) (Mc' := []) (a_cons (x_var 0 rfl) a_nil) ⟨p_web, v3, rfl, rfl, h3, rfl, rfl⟩) (a_cons (x_frz (n_lc (own := [("name", 2)]) (l_O (en2 := D.int) (en := D.str) (xs := p_states) (ys := v12) (f := (m_is_enough_c1 p_web)) [("name", 2)] (i_tup (x_var 1 rfl)) h12 (Nat.le_of_lt (pfit_some h4).1) (fun x5 y11 hx10 h => by unfold m_is_enough_c1 at h; obtain ⟨v9, h9, h⟩ := Option.bind_eq_some_iff.mp h; have hrr := Option.some.inj h; subst hrr; exact ⟨_, fun _ _ _ _ _ => (g_name 2 nd), fun _ _ _ _ _ q7 acc6 => (x_indexTS (x_ixT (x_var 0 rfl) x_int rfl) (a_cons (x_var 2 rfl) a_nil) h9)⟩)) rfl nd (blkOk_by (N := N_is_enough) (sc := defScope s_is_enough) (by decide +kernel)))) (a_cons (x_lenm (f := D.str) (xs := p_web.1) (a_cons (x_ixT (x_var 0 rfl) x_int rfl) a_nil) (SeqD.tup _) B.len) a_nil))) ⟨v3, v12, ((p_web.1.length : Nat) : Int), v13, rfl, rfl, h13, rfl, rfl⟩) (fun v G H e w r => q1 _ rfl v G H e (w.dropN 0) r)
noncomputable def m_l_deck_l1 (s25 : (List Int)) (x26 : Int) : Option (List Int) :=
  (pix s25 x26).bind fun v35 => (some (((((v35 % 2147483587) + (853 * x26)) + 11) * 69621) % 2147483629)).bind fun v36 => (pmul v36 v36).bind fun v37 => (some ((((v37 + (31 * x26)) % 2147483563) * 16807) % 2147483549)).bind fun v38 => (pmul v38 v38).bind fun v39 => (pset s25 x26 ((v39 * 2147483543) + ((v38 * 48271) % 2147483579))).bind fun v40 => some v40
noncomputable def m_l_deck (p_script : (List Int)) : Option Deck :=
  (pcat (cutD p_script none (some 63)) ([((p_script.length : Nat) : Int)])).bind fun v1 => (some ((((((cutD p_script none (some 63)).sum) * 48271) + (7 * ((p_script.length : Nat) : Int))) + 5) % 2147483647)).bind fun v3 => ((if (decide ((((cutD p_script none (some 63)).sum) % 2) = 1)) = true then ((prng 0 ((v1.length : Nat) : Int)).bind fun v24 => (foldO m_l_deck_l1 v1 v24).bind fun s27 => some s27) else (some v1) : Option (List Int))).bind fun s22 => some (⟨s22, 0, v3⟩ : Deck)
def R_l_deck : List D → Deck → Prop := fun ds dk => ∃ (p_script : (List Int)), ds = [(D.rlst (p_script.map D.int))] ∧ m_l_deck p_script = some dk
abbrev s_l_deck : Stmt := topS 15
abbrev N_l_deck : List Str := ["script", "cells", "seed", "k", "mixed"]
theorem sc_l_deck : FnScope N_l_deck ["script"] (defScope s_l_deck) := ⟨rfl, rfl, rfl, by decide +kernel, rfl, by decide +kernel, by decide +kernel⟩
theorem ok_l_deck {f : Addr} {fd : FuncData} (F : Fun K "_law_deck" "_law_deck" s_l_deck f fd) (B : Blt mg) (Cn : Cns mg) : FnOk P w K mg base CX0 1 f fd ["script"] (spDk K R_l_deck) := by
  refine fn_okDk F sc_l_deck (fun ds dk h => ?_) (fun cdv A outer s H0 E hr G0 Fr ds dk Q h q => ?_)
  · obtain ⟨p_script, rfl, _⟩ := h; rfl
  obtain ⟨p_script, rfl, hm⟩ := h
  have nd := sc_l_deck.nd
  have hu : (A.deeper (envOfC "_law_deck" (defScope s_l_deck) s.heap.objs.size f cdv)).units + 64 < cLine := hr.units
  unfold m_l_deck at hm
  obtain ⟨v1, h1, hm⟩ := Option.bind_eq_some_iff.mp hm
  refine st_new (o := MO.lst (v1.map D.int)) 1 (n_catQ (f := D.int) (xs := (cutD p_script none (some 63))) (ys := [((p_script.length : Nat) : Int)]) (x_frz (n_slRm (f := D.int) (xs := p_script) (x_var 0 rfl) o_none (o_some x_int))) (x_frz (n_lst (a_cons (x_lenm (f := D.int) (xs := p_script) (a_cons (x_var 0 rfl) a_nil) (SeqD.rlst _) B.len) a_nil) (by show (1:Nat) ≤ sizeLine; decide))) (LsD.lst _) (LsD.lst _) h1) (fun q2 => ?_) nd
  obtain ⟨v3, h3, hm⟩ := Option.bind_eq_some_iff.mp hm
  have h3 := Option.some.inj h3
  refine st_asg (d := (D.int v3)) 2 (x_is (x_modC (x_add (x_add (x_mulR (x_sum (ns := (cutD p_script none (some 63))) rfl (a_cons (x_frz (n_slRm (f := D.int) (xs := p_script) (x_var 0 rfl) o_none (o_some x_int))) a_nil) (SeqD.lst _) (ht := by intro _ h; cases h) B.sum) x_int) (x_mulL x_int (x_lenm (f := D.int) (xs := p_script) (a_cons (x_var 0 rfl) a_nil) (SeqD.rlst _) B.len))) x_int) x_int) (congrArg D.int h3)) ?_ nd
  obtain ⟨s22, hj23, hm⟩ := Option.bind_eq_some_iff.mp hm
  refine st_ifJ (k := (decide ((((cutD p_script none (some 63)).sum) % 2) = 1))) [some (D.rlst (p_script.map D.int)), some (D.adr q2), some (D.int v3), none, none] ((q2, MO.lst (s22.map D.int)) :: Fr) (t_cmp (c_eqI (x_modC (x_sum (ns := (cutD p_script none (some 63))) rfl (a_cons (x_frz (n_slRm (f := D.int) (xs := p_script) (x_var 0 rfl) o_none (o_some x_int))) a_nil) (SeqD.lst _) (ht := by intro _ h; cases h) B.sum) x_int) x_int)) (fun hc4 => ?_) (fun hc4 => ?_) ?_
  · have hj23 := (if_pos hc4).symm.trans hj23
    obtain ⟨v24, h24, hj23⟩ := Option.bind_eq_some_iff.mp hj23
    obtain ⟨s27, hy33, hj23⟩ := Option.bind_eq_some_iff.mp hj23
    refine st_forO (s0 := v1) (en := D.int) (xs := v24) (f := m_l_deck_l1) (s1 := s27) PassesOwn.never rfl (fun s25 => [some (D.rlst (p_script.map D.int)), some (D.adr q2), some (D.int v3), none, none]) (fun s25 => ((q2, MO.lst (s25.map D.int)) :: Fr)) (i_rng1O (a_cons (x_lenm (f := D.int) (xs := v1) (a_cons (x_var 1 rfl) a_nil) (SeqD.own 0 q2 (v1.map D.int) rfl) B.len) a_nil) h24 B.range) hy33 (fun G30 e31 s25 x26 s27' hx29 hf28 => ⟨_, _, (g_name 3 nd), ?_⟩) ?_
    · unfold m_l_deck_l1 at hf28
      obtain ⟨v35, h35, hf28⟩ := Option.bind_eq_some_iff.mp hf28
      obtain ⟨v36, h36, hf28⟩ := Option.bind_eq_some_iff.mp hf28
      have h36 := Option.some.inj h36
      refine st_asg (d := (D.int v36)) 4 (x_is (x_modC (x_mulR (x_add (x_add (x_modC (x_ixOm (f := D.int) (xs := s25) 0 (x_var 1 rfl) (x_var 3 rfl) rfl h35) x_int) (x_mulL x_int (x_var 3 rfl))) x_int) x_int) x_int) (congrArg D.int h36)) ?_ nd
      obtain ⟨v37, h37, hf28⟩ := Option.bind_eq_some_iff.mp hf28
      obtain ⟨v38, h38, hf28⟩ := Option.bind_eq_some_iff.mp hf28
      have h38 := Option.some.inj h38
      refine st_asg (d := (D.int v38)) 4 (x_is (x_modC (x_mulR (x_modC (x_add (x_mulO (x_var 4 rfl) (x_var 4 rfl) h37) (x_mulL x_int (x_var 3 rfl))) x_int) x_int) x_int) (congrArg D.int h38)) ?_ nd
      obtain ⟨v39, h39, hf28⟩ := Option.bind_eq_some_iff.mp hf28
      obtain ⟨v40, h40, hf28⟩ := Option.bind_eq_some_iff.mp hf28
      refine st_setO (f := D.int) (xs := s25) (v := ((v39 * 2147483543) + ((v38 * 48271) % 2147483579))) 0 (x_add (x_mulR (x_mulO (x_var 4 rfl) (x_var 4 rfl) h39) x_int) (x_modC (x_mulR (x_var 4 rfl) x_int) x_int)) (x_var 1 rfl) (x_var 3 rfl) rfl h40 ?_
      have hrr := Option.some.inj hf28
      subst hrr
      exact st_end (fun σ H a => (a.wipe [3, 4]))
    have hrr := Option.some.inj hj23
    subst hrr
    exact st_end (fun σ H a => a)
  · have hj23 := (if_neg (nf hc4)).symm.trans hj23
    have hrr := Option.some.inj hj23
    subst hrr
    exact st_end (fun σ H a => a)
  cases hm
  exact st_retX (n_lst (a_cons (x_var 1 rfl) (a_cons x_int (a_cons (x_var 2 rfl) a_nil))) (by show (3:Nat) ≤ sizeLine; decide)) (fun p G H e w => q p _ G H e w)
noncomputable def m_l_names_c1 (s10 : ((List Str) × Deck)) (x7 : Int) :=
  (m_l_take s10.2 ((s10.1.length : Nat) : Int)).bind fun v11 => (ppop s10.1 v11.1).bind fun v12 => some (v12.1, (v12.2, v11.2))
noncomputable def m_l_names_w2 (p_many : Int) (s16 : ((List Str) × Deck)) : Option Bool :=
  some (decide (((s16.1.length : Nat) : Int) < p_many))
noncomputable def m_l_names_c3 (v1 : Str) (s30 : Deck) (x27 : Int) :=
  (m_l_take s30 26).bind fun v31 => (pixS v1 v31.1).bind fun v32 => some (v32, v31.2)
noncomputable def m_l_names_w4 (s16 : ((List Str) × Deck)) (s47 : (Str × Int)) : Option Bool :=
  some (decide (s47.1 ∈ s16.1))
noncomputable def m_l_names_b5 (v1 : Str) (s47 : (Str × Int)) : Option (Str × Int) :=
  (pixS v1 (s47.2 % 26)).bind fun v56 => (pixS v1 (s47.2 / 26)).bind fun v57 => (padd v56 v57).bind fun v58 => (some (s47.2 + 1)).bind fun v59 => some (v58, v59)
noncomputable def m_l_names_b6 (v1 : Str) (s16 : ((List Str) × Deck)) : Option ((List Str) × Deck) :=
  (m_l_take s16.2 8).bind fun v25 => (prng 0 (1 + v25.1)).bind fun v26 => (mapS (m_l_names_c3 v1) v25.2 v26).bind fun v33 => (pjoin (Str.ofString "") v33.1).bind fun v36 => (pcat ([(Str.ofString "a")]) s16.1).bind fun v37 => (pix v37 (-1)).bind fun v38 => (m_l_take v33.2 26).bind fun v39 => (pixS v1 v39.1).bind fun v40 => (padd v38 v40).bind fun v41 => (pcutS v41 none (some 8)).bind fun v42 => (m_l_take v39.2 26).bind fun v43 => (pixS v1 v43.1).bind fun v44 => (m_l_take v43.2 3).bind fun v45 => (pix ([v36, v42, v44]) v45.1).bind fun v46 => (whileO (m_l_names_w4 s16) (m_l_names_b5 v1) (v46, 0)).bind fun s48 => (psnoc s16.1 s48.1).bind fun v60 => some (v60, v45.2)
noncomputable def m_l_names (dk : Deck) (p_many : Int) : Option ((List Str) × Deck) :=
  (some (Str.ofString "abcdefghijklmnopqrstuvwxyz")).bind fun v1 => (m_l_take dk 4).bind fun v3 => if (decide (v3.1 = 0)) = true then ((prng 0 p_many).bind fun v6 => (mapS m_l_names_c1 ([(Str.ofString "a"), (Str.ofString "b"), (Str.ofString "ab"), (Str.ofString "ba"), (Str.ofString "aa"), (Str.ofString "bb"), (Str.ofString "aab"), (Str.ofString "abb"), (Str.ofString "aba"), (Str.ofString "bab")], v3.2) v6).bind fun v13 => some (v13.1, v13.2.2)) else ((whileO (m_l_names_w2 p_many) (m_l_names_b6 v1) (([] : List Str), v3.2)).bind fun s17 => some (s17.1, s17.2))
def R_l_names : List D → Mem → D → Mem → Prop := fun ds Mc d Mc' => ∃ (a c : Addr) (dk : Deck) (p_many : Int) (r : ((List Str) × Deck)), ds = [D.adr a, (D.int p_many)] ∧ Mc = Deck.mem a c dk ∧ m_l_names dk p_many = some r ∧ d = ((eLs D.str) r.1) ∧ Mc' = Deck.mem a c r.2
abbrev s_l_names : Stmt := topS 17
abbrev N_l_names : List Str := ["deck", "many", "letters", "found", "left", "k", "any_word", "ahead", "word", "turn"]
theorem sc_l_names : FnScope N_l_names ["deck", "many"] (defScope s_l_names) := ⟨rfl, rfl, rfl, by decide +kernel, rfl, by decide +kernel, by decide +kernel⟩
theorem ok_l_names {f : Addr} {fd : FuncData} (F : Fun K "_law_names" "_law_names" s_l_names f fd) (B : Blt mg) (Cn : Cns mg) (D_l_take : Def P w K mg base 1 "_law_take" ["deck", "many"] R_l_take) : FnOk P w K mg base CX0 2 f fd ["deck", "many"] (spR K R_l_names) := by
  refine fn_ok F sc_l_names (fun ds Mc d Mc' h => ?_) (fun cdv A outer s H0 E hr G0 Fr ds Mc d Mc' Q h q => ?_)
  · obtain ⟨a, c, dk, p_many, r, rfl, _⟩ := h; rfl
  obtain ⟨a, c, dk, p_many, r, rfl, rfl, hm, rfl, rfl⟩ := h
  have nd := sc_l_names.nd
  have hu : (A.deeper (envOfC "_law_names" (defScope s_l_names) s.heap.objs.size f cdv)).units + 64 < cLine := hr.units
  have hu2 : (A.deeper (envOfC "_law_names" (defScope s_l_names) s.heap.objs.size f cdv)).units + 65 < cLine := by have := hr.un; omega
  unfold m_l_names at hm
  obtain ⟨v1, h1, hm⟩ := Option.bind_eq_some_iff.mp hm
  have h1 := Option.some.inj h1
  refine st_asg (d := (D.str v1)) 2 (x_is x_str (congrArg D.str h1)) ?_ nd
  refine st_new (o := MO.lst (([] : List Str).map D.str)) 3 (n_lst a_nil (by show (0:Nat) ≤ sizeLine; decide)) (fun q2 => ?_) nd
  obtain ⟨v3, h3, hm⟩ := Option.bind_eq_some_iff.mp hm
  refine st_if (k := (decide (v3.1 = 0))) (t_cmp (c_eqI (x_callD (d := (D.int v3.1)) D_l_take hr (by decide) [(q2, MO.lst (([] : List Str).map D.str))] (Deck.mem a c dk) Fr (Mc' := Deck.mem a c v3.2) (a_cons (x_var 0 rfl) (a_cons x_int a_nil)) ⟨a, c, dk, 4, v3, rfl, rfl, h3, rfl, rfl⟩) x_int)) (fun hc4 => ?_) (fun hc4 => ?_)
  · have hm := (if_pos hc4).symm.trans hm
    refine st_new (o := MO.lst (([(Str.ofString "a"), (Str.ofString "b"), (Str.ofString "ab"), (Str.ofString "ba"), (Str.ofString "aa"), (Str.ofString "bb"), (Str.ofString "aab"), (Str.ofString "abb"), (Str.ofString "aba"), (Str.ofString "bab")]).map D.str)) 4 (n_lst (a_cons x_str (a_cons x_str (a_cons x_str (a_cons x_str (a_cons x_str (a_cons x_str (a_cons x_str (a_cons x_str (a_cons x_str (a_cons x_str a_nil)))))))))) (by show (10:Nat) ≤ sizeLine; decide)) (fun q5 => ?_) nd
    obtain ⟨v6, h6, hm⟩ := Option.bind_eq_some_iff.mp hm
    obtain ⟨v13, h13, hm⟩ := Option.bind_eq_some_iff.mp hm
    have hrr := Option.some.inj hm
    subst hrr
    exact st_ret (x_frz (n_lc (own := [("k", 5)]) (l_S (en2 := D.str) (en := D.int) (s0 := ([(Str.ofString "a"), (Str.ofString "b"), (Str.ofString "ab"), (Str.ofString "ba"), (Str.ofString "aa"), (Str.ofString "bb"), (Str.ofString "aab"), (Str.ofString "abb"), (Str.ofString "aba"), (Str.ofString "bab")], v3.2)) (s1 := v13.2) (ys := v13.1) (f := m_l_names_c1) [("k", 5)] (fun s10 => ((q5, MO.lst (s10.1.map D.str)) :: ((q2, MO.lst (([] : List Str).map D.str)) :: (Deck.mem a c s10.2 ++ Fr)))) (i_rng1O (a_cons (x_var 1 rfl) a_nil) h6 B.range) h13 (prng_len h6) (fun s10 x7 y14 hx15 h => by unfold m_l_names_c1 at h; obtain ⟨v11, h11, h⟩ := Option.bind_eq_some_iff.mp h; obtain ⟨v12, h12, h⟩ := Option.bind_eq_some_iff.mp h; have hrr := Option.some.inj h; subst hrr; exact ⟨_, fun _ _ _ _ _ => (g_name 5 nd), fun _ _ _ _ _ q9 acc8 => (x_popO (f := D.str) (xs := s10.1) 1 (x_var 4 rfl) (a_cons (x_callD (d := (D.int v11.1)) D_l_take hr (by decide) [(q9, MO.lst acc8), (q5, MO.lst (s10.1.map D.str)), (q2, MO.lst (([] : List Str).map D.str))] (Deck.mem a c s10.2) Fr (Mc' := Deck.mem a c v11.2) (a_cons (x_var 0 rfl) (a_cons (x_lenm (f := D.str) (xs := s10.1) (a_cons (x_var 4 rfl) a_nil) (SeqD.own 1 q5 (s10.1.map D.str) rfl) B.len) a_nil)) ⟨a, c, s10.2, ((s10.1.length : Nat) : Int), v11, rfl, rfl, h11, rfl, rfl⟩) a_nil) rfl rfl h12)⟩)) rfl nd (blkOk_by (N := N_l_names) (sc := defScope s_l_names) (by decide +kernel)))) (fun v G H e w r => q v G H e (w.dropN 2) r)
  · have hm := (if_neg (nf hc4)).symm.trans hm
    refine st_go ?_
    obtain ⟨s17, hy22, hm⟩ := Option.bind_eq_some_iff.mp hm
    refine st_whileO (cf := (m_l_names_w2 p_many)) (f := (m_l_names_b6 v1)) (s0 := (([] : List Str), v3.2)) (s1 := s17) PassesOwn.never (fun s16 => [some (D.adr a), some (D.int p_many), some (D.str v1), some (D.adr q2), none, none, none, none, none, none]) (fun s16 => ((q2, MO.lst (s16.1.map D.str)) :: (Deck.mem a c s16.2 ++ Fr))) hy22 (fun s16 b20 hb21 => ?_) (fun _ => ?_)
    · unfold m_l_names_w2 at hb21
      cases hb21
      refine ⟨_, (t_cmp (c_lt (x_lenm (f := D.str) (xs := s16.1) (a_cons (x_var 3 rfl) a_nil) (SeqD.own 0 q2 (s16.1.map D.str) rfl) B.len) (x_var 1 rfl))), fun _ => rfl, fun _ s17' hf18 => ?_⟩
      unfold m_l_names_b6 at hf18
      obtain ⟨v25, h25, hf18⟩ := Option.bind_eq_some_iff.mp hf18
      obtain ⟨v26, h26, hf18⟩ := Option.bind_eq_some_iff.mp hf18
      obtain ⟨v33, h33, hf18⟩ := Option.bind_eq_some_iff.mp hf18
      obtain ⟨v36, h36, hf18⟩ := Option.bind_eq_some_iff.mp hf18
      refine st_asg (d := (D.str v36)) 6 (x_joinO x_str (a_cons (x_frz (n_lc (own := [("k", 5)]) (l_S (en2 := D.str) (en := D.int) (s0 := v25.2) (s1 := v33.2) (ys := v33.1) (f := (m_l_names_c3 v1)) [("k", 5)] (fun s30 => ((q2, MO.lst (s16.1.map D.str)) :: (Deck.mem a c s30 ++ Fr))) (i_rng1O (a_cons (x_add x_int (x_callD (d := (D.int v25.1)) D_l_take hr (by decide) [(q2, MO.lst (s16.1.map D.str))] (Deck.mem a c s16.2) Fr (Mc' := Deck.mem a c v25.2) (a_cons (x_var 0 rfl) (a_cons x_int a_nil)) ⟨a, c, s16.2, 8, v25, rfl, rfl, h25, rfl, rfl⟩)) a_nil) h26 B.range) h33 (prng_len h26) (fun s30 x27 y34 hx35 h => by unfold m_l_names_c3 at h; obtain ⟨v31, h31, h⟩ := Option.bind_eq_some_iff.mp h; obtain ⟨v32, h32, h⟩ := Option.bind_eq_some_iff.mp h; have hrr := Option.some.inj h; subst hrr; exact ⟨_, fun _ _ _ _ _ => (g_name 5 nd), fun _ _ _ _ _ q29 acc28 => (x_ixSm (x_var 2 rfl) (x_callD (d := (D.int v31.1)) D_l_take hr (by decide) [(q29, MO.lst acc28), (q2, MO.lst (s16.1.map D.str))] (Deck.mem a c s30) Fr (Mc' := Deck.mem a c v31.2) (a_cons (x_var 0 rfl) (a_cons x_int a_nil)) ⟨a, c, s30, 26, v31, rfl, rfl, h31, rfl, rfl⟩) h32)⟩)) rfl nd (blkOk_by (N := N_l_names) (sc := defScope s_l_names) (by decide +kernel)))) a_nil) (SeqD.lst _) h36) ?_ nd
      obtain ⟨v37, h37, hf18⟩ := Option.bind_eq_some_iff.mp hf18
      obtain ⟨v38, h38, hf18⟩ := Option.bind_eq_some_iff.mp hf18
      obtain ⟨v39, h39, hf18⟩ := Option.bind_eq_some_iff.mp hf18
      obtain ⟨v40, h40, hf18⟩ := Option.bind_eq_some_iff.mp hf18
      obtain ⟨v41, h41, hf18⟩ := Option.bind_eq_some_iff.mp hf18
      refine st_asg (d := (D.str v41)) 7 (x_addSO (x_ixLm (f := D.str) (xs := v37) (x_frz (n_catQ (f := D.str) (xs := [(Str.ofString "a")]) (ys := s16.1) (x_frz (n_lst (a_cons x_str a_nil) (by show (1:Nat) ≤ sizeLine; decide))) (x_var 3 rfl) (LsD.lst _) (LsD.own 0 q2 (s16.1.map D.str) rfl) h37)) (x_neg x_int) h38) (x_ixSm (x_var 2 rfl) (x_callD (d := (D.int v39.1)) D_l_take hr (by decide) [(q2, MO.lst (s16.1.map D.str))] (Deck.mem a c v33.2) Fr (Mc' := Deck.mem a c v39.2) (a_cons (x_var 0 rfl) (a_cons x_int a_nil)) ⟨a, c, v33.2, 26, v39, rfl, rfl, h39, rfl, rfl⟩) h40) h41) ?_ nd
      obtain ⟨v42, h42, hf18⟩ := Option.bind_eq_some_iff.mp hf18
      obtain ⟨v43, h43, hf18⟩ := Option.bind_eq_some_iff.mp hf18
      obtain ⟨v44, h44, hf18⟩ := Option.bind_eq_some_iff.mp hf18
      obtain ⟨v45, h45, hf18⟩ := Option.bind_eq_some_iff.mp hf18
      obtain ⟨v46, h46, hf18⟩ := Option.bind_eq_some_iff.mp hf18
      refine st_asg (d := (D.str v46)) 8 (x_ixLm (f := D.str) (xs := [v36, v42, v44]) (x_frz (n_lst (a_cons (x_var 6 rfl) (a_cons (x_slSO (x_var 7 rfl) o_none (o_some x_int) h42) (a_cons (x_ixSm (x_var 2 rfl) (x_callD (d := (D.int v43.1)) D_l_take hr (by decide) [(q2, MO.lst (s16.1.map D.str))] (Deck.mem a c v39.2) Fr (Mc' := Deck.mem a c v43.2) (a_cons (x_var 0 rfl) (a_cons x_int a_nil)) ⟨a, c, v39.2, 26, v43, rfl, rfl, h43, rfl, rfl⟩) h44) a_nil))) (by show (3:Nat) ≤ sizeLine; decide))) (x_callD (d := (D.int v45.1)) D_l_take hr (by decide) [(q2, MO.lst (s16.1.map D.str))] (Deck.mem a c v43.2) Fr (Mc' := Deck.mem a c v45.2) (a_cons (x_var 0 rfl) (a_cons x_int a_nil)) ⟨a, c, v43.2, 3, v45, rfl, rfl, h45, rfl, rfl⟩) h46) ?_ nd
      refine st_asg (d := (D.int 0)) 9 x_int ?_ nd
      obtain ⟨s48, hy53, hf18⟩ := Option.bind_eq_some_iff.mp hf18
      refine st_whileO (cf := (m_l_names_w4 s16)) (f := (m_l_names_b5 v1)) (s0 := (v46, 0)) (s1 := s48) PassesOwn.never (fun s47 => [some (D.adr a), some (D.int p_many), some (D.str v1), some (D.adr q2), none, none, some (D.str v36), some (D.str v41), some (D.str s47.1), some (D.int s47.2)]) (fun s47 => ((q2, MO.lst (s16.1.map D.str)) :: (Deck.mem a c v45.2 ++ Fr))) hy53 (fun s47 b51 hb52 => ?_) (fun _ => ?_)
      · unfold m_l_names_w4 at hb52
        cases hb52
        refine ⟨_, (t_cmp (c_inStrs (ns := s16.1) (x_var 8 rfl) (x_var 3 rfl) (SeqD.own 0 q2 (s16.1.map D.str) rfl))), fun _ => rfl, fun _ s48' hf49 => ?_⟩
        unfold m_l_names_b5 at hf49
        obtain ⟨v56, h56, hf49⟩ := Option.bind_eq_some_iff.mp hf49
        obtain ⟨v57, h57, hf49⟩ := Option.bind_eq_some_iff.mp hf49
        obtain ⟨v58, h58, hf49⟩ := Option.bind_eq_some_iff.mp hf49
        refine st_asg (d := (D.str v58)) 8 (x_addSO (x_ixSm (x_var 2 rfl) (x_modC (x_var 9 rfl) x_int) h56) (x_ixSm (x_var 2 rfl) (x_fdivC (x_var 9 rfl) x_int) h57) h58) ?_ nd
        obtain ⟨v59, h59, hf49⟩ := Option.bind_eq_some_iff.mp hf49
        have h59 := Option.some.inj h59
        refine st_asg (d := (D.int v59)) 9 (x_is (x_add (x_var 9 rfl) x_int) (congrArg D.int h59)) ?_ nd
        have hrr := Option.some.inj hf49
        subst hrr
        exact st_end (fun σ H a => a)
      obtain ⟨v60, h60, hf18⟩ := Option.bind_eq_some_iff.mp hf18
      refine st_expr (x_appendO (f := D.str) (xs := s16.1) (v := s48.1) 0 (x_var 3 rfl) (a_cons (x_var 8 rfl) a_nil) rfl rfl h60) ?_
      have hrr := Option.some.inj hf18
      subst hrr
      exact st_end (fun σ H a => (a.wipe [6, 7, 8, 9]))
    refine st_frz (ds := s17.1.map D.str) 3 0 rfl rfl ?_
    have hrr := Option.some.inj hm
    subst hrr
    exact st_ret (x_var 3 rfl) (fun v G H e w r => q v G H e (w.dropN 0) r)
noncomputable def m_l_shuffled_c1 (s6 : ((List Int) × Deck)) (x3 : Int) :=
  (m_l_take s6.2 ((s6.1.length : Nat) : Int)).bind fun v7 => (ppop s6.1 v7.1).bind fun v8 => some (v8.1, (v8.2, v7.2))
noncomputable def m_l_shuffled (dk : Deck) (p_things : (List Int)) : Option ((List Int) × Deck) :=
  (prng 0 ((p_things.length : Nat) : Int)).bind fun v2 => (mapS m_l_shuffled_c1 (p_things, dk) v2).bind fun v9 => some (v9.1, v9.2.2)
def R_l_shuffled : List D → Mem → D → Mem → Prop := fun ds Mc d Mc' => ∃ (a c : Addr) (dk : Deck) (p_things : (List Int)) (r : ((List Int) × Deck)), ds = [D.adr a, ((eLs D.int) p_things)] ∧ Mc = Deck.mem a c dk ∧ m_l_shuffled dk p_things = some r ∧ d = ((eLs D.int) r.1) ∧ Mc' = Deck.mem a c r.2
abbrev s_l_shuffled : Stmt := topS 18
abbrev N_l_shuffled : List Str := ["deck", "things", "left", "k"]
theorem sc_l_shuffled : FnScope N_l_shuffled ["deck", "things"] (defScope s_l_shuffled) := ⟨rfl, rfl, rfl, by decide +kernel, rfl, by decide +kernel, by decide +kernel⟩
theorem ok_l_shuffled {f : Addr} {fd : FuncData} (F : Fun K "_law_shuffled" "_law_shuffled" s_l_shuffled f fd) (B : Blt mg) (Cn : Cns mg) (D_l_take : Def P w K mg base 1 "_law_take" ["deck", "many"] R_l_take) : FnOk P w K mg base CX0 2 f fd ["deck", "things"] (spR K R_l_shuffled) := by
  refine fn_ok F sc_l_shuffled (fun ds Mc d Mc' h => ?_) (fun cdv A outer s H0 E hr G0 Fr ds Mc d Mc' Q h q => ?_)
  · obtain ⟨a, c, dk, p_things, r, rfl, _⟩ := h; rfl
  obtain ⟨a, c, dk, p_things, r, rfl, rfl, hm, rfl, rfl⟩ := h
  have nd := sc_l_shuffled.nd
  have hu : (A.deeper (envOfC "_law_shuffled" (defScope s_l_shuffled) s.heap.objs.size f cdv)).units + 64 < cLine := hr.units
  have hu2 : (A.deeper (envOfC "_law_shuffled" (defScope s_l_shuffled) s.heap.objs.size f cdv)).units + 65 < cLine := by have := hr.un; omega
  unfold m_l_shuffled at hm
  refine st_new (o := MO.lst (p_things.map D.int)) 2 (n_listOf (a_cons (x_var 1 rfl) a_nil) (SeqD.lst _) B.list) (fun q1 => ?_) nd
  obtain ⟨v2, h2, hm⟩ := Option.bind_eq_some_iff.mp hm
  obtain ⟨v9, h9, hm⟩ := Option.bind_eq_some_iff.mp hm
  have hrr := Option.some.inj hm
  subst hrr
  exact st_ret (x_frz (n_lc (own := [("k", 3)]) (l_S (en2 := D.int) (en := D.int) (s0 := (p_things, dk)) (s1 := v9.2) (ys := v9.1) (f := m_l_shuffled_c1) [("k", 3)] (fun s6 => ((q1, MO.lst (s6.1.map D.int)) :: (Deck.mem a c s6.2 ++ Fr))) (i_rng1O (a_cons (x_lenm (f := D.int) (xs := p_things) (a_cons (x_var 2 rfl) a_nil) (SeqD.own 0 q1 (p_things.map D.int) rfl) B.len) a_nil) h2 B.range) h9 (prng_len h2) (fun s6 x3 y10 hx11 h => by unfold m_l_shuffled_c1 at h; obtain ⟨v7, h7, h⟩ := Option.bind_eq_some_iff.mp h; obtain ⟨v8, h8, h⟩ := Option.bind_eq_some_iff.mp h; have hrr := Option.some.inj h; subst hrr; exact ⟨_, fun _ _ _ _ _ => (g_name 3 nd), fun _ _ _ _ _ q5 acc4 => (x_popO (f := D.int) (xs := s6.1) 1 (x_var 2 rfl) (a_cons (x_callD (d := (D.int v7.1)) D_l_take hr (by decide) [(q5, MO.lst acc4), (q1, MO.lst (s6.1.map D.int))] (Deck.mem a c s6.2) Fr (Mc' := Deck.mem a c v7.2) (a_cons (x_var 0 rfl) (a_cons (x_lenm (f := D.int) (xs := s6.1) (a_cons (x_var 2 rfl) a_nil) (SeqD.own 1 q1 (s6.1.map D.int) rfl) B.len) a_nil)) ⟨a, c, s6.2, ((s6.1.length : Nat) : Int), v7, rfl, rfl, h7, rfl, rfl⟩) a_nil) rfl rfl h8)⟩)) rfl nd (blkOk_by (N := N_l_shuffled) (sc := defScope s_l_shuffled) (by decide +kernel)))) (fun v G H e w r => q v G H e (w.dropN 1) r)
noncomputable def m_l_shuffled_t_c1 (s6 : ((List Str) × Deck)) (x3 : Int) :=
  (m_l_take s6.2 ((s6.1.length : Nat) : Int)).bind fun v7 => (ppop s6.1 v7.1).bind fun v8 => some (v8.1, (v8.2, v7.2))
noncomputable def m_l_shuffled_t (dk : Deck) (p_things : (List Str)) : Option ((List Str) × Deck) :=
  (prng 0 ((p_things.length : Nat) : Int)).bind fun v2 => (mapS m_l_shuffled_t_c1 (p_things, dk) v2).bind fun v9 => some (v9.1, v9.2.2)
def R_l_shuffled_t : List D → Mem → D → Mem → Prop := fun ds Mc d Mc' => ∃ (a c : Addr) (dk : Deck) (p_things : (List Str)) (r : ((List Str) × Deck)), ds = [D.adr a, ((eTs D.str) p_things)] ∧ Mc = Deck.mem a c dk ∧ m_l_shuffled_t dk p_things = some r ∧ d = ((eLs D.str) r.1) ∧ Mc' = Deck.mem a c r.2
abbrev s_l_shuffled_t : Stmt := topS 18
abbrev N_l_shuffled_t : List Str := ["deck", "things", "left", "k"]
theorem sc_l_shuffled_t : FnScope N_l_shuffled_t ["deck", "things"] (defScope s_l_shuffled_t) := ⟨rfl, rfl, rfl, by decide +kernel, rfl, by decide +kernel, by decide +kernel⟩
theorem ok_l_shuffled_t {f : Addr} {fd : FuncData} (F : Fun K "_law_shuffled" "_law_shuffled" s_l_shuffled_t f fd) (B : Blt mg) (Cn : Cns mg) (D_l_take : Def P w K mg base 1 "_law_take" ["deck", "many"] R_l_take) : FnOk P w K mg base CX0 2 f fd ["deck", "things"] (spR K R_l_shuffled_t) := by
  refine fn_ok F sc_l_shuffled_t (fun ds Mc d Mc' h => ?_) (fun cdv A outer s H0 E hr G0 Fr ds Mc d Mc' Q h q => ?_)
  · obtain ⟨a, c, dk, p_things, r, rfl, _⟩ := h; rfl
  obtain ⟨a, c, dk, p_things, r, rfl, rfl, hm, rfl, rfl⟩ := h
  have nd := sc_l_shuffled_t.nd
  have hu : (A.deeper (envOfC "_law_shuffled" (defScope s_l_shuffled_t) s.heap.objs.size f cdv)).units + 64 < cLine := hr.units
  have hu2 : (A.deeper (envOfC "_law_shuffled" (defScope s_l_shuffled_t) s.heap.objs.size f cdv)).units + 65 < cLine := by have := hr.un; omega
  unfold m_l_shuffled_t at hm
  refine st_new (o := MO.lst (p_things.map D.str)) 2 (n_listOf (a_cons (x_var 1 rfl) a_nil) (SeqD.tup _) B.list) (fun q1 => ?_) nd
  obtain ⟨v2, h2, hm⟩ := Option.bind_eq_some_iff.mp hm
  obtain ⟨v9, h9, hm⟩ := Option.bind_eq_some_iff.mp hm
  have hrr := Option.some.inj hm
  subst hrr
  exact st_ret (x_frz (n_lc (own := [("k", 3)]) (l_S (en2 := D.str) (en := D.int) (s0 := (p_things, dk)) (s1 := v9.2) (ys := v9.1) (f := m_l_shuffled_t_c1) [("k", 3)] (fun s6 => ((q1, MO.lst (s6.1.map D.str)) :: (Deck.mem a c s6.2 ++ Fr))) (i_rng1O (a_cons (x_lenm (f := D.str) (xs := p_things) (a_cons (x_var 2 rfl) a_nil) (SeqD.own 0 q1 (p_things.map D.str) rfl) B.len) a_nil) h2 B.range) h9 (prng_len h2) (fun s6 x3 y10 hx11 h => by unfold m_l_shuffled_t_c1 at h; obtain ⟨v7, h7, h⟩ := Option.bind_eq_some_iff.mp h; obtain ⟨v8, h8, h⟩ := Option.bind_eq_some_iff.mp h; have hrr := Option.some.inj h; subst hrr; exact ⟨_, fun _ _ _ _ _ => (g_name 3 nd), fun _ _ _ _ _ q5 acc4 => (x_popO (f := D.str) (xs := s6.1) 1 (x_var 2 rfl) (a_cons (x_callD (d := (D.int v7.1)) D_l_take hr (by decide) [(q5, MO.lst acc4), (q1, MO.lst (s6.1.map D.str))] (Deck.mem a c s6.2) Fr (Mc' := Deck.mem a c v7.2) (a_cons (x_var 0 rfl) (a_cons (x_lenm (f := D.str) (xs := s6.1) (a_cons (x_var 2 rfl) a_nil) (SeqD.own 1 q1 (s6.1.map D.str) rfl) B.len) a_nil)) ⟨a, c, s6.2, ((s6.1.length : Nat) : Int), v7, rfl, rfl, h7, rfl, rfl⟩) a_nil) rfl rfl h8)⟩)) rfl nd (blkOk_by (N := N_l_shuffled_t) (sc := defScope s_l_shuffled_t) (by decide +kernel)))) (fun v G H e w r => q v G H e (w.dropN 1) r)
noncomputable def m_l_images_c1 (p_many : Int) (s25 : Deck) (x22 : Int) :=
  (m_l_take s25 p_many).bind fun v26 => some (v26.1, v26.2)
noncomputable def m_l_images (dk : Deck) (p_many : Int) (p_way : Int) : Option ((List Int) × Deck) :=
  if (decide (p_way = 1)) = true then ((prng 0 p_many).bind fun v2 => (m_l_shuffled dk v2).bind fun v3 => some (v3.1, v3.2)) else (if (decide (p_way = 2)) = true then ((m_l_take dk p_many).bind fun v5 => (prep ([v5.1]) p_many).bind fun v6 => some (v6, v5.2)) else (if (decide (p_way = 3)) = true then ((prng 0 p_many).bind fun v8 => (m_l_take dk p_many).bind fun v10 => (m_l_take v10.2 p_many).bind fun v11 => (pset v8 v11.1 v10.1).bind fun v12 => some (v12, v11.2)) else (if (decide (p_way = 5)) = true then ((prng 0 p_many).bind fun v14 => some (((v14.filter (fun (x15 : Int) => true)).map (fun (x15 : Int) => (max 0 (x15 - 1)))), dk)) else ((prng 0 p_many).bind fun v21 => (mapS (m_l_images_c1 p_many) dk v21).bind fun v27 => (pix ([v27.1, (sortI v27.1)]) (if (decide (p_way = 4)) = true then (1 : Int) else 0)).bind fun v31 => some (v31, v27.2)))))
def R_l_images : List D → Mem → D → Mem → Prop := fun ds Mc d Mc' => ∃ (a c : Addr) (dk : Deck) (p_many : Int) (p_way : Int) (r : ((List Int) × Deck)), ds = [D.adr a, (D.int p_many), (D.int p_way)] ∧ Mc = Deck.mem a c dk ∧ m_l_images dk p_many p_way = some r ∧ d = ((eLs D.int) r.1) ∧ Mc' = Deck.mem a c r.2
abbrev s_l_images : Stmt := topS 19
abbrev N_l_images : List Str := ["deck", "many", "way", "found", "k"]
theorem sc_l_images : FnScope N_l_images ["deck", "many", "way"] (defScope s_l_images) := ⟨rfl, rfl, rfl, by decide +kernel, rfl, by decide +kernel, by decide +kernel⟩
theorem ok_l_images {f : Addr} {fd : FuncData} (F : Fun K "_law_images" "_law_images" s_l_images f fd) (B : Blt mg) (Cn : Cns mg) (D_l_take : Def P w K mg base 1 "_law_take" ["deck", "many"] R_l_take) (D_l_shuffled : Def P w K mg base 2 "_law_shuffled" ["deck", "things"] R_l_shuffled) : FnOk P w K mg base CX0 3 f fd ["deck", "many", "way"] (spR K R_l_images) := by
  refine fn_ok F sc_l_images (fun ds Mc d Mc' h => ?_) (fun cdv A outer s H0 E hr G0 Fr ds Mc d Mc' Q h q => ?_)
  · obtain ⟨a, c, dk, p_many, p_way, r, rfl, _⟩ := h; rfl
  obtain ⟨a, c, dk, p_many, p_way, r, rfl, rfl, hm, rfl, rfl⟩ := h
  have nd := sc_l_images.nd
  have hu : (A.deeper (envOfC "_law_images" (defScope s_l_images) s.heap.objs.size f cdv)).units + 64 < cLine := hr.units
  have hu2 : (A.deeper (envOfC "_law_images" (defScope s_l_images) s.heap.objs.size f cdv)).units + 65 < cLine := by have := hr.un; omega
  unfold m_l_images at hm
  refine st_if (k := (decide (p_way = 1))) (t_cmp (c_eqI (x_var 2 rfl) x_int)) (fun hc1 => ?_) (fun hc1 => ?_)
  · have hm := (if_pos hc1).symm.trans hm
    obtain ⟨v2, h2, hm⟩ := Option.bind_eq_some_iff.mp hm
    obtain ⟨v3, h3, hm⟩ := Option.bind_eq_some_iff.mp hm
    have hrr := Option.some.inj hm
    subst hrr
    exact st_ret (x_callD (d := ((eLs D.int) v3.1)) D_l_shuffled hr (by decide) [] (Deck.mem a c dk) Fr (Mc' := Deck.mem a c v3.2) (a_cons (x_var 0 rfl) (a_cons (x_frz (n_listRgO rfl (r_1 (x_var 1 rfl) B.range) h2 B.list)) a_nil)) ⟨a, c, dk, v2, v3, rfl, rfl, h3, rfl, rfl⟩) (fun v G H e w r => q v G H e (w.dropN 0) r)
  · have hm := (if_neg (nf hc1)).symm.trans hm
    refine st_go ?_
    refine st_if (k := (decide (p_way = 2))) (t_cmp (c_eqI (x_var 2 rfl) x_int)) (fun hc4 => ?_) (fun hc4 => ?_)
    · have hm := (if_pos hc4).symm.trans hm
      obtain ⟨v5, h5, hm⟩ := Option.bind_eq_some_iff.mp hm
      obtain ⟨v6, h6, hm⟩ := Option.bind_eq_some_iff.mp hm
      have hrr := Option.some.inj hm
      subst hrr
      exact st_ret (x_frz (n_repO (f := D.int) (xs := [v5.1]) (x_frz (n_lst (a_cons (x_callD (d := (D.int v5.1)) D_l_take hr (by decide) [] (Deck.mem a c dk) Fr (Mc' := Deck.mem a c v5.2) (a_cons (x_var 0 rfl) (a_cons (x_var 1 rfl) a_nil)) ⟨a, c, dk, p_many, v5, rfl, rfl, h5, rfl, rfl⟩) a_nil) (by show (1:Nat) ≤ sizeLine; decide))) (x_var 1 rfl) h6)) (fun v G H e w r => q v G H e (w.dropN 0) r)
    · have hm := (if_neg (nf hc4)).symm.trans hm
      refine st_go ?_
      refine st_if (k := (decide (p_way = 3))) (t_cmp (c_eqI (x_var 2 rfl) x_int)) (fun hc7 => ?_) (fun hc7 => ?_)
      · have hm := (if_pos hc7).symm.trans hm
        obtain ⟨v8, h8, hm⟩ := Option.bind_eq_some_iff.mp hm
        refine st_new (o := MO.lst (v8.map D.int)) 3 (n_listRgO rfl (r_1 (x_var 1 rfl) B.range) h8 B.list) (fun q9 => ?_) nd
        obtain ⟨v10, h10, hm⟩ := Option.bind_eq_some_iff.mp hm
        obtain ⟨v11, h11, hm⟩ := Option.bind_eq_some_iff.mp hm
        obtain ⟨v12, h12, hm⟩ := Option.bind_eq_some_iff.mp hm
        refine st_setO (f := D.int) (xs := v8) (v := v10.1) 0 (x_callD (d := (D.int v10.1)) D_l_take hr (by decide) [(q9, MO.lst (v8.map D.int))] (Deck.mem a c dk) Fr (Mc' := Deck.mem a c v10.2) (a_cons (x_var 0 rfl) (a_cons (x_var 1 rfl) a_nil)) ⟨a, c, dk, p_many, v10, rfl, rfl, h10, rfl, rfl⟩) (x_var 3 rfl) (x_callD (d := (D.int v11.1)) D_l_take hr (by decide) [(q9, MO.lst (v8.map D.int))] (Deck.mem a c v10.2) Fr (Mc' := Deck.mem a c v11.2) (a_cons (x_var 0 rfl) (a_cons (x_var 1 rfl) a_nil)) ⟨a, c, v10.2, p_many, v11, rfl, rfl, h11, rfl, rfl⟩) rfl h12 ?_
        refine st_frz (ds := v12.map D.int) 3 0 rfl rfl ?_
        have hrr := Option.some.inj hm
        subst hrr
        exact st_ret (x_var 3 rfl) (fun v G H e w r => q v G H e (w.dropN 0) r)
      · have hm := (if_neg (nf hc7)).symm.trans hm
        refine st_go ?_
        refine st_if (k := (decide (p_way = 5))) (t_cmp (c_eqI (x_var 2 rfl) x_int)) (fun hc13 => ?_) (fun hc13 => ?_)
        · have hm := (if_pos hc13).symm.trans hm
          obtain ⟨v14, h14, hm⟩ := Option.bind_eq_some_iff.mp hm
          have hrr := Option.some.inj hm
          subst hrr
          exact st_ret (x_frz (n_lc (own := [("k", 4)]) (l_F (en2 := D.int) (en := D.int) (xs := v14) (g := (fun (x15 : Int) => (max 0 (x15 - 1)))) (pr := (fun (x15 : Int) => true)) [("k", 4)] (i_rng1O (a_cons (x_var 1 rfl) a_nil) h14 B.range) (prng_len h14) (fun x15 hx19 => ⟨_, fun _ _ _ _ _ => (g_name 4 nd), fun _ _ _ _ _ q17 acc16 => ts_nil, fun _ _ _ _ _ _ q17 acc16 => (x_max2 rfl (a_cons x_int (a_cons (x_sub (x_var 4 rfl) x_int) a_nil)) B.max)⟩)) rfl nd (blkOk_by (N := N_l_images) (sc := defScope s_l_images) (by decide +kernel)))) (fun v G H e w r => q v G H e (w.dropN 0) r)
        · have hm := (if_neg (nf hc13)).symm.trans hm
          refine st_go ?_
          obtain ⟨v21, h21, hm⟩ := Option.bind_eq_some_iff.mp hm
          obtain ⟨v27, h27, hm⟩ := Option.bind_eq_some_iff.mp hm
          refine st_newLc (own := [("k", 4)]) 3 (l_S (en2 := D.int) (en := D.int) (s0 := dk) (s1 := v27.2) (ys := v27.1) (f := (m_l_images_c1 p_many)) [("k", 4)] (fun s25 => (Deck.mem a c s25 ++ Fr)) (i_rng1O (a_cons (x_var 1 rfl) a_nil) h21 B.range) h27 (prng_len h21) (fun s25 x22 y28 hx29 h => by unfold m_l_images_c1 at h; obtain ⟨v26, h26, h⟩ := Option.bind_eq_some_iff.mp h; have hrr := Option.some.inj h; subst hrr; exact ⟨_, fun _ _ _ _ _ => (g_name 4 nd), fun _ _ _ _ _ q24 acc23 => (x_callD (d := (D.int v26.1)) D_l_take hr (by decide) [(q24, MO.lst acc23)] (Deck.mem a c s25) Fr (Mc' := Deck.mem a c v26.2) (a_cons (x_var 0 rfl) (a_cons (x_var 1 rfl) a_nil)) ⟨a, c, s25, p_many, v26, rfl, rfl, h26, rfl, rfl⟩)⟩)) (fun q30 => ?_) rfl nd (ok := (blkOk_by (N := N_l_images) (sc := defScope s_l_images) (by decide +kernel)))
          refine st_frz (ds := v27.1.map D.int) 3 0 rfl rfl ?_
          obtain ⟨v31, h31, hm⟩ := Option.bind_eq_some_iff.mp hm
          have hrr := Option.some.inj hm
          subst hrr
          exact st_ret (x_ixLm (f := (eLs D.int)) (xs := [v27.1, (sortI v27.1)]) (x_frz (n_lst (a_cons (x_var 3 rfl) (a_cons (x_frz (n_sortedO (a_cons (x_var 3 rfl) a_nil) (SeqD.lst _) (ht := by intro _ h; cases h) B.sorted)) a_nil)) (by show (2:Nat) ≤ sizeLine; decide))) (x_intB (a_cons (x_cmp (c_eqI (x_var 2 rfl) x_int)) a_nil) B.int) h31) (fun v G H e w r => q v G H e (w.dropN 0) r)
noncomputable def m_l_web_c1 (v2 : ((List Str) × Deck)) (s28 : Deck) (x25 : Int) :=
  (pix v2.1 x25).bind fun v29 => some (v29, s28)
noncomputable def m_l_web_l2 (v2 : ((List Str) × Deck)) (v5 : (Int × Deck)) (s7 : ((List (Str × Int × (List Str))) × Deck)) (x8 : Str) : Option ((List (Str × Int × (List Str))) × Deck) :=
  (m_l_take s7.2 6).bind fun v17 => (pix ([v17.1, 1]) (if (decide (v5.1 = 0)) = true then (1 : Int) else 0)).bind fun v18 => (m_l_take v17.2 5).bind fun v19 => (m_l_take v19.2 99).bind fun v20 => (m_l_take v20.2 4).bind fun v21 => (pix ([1, (1 + v19.1), (1 + v20.1), 99]) v21.1).bind fun v22 => (m_l_images v21.2 ((v2.1.length : Nat) : Int) v18).bind fun v23 => (pfit v23.1.length ()).bind fun v24 => (mapS (m_l_web_c1 v2) v23.2 v23.1).bind fun v30 => (psnoc s7.1 (x8, v22, v30.1)).bind fun v33 => some (v33, v30.2)
noncomputable def m_l_web (dk : Deck) (p_most : Int) (p_moves : Int) : Option (((List Str) × (List (Str × Int × (List Str)))) × Deck) :=
  (m_l_take dk p_most).bind fun v1 => (m_l_names v1.2 (1 + v1.1)).bind fun v2 => (m_l_take v2.2 p_moves).bind fun v3 => (m_l_names v3.2 (1 + v3.1)).bind fun v4 => (m_l_take v4.2 5).bind fun v5 => (foldO (m_l_web_l2 v2 v5) (([] : List (Str × Int × (List Str))), v5.2) v4.1).bind fun s9 => some ((v2.1, s9.1), s9.2)
def R_l_web : List D → Mem → D → Mem → Prop := fun ds Mc d Mc' => ∃ (a c : Addr) (dk : Deck) (p_most : Int) (p_moves : Int) (r : (((List Str) × (List (Str × Int × (List Str)))) × Deck)), ds = [D.adr a, (D.int p_most), (D.int p_moves)] ∧ Mc = Deck.mem a c dk ∧ m_l_web dk p_most p_moves = some r ∧ d = ((eP2 (eTs D.str) (eTs (eP3 D.str D.int (eTs D.str)))) r.1) ∧ Mc' = Deck.mem a c r.2
abbrev s_l_web : Stmt := topS 20
abbrev N_l_web : List Str := ["deck", "most", "moves", "states", "names", "alone", "found", "name", "way", "weight", "images", "place"]
theorem sc_l_web : FnScope N_l_web ["deck", "most", "moves"] (defScope s_l_web) := ⟨rfl, rfl, rfl, by decide +kernel, rfl, by decide +kernel, by decide +kernel⟩
theorem ok_l_web {f : Addr} {fd : FuncData} (F : Fun K "_law_web" "_law_web" s_l_web f fd) (B : Blt mg) (Cn : Cns mg) (D_l_take : Def P w K mg base 1 "_law_take" ["deck", "many"] R_l_take) (D_l_names : Def P w K mg base 2 "_law_names" ["deck", "many"] R_l_names) (D_l_images : Def P w K mg base 3 "_law_images" ["deck", "many", "way"] R_l_images) : FnOk P w K mg base CX0 4 f fd ["deck", "most", "moves"] (spR K R_l_web) := by
  refine fn_ok F sc_l_web (fun ds Mc d Mc' h => ?_) (fun cdv A outer s H0 E hr G0 Fr ds Mc d Mc' Q h q => ?_)
  · obtain ⟨a, c, dk, p_most, p_moves, r, rfl, _⟩ := h; rfl
  obtain ⟨a, c, dk, p_most, p_moves, r, rfl, rfl, hm, rfl, rfl⟩ := h
  have nd := sc_l_web.nd
  have hu : (A.deeper (envOfC "_law_web" (defScope s_l_web) s.heap.objs.size f cdv)).units + 64 < cLine := hr.units
  have hu2 : (A.deeper (envOfC "_law_web" (defScope s_l_web) s.heap.objs.size f cdv)).units + 65 < cLine := by have := hr.un; omega
  unfold m_l_web at hm
  obtain ⟨v1, h1, hm⟩ := Option.bind_eq_some_iff.mp hm
  obtain ⟨v2, h2, hm⟩ := Option.bind_eq_some_iff.mp hm
  refine st_asg (d := ((eLs D.str) v2.1)) 3 (x_callD (d := ((eLs D.str) v2.1)) D_l_names hr (by decide) [] (Deck.mem a c v1.2) Fr (Mc' := Deck.mem a c v2.2) (a_cons (x_var 0 rfl) (a_cons (x_add x_int (x_callD (d := (D.int v1.1)) D_l_take hr (by decide) [] (Deck.mem a c dk) Fr (Mc' := Deck.mem a c v1.2) (a_cons (x_var 0 rfl) (a_cons (x_var 1 rfl) a_nil)) ⟨a, c, dk, p_most, v1, rfl, rfl, h1, rfl, rfl⟩)) a_nil)) ⟨a, c, v1.2, (1 + v1.1), v2, rfl, rfl, h2, rfl, rfl⟩) ?_ nd
  obtain ⟨v3, h3, hm⟩ := Option.bind_eq_some_iff.mp hm
  obtain ⟨v4, h4, hm⟩ := Option.bind_eq_some_iff.mp hm
  refine st_asg (d := ((eLs D.str) v4.1)) 4 (x_callD (d := ((eLs D.str) v4.1)) D_l_names hr (by decide) [] (Deck.mem a c v3.2) Fr (Mc' := Deck.mem a c v4.2) (a_cons (x_var 0 rfl) (a_cons (x_add x_int (x_callD (d := (D.int v3.1)) D_l_take hr (by decide) [] (Deck.mem a c v2.2) Fr (Mc' := Deck.mem a c v3.2) (a_cons (x_var 0 rfl) (a_cons (x_var 2 rfl) a_nil)) ⟨a, c, v2.2, p_moves, v3, rfl, rfl, h3, rfl, rfl⟩)) a_nil)) ⟨a, c, v3.2, (1 + v3.1), v4, rfl, rfl, h4, rfl, rfl⟩) ?_ nd
  obtain ⟨v5, h5, hm⟩ := Option.bind_eq_some_iff.mp hm
  refine st_asg (d := (D.int v5.1)) 5 (x_callD (d := (D.int v5.1)) D_l_take hr (by decide) [] (Deck.mem a c v4.2) Fr (Mc' := Deck.mem a c v5.2) (a_cons (x_var 0 rfl) (a_cons x_int a_nil)) ⟨a, c, v4.2, 5, v5, rfl, rfl, h5, rfl, rfl⟩) ?_ nd
  refine st_new (o := MO.lst (([] : List (Str × Int × (List Str))).map (eP3 D.str D.int (eTs D.str)))) 6 (n_lst a_nil (by show (0:Nat) ≤ sizeLine; decide)) (fun q6 => ?_) nd
  obtain ⟨s9, hy15, hm⟩ := Option.bind_eq_some_iff.mp hm
  refine st_forO (s0 := (([] : List (Str × Int × (List Str))), v5.2)) (en := D.str) (xs := v4.1) (f := (m_l_web_l2 v2 v5)) (s1 := s9) PassesOwn.never rfl (fun s7 => [some (D.adr a), some (D.int p_most), some (D.int p_moves), some ((eLs D.str) v2.1), some ((eLs D.str) v4.1), some (D.int v5.1), some (D.adr q6), none, none, none, none, none]) (fun s7 => ((q6, MO.lst (s7.1.map (eP3 D.str D.int (eTs D.str)))) :: (Deck.mem a c s7.2 ++ Fr))) (i_lst (x_var 4 rfl)) hy15 (fun G12 e13 s7 x8 s9' hx11 hf10 => ⟨_, _, (g_name 7 nd), ?_⟩) ?_
  · unfold m_l_web_l2 at hf10
    obtain ⟨v17, h17, hf10⟩ := Option.bind_eq_some_iff.mp hf10
    obtain ⟨v18, h18, hf10⟩ := Option.bind_eq_some_iff.mp hf10
    refine st_asg (d := (D.int v18)) 8 (x_ixLm (f := D.int) (xs := [v17.1, 1]) (x_frz (n_lst (a_cons (x_callD (d := (D.int v17.1)) D_l_take hr (by decide) [(q6, MO.lst (s7.1.map (eP3 D.str D.int (eTs D.str))))] (Deck.mem a c s7.2) Fr (Mc' := Deck.mem a c v17.2) (a_cons (x_var 0 rfl) (a_cons x_int a_nil)) ⟨a, c, s7.2, 6, v17, rfl, rfl, h17, rfl, rfl⟩) (a_cons x_int a_nil)) (by show (2:Nat) ≤ sizeLine; decide))) (x_intB (a_cons (x_cmp (c_eqI (x_var 5 rfl) x_int)) a_nil) B.int) h18) ?_ nd
    obtain ⟨v19, h19, hf10⟩ := Option.bind_eq_some_iff.mp hf10
    obtain ⟨v20, h20, hf10⟩ := Option.bind_eq_some_iff.mp hf10
    obtain ⟨v21, h21, hf10⟩ := Option.bind_eq_some_iff.mp hf10
    obtain ⟨v22, h22, hf10⟩ := Option.bind_eq_some_iff.mp hf10
    refine st_asg (d := (D.int v22)) 9 (x_ixLm (f := D.int) (xs := [1, (1 + v19.1), (1 + v20.1), 99]) (x_frz (n_lst (a_cons x_int (a_cons (x_add x_int (x_callD (d := (D.int v19.1)) D_l_take hr (by decide) [(q6, MO.lst (s7.1.map (eP3 D.str D.int (eTs D.str))))] (Deck.mem a c v17.2) Fr (Mc' := Deck.mem a c v19.2) (a_cons (x_var 0 rfl) (a_cons x_int a_nil)) ⟨a, c, v17.2, 5, v19, rfl, rfl, h19, rfl, rfl⟩)) (a_cons (x_add x_int (x_callD (d := (D.int v20.1)) D_l_take hr (by decide) [(q6, MO.lst (s7.1.map (eP3 D.str D.int (eTs D.str))))] (Deck.mem a c v19.2) Fr (Mc' := Deck.mem a c v20.2) (a_cons (x_var 0 rfl) (a_cons x_int a_nil)) ⟨a, c, v19.2, 99, v20, rfl, rfl, h20, rfl, rfl⟩)) (a_cons x_int a_nil)))) (by show (4:Nat) ≤ sizeLine; decide))) (x_callD (d := (D.int v21.1)) D_l_take hr (by decide) [(q6, MO.lst (s7.1.map (eP3 D.str D.int (eTs D.str))))] (Deck.mem a c v20.2) Fr (Mc' := Deck.mem a c v21.2) (a_cons (x_var 0 rfl) (a_cons x_int a_nil)) ⟨a, c, v20.2, 4, v21, rfl, rfl, h21, rfl, rfl⟩) h22) ?_ nd
    obtain ⟨v23, h23, hf10⟩ := Option.bind_eq_some_iff.mp hf10
    obtain ⟨v24, h24, hf10⟩ := Option.bind_eq_some_iff.mp hf10
    obtain ⟨v30, h30, hf10⟩ := Option.bind_eq_some_iff.mp hf10
    refine st_asgLc (ds := v30.1.map D.str) (own := [("place", 11)]) 10 (l_S (en2 := D.str) (en := D.int) (s0 := v23.2) (s1 := v30.2) (ys := v30.1) (f := (m_l_web_c1 v2)) [("place", 11)] (fun s28 => ((q6, MO.lst (s7.1.map (eP3 D.str D.int (eTs D.str)))) :: (Deck.mem a c s28 ++ Fr))) (i_lst (x_callD (d := ((eLs D.int) v23.1)) D_l_images hr (by decide) [(q6, MO.lst (s7.1.map (eP3 D.str D.int (eTs D.str))))] (Deck.mem a c v21.2) Fr (Mc' := Deck.mem a c v23.2) (a_cons (x_var 0 rfl) (a_cons (x_lenm (f := D.str) (xs := v2.1) (a_cons (x_var 3 rfl) a_nil) (SeqD.lst _) B.len) (a_cons (x_var 8 rfl) a_nil))) ⟨a, c, v21.2, ((v2.1.length : Nat) : Int), v18, v23, rfl, rfl, h23, rfl, rfl⟩)) h30 (Nat.le_of_lt (pfit_some h24).1) (fun s28 x25 y31 hx32 h => by unfold m_l_web_c1 at h; obtain ⟨v29, h29, h⟩ := Option.bind_eq_some_iff.mp h; have hrr := Option.some.inj h; subst hrr; exact ⟨_, fun _ _ _ _ _ => (g_name 11 nd), fun _ _ _ _ _ q27 acc26 => (x_ixLm (f := D.str) (xs := v2.1) (x_var 3 rfl) (x_var 11 rfl) h29)⟩)) ?_ rfl nd (ok := (blkOk_by (N := N_l_web) (sc := defScope s_l_web) (by decide +kernel)))
    obtain ⟨v33, h33, hf10⟩ := Option.bind_eq_some_iff.mp hf10
    refine st_expr (x_appendO (f := (eP3 D.str D.int (eTs D.str))) (xs := s7.1) (v := (x8, v22, v30.1)) 0 (x_var 6 rfl) (a_cons (x_tup (a_cons (x_var 7 rfl) (a_cons (x_var 9 rfl) (a_cons (x_tupleOf (a_cons (x_var 10 rfl) a_nil) (SeqD.lst _) B.tuple) a_nil))) (by show (3:Nat) ≤ sizeLine; decide)) a_nil) rfl rfl h33) ?_
    have hrr := Option.some.inj hf10
    subst hrr
    exact st_end (fun σ H a => (a.wipe [7, 8, 9, 10]))
  have hrr := Option.some.inj hm
  subst hrr
  exact st_ret (x_tup (a_cons (x_tupleOf (a_cons (x_var 3 rfl) a_nil) (SeqD.lst _) B.tuple) (a_cons (x_tupleOf (a_cons (x_var 6 rfl) a_nil) (SeqD.own 0 q6 (s9.1.map (eP3 D.str D.int (eTs D.str))) rfl) B.tuple) a_nil)) (by show (2:Nat) ≤ sizeLine; decide)) (fun v G H e w r => q v G H e (w.dropN 1) r)
noncomputable def m_l_flags (p_thing : Ec) : Option (List Bool) :=
  (pcat ([(isA p_thing .name), (isA p_thing .web), (isA p_thing .table)]) ([(isA p_thing .rest), (isA p_thing .order), (isA p_thing .ask)])).bind fun v1 => (pcat v1 ([(!(isA p_thing .long)), (!(isA p_thing .val))])).bind fun v2 => some v2
def R_l_flags (Er : Wk.Er) : List D → Mem → D → Mem → Prop := fun ds Mc d Mc' => ∃ (p_thing : Ec) (r : (List Bool)), ds = [((eX Er) p_thing)] ∧ Mc = [] ∧ m_l_flags p_thing = some r ∧ d = ((eLs D.bl) r) ∧ Mc' = []
abbrev s_l_flags : Stmt := topS 21
abbrev N_l_flags : List Str := ["thing", "found"]
theorem sc_l_flags : FnScope N_l_flags ["thing"] (defScope s_l_flags) := ⟨rfl, rfl, rfl, by decide +kernel, rfl, by decide +kernel, by decide +kernel⟩
theorem ok_l_flags {f : Addr} {fd : FuncData} (F : Fun K "_law_flags" "_law_flags" s_l_flags f fd) (B : Blt mg) (Cn : Cns mg) (EO : ErOk K Er fullS fullT) (Em : EMg mg Er) : FnOk P w K mg base CX0 1 f fd ["thing"] (spR K (R_l_flags Er)) := by
  refine fn_ok F sc_l_flags (fun ds Mc d Mc' h => ?_) (fun cdv A outer s H0 E hr G0 Fr ds Mc d Mc' Q h q => ?_)
  · obtain ⟨p_thing, r, rfl, _⟩ := h; rfl
  obtain ⟨p_thing, r, rfl, rfl, hm, rfl, rfl⟩ := h
  have nd := sc_l_flags.nd
  have hu : (A.deeper (envOfC "_law_flags" (defScope s_l_flags) s.heap.objs.size f cdv)).units + 64 < cLine := hr.units
  have hu2 : (A.deeper (envOfC "_law_flags" (defScope s_l_flags) s.heap.objs.size f cdv)).units + 65 < cLine := by have := hr.un; omega
  unfold m_l_flags at hm
  refine st_asg (d := ((eLs D.bl) ([(isA p_thing .name), (isA p_thing .web), (isA p_thing .table)]))) 1 (x_frz (n_lst (a_cons (x_isX (n := .name) EO (full_mem _) (by decide) (a_cons (x_var 0 rfl) (a_cons (x_cl (n := .name) Em.c_NoName) a_nil)) B.isinstance) (a_cons (x_isX (n := .web) EO (full_mem _) (by decide) (a_cons (x_var 0 rfl) (a_cons (x_cl (n := .web) Em.c_NoWeb) a_nil)) B.isinstance) (a_cons (x_isX (n := .table) EO (full_mem _) (by decide) (a_cons (x_var 0 rfl) (a_cons (x_cl (n := .table) Em.c_NoTable) a_nil)) B.isinstance) a_nil))) (by show (3:Nat) ≤ sizeLine; decide))) ?_ nd
  obtain ⟨v1, h1, hm⟩ := Option.bind_eq_some_iff.mp hm
  refine st_asg (d := ((eLs D.bl) v1)) 1 (x_frz (n_catQ (f := D.bl) (xs := [(isA p_thing .name), (isA p_thing .web), (isA p_thing .table)]) (ys := [(isA p_thing .rest), (isA p_thing .order), (isA p_thing .ask)]) (x_var 1 rfl) (x_frz (n_lst (a_cons (x_isX (n := .rest) EO (full_mem _) (by decide) (a_cons (x_var 0 rfl) (a_cons (x_cl (n := .rest) Em.c_NoRest) a_nil)) B.isinstance) (a_cons (x_isX (n := .order) EO (full_mem _) (by decide) (a_cons (x_var 0 rfl) (a_cons (x_cl (n := .order) Em.c_NoOrder) a_nil)) B.isinstance) (a_cons (x_isX (n := .ask) EO (full_mem _) (by decide) (a_cons (x_var 0 rfl) (a_cons (x_cl (n := .ask) Em.c_NoAsk) a_nil)) B.isinstance) a_nil))) (by show (3:Nat) ≤ sizeLine; decide))) (LsD.lst _) (LsD.lst _) h1)) ?_ nd
  obtain ⟨v2, h2, hm⟩ := Option.bind_eq_some_iff.mp hm
  have hrr := Option.some.inj hm
  subst hrr
  exact st_ret (x_frz (n_catQ (f := D.bl) (xs := v1) (ys := [(!(isA p_thing .long)), (!(isA p_thing .val))]) (x_var 1 rfl) (x_frz (n_lst (a_cons (x_not (x_isX (n := .long) EO (full_mem _) (by decide) (a_cons (x_var 0 rfl) (a_cons (x_cl (n := .long) Em.c_LongError) a_nil)) B.isinstance)) (a_cons (x_not (x_isX (n := .val) EO (full_mem _) (by decide) (a_cons (x_var 0 rfl) (a_cons (x_clV Em.c_ValueError) a_nil)) B.isinstance)) a_nil)) (by show (2:Nat) ≤ sizeLine; decide))) (LsD.lst _) (LsD.lst _) h2)) (fun v G H e w r => q v G H e (w.dropN 0) r)
noncomputable def m_l_strange_c1 (v5 : Str) (s11 : Deck) (x8 : Int) :=
  (m_l_take s11 26).bind fun v12 => (pixS v5 v12.1).bind fun v13 => some (v13, v12.2)
noncomputable def m_l_strange (dk : Deck) (p_web : ((List Str) × (List (Str × Int × (List Str))))) : Option (Str × Deck) :=
  (m_l_take dk ((p_web.1.length : Nat) : Int)).bind fun v1 => (pix p_web.1 v1.1).bind fun v2 => (m_l_take v1.2 ((p_web.2.length : Nat) : Int)).bind fun v3 => (pix p_web.2 v3.1).bind fun v4 => (some (Str.ofString "abcdefghijklmnopqrstuvwxyz")).bind fun v5 => (m_l_take v3.2 8).bind fun v6 => (prng 0 (1 + v6.1)).bind fun v7 => (mapS (m_l_strange_c1 v5) v6.2 v7).bind fun v14 => (pjoin (Str.ofString "") v14.1).bind fun v17 => (padd v2 (Str.ofString "a")).bind fun v18 => (pcutS v18 none (some 8)).bind fun v19 => (pcutS v2 none (some (-1))).bind fun v20 => (pcutS v2 (some 1) none).bind fun v21 => (padd (Str.ofString "q") v21).bind fun v22 => (padd v2 (Str.ofString "z")).bind fun v23 => (pcutS v23 (some (-8)) none).bind fun v24 => (m_l_take v14.2 7).bind fun v25 => (pix ([v4.1, v19, v20, v22, v24, v17, (Str.ofString "q")]) v25.1).bind fun v26 => some (v26, v25.2)
def R_l_strange : List D → Mem → D → Mem → Prop := fun ds Mc d Mc' => ∃ (a c : Addr) (dk : Deck) (p_web : ((List Str) × (List (Str × Int × (List Str))))) (r : (Str × Deck)), ds = [D.adr a, ((eP2 (eTs D.str) (eTs (eP3 D.str D.int (eTs D.str)))) p_web)] ∧ Mc = Deck.mem a c dk ∧ m_l_strange dk p_web = some r ∧ d = (D.str r.1) ∧ Mc' = Deck.mem a c r.2
abbrev s_l_strange : Stmt := topS 22
abbrev N_l_strange : List Str := ["deck", "web", "name", "move", "letters", "any_word", "k", "some"]
theorem sc_l_strange : FnScope N_l_strange ["deck", "web"] (defScope s_l_strange) := ⟨rfl, rfl, rfl, by decide +kernel, rfl, by decide +kernel, by decide +kernel⟩
theorem ok_l_strange {f : Addr} {fd : FuncData} (F : Fun K "_law_strange" "_law_strange" s_l_strange f fd) (B : Blt mg) (Cn : Cns mg) (D_l_take : Def P w K mg base 1 "_law_take" ["deck", "many"] R_l_take) : FnOk P w K mg base CX0 2 f fd ["deck", "web"] (spR K R_l_strange) := by
  refine fn_ok F sc_l_strange (fun ds Mc d Mc' h => ?_) (fun cdv A outer s H0 E hr G0 Fr ds Mc d Mc' Q h q => ?_)
  · obtain ⟨a, c, dk, p_web, r, rfl, _⟩ := h; rfl
  obtain ⟨a, c, dk, p_web, r, rfl, rfl, hm, rfl, rfl⟩ := h
  have nd := sc_l_strange.nd
  have hu : (A.deeper (envOfC "_law_strange" (defScope s_l_strange) s.heap.objs.size f cdv)).units + 64 < cLine := hr.units
  have hu2 : (A.deeper (envOfC "_law_strange" (defScope s_l_strange) s.heap.objs.size f cdv)).units + 65 < cLine := by have := hr.un; omega
  unfold m_l_strange at hm
  obtain ⟨v1, h1, hm⟩ := Option.bind_eq_some_iff.mp hm
  obtain ⟨v2, h2, hm⟩ := Option.bind_eq_some_iff.mp hm
  refine st_asg (d := (D.str v2)) 2 (x_ixTm (f := D.str) (xs := p_web.1) (x_ixT (x_var 1 rfl) x_int rfl) (x_callD (d := (D.int v1.1)) D_l_take hr (by decide) [] (Deck.mem a c dk) Fr (Mc' := Deck.mem a c v1.2) (a_cons (x_var 0 rfl) (a_cons (x_lenm (f := D.str) (xs := p_web.1) (a_cons (x_ixT (x_var 1 rfl) x_int rfl) a_nil) (SeqD.tup _) B.len) a_nil)) ⟨a, c, dk, ((p_web.1.length : Nat) : Int), v1, rfl, rfl, h1, rfl, rfl⟩) h2) ?_ nd
  obtain ⟨v3, h3, hm⟩ := Option.bind_eq_some_iff.mp hm
  obtain ⟨v4, h4, hm⟩ := Option.bind_eq_some_iff.mp hm
  refine st_asg (d := (D.str v4.1)) 3 (x_ixT (x_ixTm (f := (eP3 D.str D.int (eTs D.str))) (xs := p_web.2) (x_ixT (x_var 1 rfl) x_int rfl) (x_callD (d := (D.int v3.1)) D_l_take hr (by decide) [] (Deck.mem a c v1.2) Fr (Mc' := Deck.mem a c v3.2) (a_cons (x_var 0 rfl) (a_cons (x_lenm (f := (eP3 D.str D.int (eTs D.str))) (xs := p_web.2) (a_cons (x_ixT (x_var 1 rfl) x_int rfl) a_nil) (SeqD.tup _) B.len) a_nil)) ⟨a, c, v1.2, ((p_web.2.length : Nat) : Int), v3, rfl, rfl, h3, rfl, rfl⟩) h4) x_int rfl) ?_ nd
  obtain ⟨v5, h5, hm⟩ := Option.bind_eq_some_iff.mp hm
  have h5 := Option.some.inj h5
  refine st_asg (d := (D.str v5)) 4 (x_is x_str (congrArg D.str h5)) ?_ nd
  obtain ⟨v6, h6, hm⟩ := Option.bind_eq_some_iff.mp hm
  obtain ⟨v7, h7, hm⟩ := Option.bind_eq_some_iff.mp hm
  obtain ⟨v14, h14, hm⟩ := Option.bind_eq_some_iff.mp hm
  obtain ⟨v17, h17, hm⟩ := Option.bind_eq_some_iff.mp hm
  refine st_asg (d := (D.str v17)) 5 (x_joinO x_str (a_cons (x_frz (n_lc (own := [("k", 6)]) (l_S (en2 := D.str) (en := D.int) (s0 := v6.2) (s1 := v14.2) (ys := v14.1) (f := (m_l_strange_c1 v5)) [("k", 6)] (fun s11 => (Deck.mem a c s11 ++ Fr)) (i_rng1O (a_cons (x_add x_int (x_callD (d := (D.int v6.1)) D_l_take hr (by decide) [] (Deck.mem a c v3.2) Fr (Mc' := Deck.mem a c v6.2) (a_cons (x_var 0 rfl) (a_cons x_int a_nil)) ⟨a, c, v3.2, 8, v6, rfl, rfl, h6, rfl, rfl⟩)) a_nil) h7 B.range) h14 (prng_len h7) (fun s11 x8 y15 hx16 h => by unfold m_l_strange_c1 at h; obtain ⟨v12, h12, h⟩ := Option.bind_eq_some_iff.mp h; obtain ⟨v13, h13, h⟩ := Option.bind_eq_some_iff.mp h; have hrr := Option.some.inj h; subst hrr; exact ⟨_, fun _ _ _ _ _ => (g_name 6 nd), fun _ _ _ _ _ q10 acc9 => (x_ixSm (x_var 4 rfl) (x_callD (d := (D.int v12.1)) D_l_take hr (by decide) [(q10, MO.lst acc9)] (Deck.mem a c s11) Fr (Mc' := Deck.mem a c v12.2) (a_cons (x_var 0 rfl) (a_cons x_int a_nil)) ⟨a, c, s11, 26, v12, rfl, rfl, h12, rfl, rfl⟩) h13)⟩)) rfl nd (blkOk_by (N := N_l_strange) (sc := defScope s_l_strange) (by decide +kernel)))) a_nil) (SeqD.lst _) h17) ?_ nd
  obtain ⟨v18, h18, hm⟩ := Option.bind_eq_some_iff.mp hm
  obtain ⟨v19, h19, hm⟩ := Option.bind_eq_some_iff.mp hm
  obtain ⟨v20, h20, hm⟩ := Option.bind_eq_some_iff.mp hm
  obtain ⟨v21, h21, hm⟩ := Option.bind_eq_some_iff.mp hm
  obtain ⟨v22, h22, hm⟩ := Option.bind_eq_some_iff.mp hm
  obtain ⟨v23, h23, hm⟩ := Option.bind_eq_some_iff.mp hm
  obtain ⟨v24, h24, hm⟩ := Option.bind_eq_some_iff.mp hm
  refine st_asg (d := ((eLs D.str) ([v4.1, v19, v20, v22, v24, v17, (Str.ofString "q")]))) 7 (x_frz (n_lst (a_cons (x_var 3 rfl) (a_cons (x_slSO (x_addSO (x_var 2 rfl) x_str h18) o_none (o_some x_int) h19) (a_cons (x_slSO (x_var 2 rfl) o_none (o_some (x_neg x_int)) h20) (a_cons (x_addSO x_str (x_slSO (x_var 2 rfl) (o_some x_int) o_none h21) h22) (a_cons (x_slSO (x_addSO (x_var 2 rfl) x_str h23) (o_some (x_neg x_int)) o_none h24) (a_cons (x_var 5 rfl) (a_cons x_str a_nil))))))) (by show (7:Nat) ≤ sizeLine; decide))) ?_ nd
  obtain ⟨v25, h25, hm⟩ := Option.bind_eq_some_iff.mp hm
  obtain ⟨v26, h26, hm⟩ := Option.bind_eq_some_iff.mp hm
  have hrr := Option.some.inj hm
  subst hrr
  exact st_ret (x_ixLm (f := D.str) (xs := [v4.1, v19, v20, v22, v24, v17, (Str.ofString "q")]) (x_var 7 rfl) (x_callD (d := (D.int v25.1)) D_l_take hr (by decide) [] (Deck.mem a c v14.2) Fr (Mc' := Deck.mem a c v25.2) (a_cons (x_var 0 rfl) (a_cons x_int a_nil)) ⟨a, c, v14.2, 7, v25, rfl, rfl, h25, rfl, rfl⟩) h26) (fun v G H e w r => q v G H e (w.dropN 0) r)
noncomputable def m_l_right (p_web : ((List Str) × (List (Str × Int × (List Str))))) (p_states : (List Str)) : Option Bool :=
  (pfit p_states.length ()).bind fun v1 => (m_is_enough p_web p_states).bind fun rv10 => (match rv10 with | .tv v10 => (peq ((eLs D.str) ((p_states.filter (fun (x2 : Str) => (!decide (x2 ∈ p_web.1)))).map (fun (x2 : Str) => x2))) ((eLs D.str) ([] : List Str))).bind fun v32 => if v32 = true then (some (true)) else (some false) | .ex x11 => (peq ((eLs D.str) ((p_states.filter (fun (x2 : Str) => (!decide (x2 ∈ p_web.1)))).map (fun (x2 : Str) => x2))) ((eLs D.str) ([] : List Str))).bind fun v17 => if v17 = true then (some (false)) else (((if (!false) = true then (m_l_flags x11).bind fun v19 => (prng 0 8).bind fun v20 => (peq ((eLs D.bl) v19) ((eLs D.bl) ((v20.filter (fun (x21 : Int) => true)).map (fun (x21 : Int) => (decide (x21 = 0)))))).bind fun v27 => ((if v27 = true then (x11.word?).bind fun v28 => (pix ((p_states.filter (fun (x2 : Str) => (!decide (x2 ∈ p_web.1)))).map (fun (x2 : Str) => x2)) 0).bind fun v29 => some (decide (v28 = v29)) else some false : Option Bool)).bind fun v30 => some v30 else some false : Option Bool)).bind fun v31 => some v31))
def R_l_right : List D → Mem → D → Mem → Prop := fun ds Mc d Mc' => ∃ (p_web : ((List Str) × (List (Str × Int × (List Str))))) (p_states : (List Str)) (r : Bool), ds = [((eP2 (eTs D.str) (eTs (eP3 D.str D.int (eTs D.str)))) p_web), ((eTs D.str) p_states)] ∧ Mc = [] ∧ m_l_right p_web p_states = some r ∧ d = (D.bl r) ∧ Mc' = []
abbrev s_l_right : Stmt := topS 23
abbrev N_l_right : List Str := ["web", "states", "strange", "name", "caught", "e", "k"]
theorem sc_l_right : FnScope N_l_right ["web", "states"] (defScope s_l_right) := ⟨rfl, rfl, rfl, by decide +kernel, rfl, by decide +kernel, by decide +kernel⟩
theorem ok_l_right {f : Addr} {fd : FuncData} (F : Fun K "_law_right" "_law_right" s_l_right f fd) (B : Blt mg) (Cn : Cns mg) (D_is_enough : DefX P w K mg base Er 4 "is_enough" ["web", "states"] R_is_enough) (D_l_flags : Def P w K mg base 1 "_law_flags" ["thing"] (R_l_flags Er)) (EO : ErOk K Er fullS fullT) (Em : EMg mg Er) : FnOk P w K mg base CX0 5 f fd ["web", "states"] (spR K R_l_right) := by
  refine fn_ok F sc_l_right (fun ds Mc d Mc' h => ?_) (fun cdv A outer s H0 E hr G0 Fr ds Mc d Mc' Q h q => ?_)
  · obtain ⟨p_web, p_states, r, rfl, _⟩ := h; rfl
  obtain ⟨p_web, p_states, r, rfl, rfl, hm, rfl, rfl⟩ := h
  have nd := sc_l_right.nd
  have hu : (A.deeper (envOfC "_law_right" (defScope s_l_right) s.heap.objs.size f cdv)).units + 64 < cLine := hr.units
  have hu2 : (A.deeper (envOfC "_law_right" (defScope s_l_right) s.heap.objs.size f cdv)).units + 65 < cLine := by have := hr.un; omega
  unfold m_l_right at hm
  obtain ⟨v1, h1, hm⟩ := Option.bind_eq_some_iff.mp hm
  refine st_asgLc (ds := ((p_states.filter (fun (x2 : Str) => (!decide (x2 ∈ p_web.1)))).map (fun (x2 : Str) => x2)).map D.str) (own := [("name", 3)]) 2 (l_F (en2 := D.str) (en := D.str) (xs := p_states) (g := (fun (x2 : Str) => x2)) (pr := (fun (x2 : Str) => (!decide (x2 ∈ p_web.1)))) [("name", 3)] (i_tup (x_var 1 rfl)) (Nat.le_of_lt (pfit_some h1).1) (fun x2 hx6 => ⟨_, fun _ _ _ _ _ => (g_name 3 nd), fun _ _ _ _ _ q4 acc3 => (ts_one (t_cmp (c_notInStrs (ns := p_web.1) (x_var 3 rfl) (x_ixT (x_var 0 rfl) x_int rfl) (SeqD.tup _)))), fun _ _ _ _ _ _ q4 acc3 => (x_var 3 rfl)⟩)) ?_ rfl nd (ok := (blkOk_by (N := N_l_right) (sc := defScope s_l_right) (by decide +kernel)))
  refine st_asg (d := D.non) 4 x_non ?_ nd
  refine st_try (n := "e") nd 5 ⟨rfl, rfl, .inl Em.c_LongError⟩ (fun _ _ tk8 po9 => ?_)
  obtain ⟨rv10, h10, hm⟩ := Option.bind_eq_some_iff.mp hm
  rcases rv10 with v10 | x11
  rotate_left
  · refine st_exprR  (xr_call (xc := x11) D_is_enough hr (by decide) [] [] ([] ++ Fr) (Mc' := []) (a_cons (x_var 0 rfl) (a_cons (x_var 1 rfl) a_nil)) ⟨p_web, p_states, (.ex x11), rfl, rfl, h10, rfl, rfl⟩) (tk8) ?_
    refine wsh_suite (EO.exm (n := .long) (full_mem _) (by decide) (by decide)) (fun a12 oe13 d14 pn15 U16 => ?_)
    refine st_asg (d := (D.exs a12 d14 (x11).fs)) 4 (x_var 5 rfl) ?_ nd
    refine st_sutEnd (ρr := [some ((eP2 (eTs D.str) (eTs (eP3 D.str D.int (eTs D.str)))) p_web), some ((eTs D.str) p_states), some ((eLs D.str) ((p_states.filter (fun (x2 : Str) => (!decide (x2 ∈ p_web.1)))).map (fun (x2 : Str) => x2))), none, some ((eX Er) x11), none, none]) ?_ (by exact ⟨.inr (.inl rfl), ⟨.inr (.inl rfl), ⟨.inr (.inl rfl), ⟨.inl rfl, ⟨.inr (.inr ⟨rfl, rfl⟩), ⟨.inl rfl, ⟨.inl rfl, trivial⟩⟩⟩⟩⟩⟩⟩) rfl
    obtain ⟨v17, h17, hm⟩ := Option.bind_eq_some_iff.mp hm
    refine st_if (k := v17) (t_cmp (c_eqQ hu (x_var 2 rfl) (x_frz (n_lst a_nil (by show (0:Nat) ≤ sizeLine; decide))) (RdD.self _) (RdD.self _) h17)) (fun hc18 => ?_) (fun hc18 => ?_)
    · have hm := (if_pos hc18).symm.trans hm
      have hrr := Option.some.inj hm
      subst hrr
      exact st_ret (x_cmp (c_isN (x_var 4 rfl) x_non)) (fun v G H e w r => q v G H e (w.dropN 0) r)
    · have hm := (if_neg (nf hc18)).symm.trans hm
      refine st_go ?_
      obtain ⟨v31, h31, hm⟩ := Option.bind_eq_some_iff.mp hm
      have hrr := Option.some.inj hm
      subst hrr
      exact st_ret (x_and (m := v31) (M2 := ([] ++ Fr)) (x_cmp (c_notN (x_var 4 rfl) x_non)) (fun hk => by have h31 := (if_pos hk).symm.trans h31; obtain ⟨v19, h19, h31⟩ := Option.bind_eq_some_iff.mp h31; obtain ⟨v20, h20, h31⟩ := Option.bind_eq_some_iff.mp h31; obtain ⟨v27, h27, h31⟩ := Option.bind_eq_some_iff.mp h31; obtain ⟨v30, h30, h31⟩ := Option.bind_eq_some_iff.mp h31; have hrr := Option.some.inj h31; subst hrr; exact (x_and (m := v30) (M2 := ([] ++ Fr)) (x_cmp (c_eqQ hu (x_callD (d := ((eLs D.bl) v19)) D_l_flags hr (by decide) [] [] ([] ++ Fr) (Mc' := []) (a_cons (x_var 4 rfl) a_nil) ⟨x11, v19, rfl, rfl, h19, rfl, rfl⟩) (x_frz (n_lc (own := [("k", 6)]) (l_F (en2 := D.bl) (en := D.int) (xs := v20) (g := (fun (x21 : Int) => (decide (x21 = 0)))) (pr := (fun (x21 : Int) => true)) [("k", 6)] (i_rng1O (a_cons x_int a_nil) h20 B.range) (prng_len h20) (fun x21 hx25 => ⟨_, fun _ _ _ _ _ => (g_name 6 nd), fun _ _ _ _ _ q23 acc22 => ts_nil, fun _ _ _ _ _ _ q23 acc22 => (x_cmp (c_eqI (x_var 6 rfl) x_int))⟩)) rfl nd (blkOk_by (N := N_l_right) (sc := defScope s_l_right) (by decide +kernel)))) (RdD.self _) (RdD.self _) h27)) (fun hk => by have h30 := (if_pos hk).symm.trans h30; obtain ⟨v28, h28, h30⟩ := Option.bind_eq_some_iff.mp h30; obtain ⟨v29, h29, h30⟩ := Option.bind_eq_some_iff.mp h30; have hrr := Option.some.inj h30; subst hrr; exact (x_one (x_cmp (c_eqS (x_word (r := v28) EO (full_mem _) (x_var 4 rfl) h28) (x_ixLm (f := D.str) (xs := ((p_states.filter (fun (x2 : Str) => (!decide (x2 ∈ p_web.1)))).map (fun (x2 : Str) => x2))) (x_var 2 rfl) x_int h29))))) (fun hk => by have h30 := (if_neg (nf hk)).symm.trans h30; cases h30; exact ⟨rfl, rfl⟩))) (fun hk => by have h31 := (if_neg (nf hk)).symm.trans h31; cases h31; exact ⟨rfl, rfl⟩)) (fun v G H e w r => q v G H e (w.dropN 0) r)
  refine st_expr (x_callX (d := (D.bl v10)) D_is_enough hr (by decide) [] [] ([] ++ Fr) (Mc' := []) (a_cons (x_var 0 rfl) (a_cons (x_var 1 rfl) a_nil)) ⟨p_web, p_states, (.tv v10), rfl, rfl, h10, rfl, rfl⟩) ?_
  refine st_goT ?_
  obtain ⟨v32, h32, hm⟩ := Option.bind_eq_some_iff.mp hm
  refine st_if (k := v32) (t_cmp (c_eqQ hu (x_var 2 rfl) (x_frz (n_lst a_nil (by show (0:Nat) ≤ sizeLine; decide))) (RdD.self _) (RdD.self _) h32)) (fun hc33 => ?_) (fun hc33 => ?_)
  · have hm := (if_pos hc33).symm.trans hm
    have hrr := Option.some.inj hm
    subst hrr
    exact st_ret (x_cmp (c_isN (x_var 4 rfl) x_non)) (fun v G H e w r => q v G H e (w.dropN 0) r)
  · have hm := (if_neg (nf hc33)).symm.trans hm
    refine st_go ?_
    have hrr := Option.some.inj hm
    subst hrr
    exact st_ret (x_and (x_cmp (c_notN (x_var 4 rfl) x_non)) (fun hk => by cases hk) (fun _ => ⟨rfl, rfl⟩)) (fun v G H e w r => q v G H e (w.dropN 0) r)
noncomputable def m_law_l1 (v15 : (((List Str) × (List (Str × Int × (List Str)))) × Deck)) (s32 : (Deck × (List Str))) (x33 : Int) : Option (Deck × (List Str)) :=
  (m_l_strange s32.1 v15.1).bind fun v42 => ((if ((!decide (v42.1 ∈ s32.2)) && (!decide (v42.1 = (Str.ofString "")))) = true then ((m_l_take v42.2 (((s32.2.length : Nat) : Int) + 1)).bind fun v48 => (pins s32.2 v48.1 v42.1).bind fun v49 => some (v49, v48.2)) else (some (s32.2, v42.2)) : Option ((List Str) × Deck))).bind fun s46 => some (s46.2, s46.1)
noncomputable def m_law_l2 (v15 : (((List Str) × (List (Str × Int × (List Str)))) × Deck)) (v16 : ((List Str) × Deck)) (s18 : Deck) (x19 : Int) : Option (Fl Deck Bool) :=
  (m_l_take s18 (((v16.1.length : Nat) : Int) + 1)).bind fun v28 => (m_l_take v28.2 3).bind fun v30 => (prng 0 v30.1).bind fun v31 => (foldO (m_law_l1 v15) (v30.2, (cutD v16.1 none (some v28.1))) v31).bind fun s34 => (m_l_right v15.1 s34.2).bind fun v50 => if (!v50) = true then (some (Fl.rt false)) else (some (Fl.nx s34.1))
noncomputable def m_law_l3 (s5 : Deck) (x6 : Int) : Option (Fl Deck Bool) :=
  (m_l_web s5 8 8).bind fun v15 => (m_l_shuffled_t v15.2 v15.1.1).bind fun v16 => (prng 0 6).bind fun v17 => (forR (m_law_l2 v15 v16) v16.2 v17).bind fun y25 => (match y25 with | .rt r52 => some (Fl.rt r52) | .nx s20 => some (Fl.nx s20))
noncomputable def m_law_c4 (x57 : ExM) :=
  (m_l_flags (x57.x)).bind fun v61 => some v61
noncomputable def m_law_c5 (x66 : Int) :=
  (prng 0 8).bind fun v70 => some ((v70.filter (fun (x71 : Int) => true)).map (fun (x71 : Int) => (decide (x66 = x71))))
noncomputable def m_law_c6 (x83 : ExM) :=
  (pstrM x83).bind fun v87 => some v87
noncomputable def m_law (p_script : (List Int)) : Option Bool :=
  (m_l_deck p_script).bind fun v1 => (prng 0 6).bind fun v4 => (forR m_law_l3 v1 v4).bind fun y12 => (match y12 with | .rt r101 => some r101 | .nx s7 => (pword (Str.ofString "ab")).bind fun v53 => (prow 3).bind fun v54 => (prow 4).bind fun v55 => (pfit ([(ExM.mk (.name v53) Str.empty), (ExM.mk (.web v54) Str.empty), (ExM.mk (.table v55) Str.empty), (ExM.mk .rest (Str.ofString "one rest")), (ExM.mk .order (Str.ofString "an order")), (ExM.mk .ask (Str.ofString "a line"))]).length ()).bind fun v56 => (mapO m_law_c4 ([(ExM.mk (.name v53) Str.empty), (ExM.mk (.web v54) Str.empty), (ExM.mk (.table v55) Str.empty), (ExM.mk .rest (Str.ofString "one rest")), (ExM.mk .order (Str.ofString "an order")), (ExM.mk .ask (Str.ofString "a line"))])).bind fun v64 => (prng 0 6).bind fun v65 => (mapO m_law_c5 v65).bind fun v79 => (peq ((eLs (eLs D.bl)) v64) ((eLs (eLs D.bl)) v79)).bind fun v80 => if (!v80) = true then (some false) else ((pfit (cutD ([(ExM.mk (.name v53) Str.empty), (ExM.mk (.web v54) Str.empty), (ExM.mk (.table v55) Str.empty), (ExM.mk .rest (Str.ofString "one rest")), (ExM.mk .order (Str.ofString "an order")), (ExM.mk .ask (Str.ofString "a line"))]) (some 3) none).length ()).bind fun v82 => (mapO m_law_c6 (cutD ([(ExM.mk (.name v53) Str.empty), (ExM.mk (.web v54) Str.empty), (ExM.mk (.table v55) Str.empty), (ExM.mk .rest (Str.ofString "one rest")), (ExM.mk .order (Str.ofString "an order")), (ExM.mk .ask (Str.ofString "a line"))]) (some 3) none)).bind fun v90 => (peq ((eLs D.str) v90) ((eLs D.str) ([(Str.ofString "one rest"), (Str.ofString "an order"), (Str.ofString "a line")]))).bind fun v91 => if (!v91) = true then (some false) else ((pix ([(ExM.mk (.name v53) Str.empty), (ExM.mk (.web v54) Str.empty), (ExM.mk (.table v55) Str.empty), (ExM.mk .rest (Str.ofString "one rest")), (ExM.mk .order (Str.ofString "an order")), (ExM.mk .ask (Str.ofString "a line"))]) 0).bind fun v93 => ((v93.x).word?).bind fun v94 => ((if (decide (v94 = (Str.ofString "ab"))) = true then (pix ([(ExM.mk (.name v53) Str.empty), (ExM.mk (.web v54) Str.empty), (ExM.mk (.table v55) Str.empty), (ExM.mk .rest (Str.ofString "one rest")), (ExM.mk .order (Str.ofString "an order")), (ExM.mk .ask (Str.ofString "a line"))]) 1).bind fun v95 => ((v95.x).row?).bind fun v96 => ((if (decide (v96 = 3)) = true then (pix ([(ExM.mk (.name v53) Str.empty), (ExM.mk (.web v54) Str.empty), (ExM.mk (.table v55) Str.empty), (ExM.mk .rest (Str.ofString "one rest")), (ExM.mk .order (Str.ofString "an order")), (ExM.mk .ask (Str.ofString "a line"))]) 2).bind fun v97 => ((v97.x).row?).bind fun v98 => some (decide (v98 = 4)) else some false : Option Bool)).bind fun v99 => some v99 else some false : Option Bool)).bind fun v100 => some v100)))
def R_law : List D → Mem → D → Mem → Prop := fun ds Mc d Mc' => ∃ (p_script : (List Int)) (r : Bool), ds = [(D.rlst (p_script.map D.int))] ∧ Mc = [] ∧ m_law p_script = some r ∧ d = (D.bl r) ∧ Mc' = []
abbrev s_law : Stmt := topS 24
abbrev N_law : List Str := ["script", "deck", "turn", "web", "names", "k", "states", "more", "strange", "made", "one", "j"]
theorem sc_law : FnScope N_law ["script"] (defScope s_law) := ⟨rfl, rfl, rfl, by decide +kernel, rfl, by decide +kernel, by decide +kernel⟩
theorem ok_law {f : Addr} {fd : FuncData} (F : Fun K "law" "law" s_law f fd) (B : Blt mg) (Cn : Cns mg) (D_l_deck : DefDk P w K mg base 1 "_law_deck" ["script"] R_l_deck) (D_l_take : Def P w K mg base 1 "_law_take" ["deck", "many"] R_l_take) (D_l_shuffled_t : Def P w K mg base 2 "_law_shuffled" ["deck", "things"] R_l_shuffled_t) (D_l_web : Def P w K mg base 4 "_law_web" ["deck", "most", "moves"] R_l_web) (D_l_flags : Def P w K mg base 1 "_law_flags" ["thing"] (R_l_flags Er)) (D_l_strange : Def P w K mg base 2 "_law_strange" ["deck", "web"] R_l_strange) (D_l_right : Def P w K mg base 5 "_law_right" ["web", "states"] R_l_right) (EO : ErOk K Er fullS fullT) (Em : EMg mg Er) (Rz_NoAsk : RzT K mg "NoAsk" Er.ask) (Rz_NoName : RzI P w K mg base "NoName" Er.name "word" isTxt ["self", "word"]) (Rz_NoOrder : RzT K mg "NoOrder" Er.order) (Rz_NoRest : RzT K mg "NoRest" Er.rest) (Rz_NoTable : RzI P w K mg base "NoTable" Er.table "row" isNum ["self", "row"]) (Rz_NoWeb : RzI P w K mg base "NoWeb" Er.web "row" isNum ["self", "row"]) (So : StrOk K Er fullS) : FnOk P w K mg base CX0 6 f fd ["script"] (spR K R_law) := by
  refine fn_ok F sc_law (fun ds Mc d Mc' h => ?_) (fun cdv A outer s H0 E hr G0 Fr ds Mc d Mc' Q h q => ?_)
  · obtain ⟨p_script, r, rfl, _⟩ := h; rfl
  obtain ⟨p_script, r, rfl, rfl, hm, rfl, rfl⟩ := h
  have nd := sc_law.nd
  have hu : (A.deeper (envOfC "law" (defScope s_law) s.heap.objs.size f cdv)).units + 64 < cLine := hr.units
  have hu2 : (A.deeper (envOfC "law" (defScope s_law) s.heap.objs.size f cdv)).units + 65 < cLine := by have := hr.un; omega
  unfold m_law at hm
  obtain ⟨v1, h1, hm⟩ := Option.bind_eq_some_iff.mp hm
  refine st_newDk 1 (x_callDk D_l_deck hr (by decide) (a_cons (x_var 0 rfl) a_nil) ⟨p_script, rfl, h1⟩) (fun a2 c3 => ?_) nd
  obtain ⟨v4, h4, hm⟩ := Option.bind_eq_some_iff.mp hm
  obtain ⟨y12, hy13, hm⟩ := Option.bind_eq_some_iff.mp hm
  refine st_forR (s0 := v1) (en := D.int) (xs := v4) (f := m_law_l3) (y := y12) PassesOwn.never rfl (fun s5 => [some (D.rlst (p_script.map D.int)), some (D.adr a2), none, none, none, none, none, none, none, none, none, none]) (fun s5 => (Deck.mem a2 c3 s5 ++ ([] ++ Fr))) (i_rng1O (a_cons x_int a_nil) h4 B.range) hy13 (fun G10 e11 s5 x6 s7' hx9 hf8 hz14 => ⟨_, _, (g_name 2 nd), ?_⟩) (fun s7 hs => ?_)
  · unfold m_law_l3 at hf8
    obtain ⟨v15, h15, hf8⟩ := Option.bind_eq_some_iff.mp hf8
    refine st_asg (d := ((eP2 (eTs D.str) (eTs (eP3 D.str D.int (eTs D.str)))) v15.1)) 3 (x_callD (d := ((eP2 (eTs D.str) (eTs (eP3 D.str D.int (eTs D.str)))) v15.1)) D_l_web hr (by decide) [] (Deck.mem a2 c3 s5) ([] ++ Fr) (Mc' := Deck.mem a2 c3 v15.2) (a_cons (x_var 1 rfl) (a_cons x_int (a_cons x_int a_nil))) ⟨a2, c3, s5, 8, 8, v15, rfl, rfl, h15, rfl, rfl⟩) ?_ nd
    obtain ⟨v16, h16, hf8⟩ := Option.bind_eq_some_iff.mp hf8
    refine st_asg (d := ((eLs D.str) v16.1)) 4 (x_callD (d := ((eLs D.str) v16.1)) D_l_shuffled_t hr (by decide) [] (Deck.mem a2 c3 v15.2) ([] ++ Fr) (Mc' := Deck.mem a2 c3 v16.2) (a_cons (x_var 1 rfl) (a_cons (x_ixT (x_var 3 rfl) x_int rfl) a_nil)) ⟨a2, c3, v15.2, v15.1.1, v16, rfl, rfl, h16, rfl, rfl⟩) ?_ nd
    obtain ⟨v17, h17, hf8⟩ := Option.bind_eq_some_iff.mp hf8
    obtain ⟨y25, hy26, hf8⟩ := Option.bind_eq_some_iff.mp hf8
    refine st_forR (s0 := v16.2) (en := D.int) (xs := v17) (f := (m_law_l2 v15 v16)) (y := y25) PassesOwn.never rfl (fun s18 => [some (D.rlst (p_script.map D.int)), some (D.adr a2), some (D.int x6), some ((eP2 (eTs D.str) (eTs (eP3 D.str D.int (eTs D.str)))) v15.1), some ((eLs D.str) v16.1), none, none, none, none, none, none, none]) (fun s18 => (Deck.mem a2 c3 s18 ++ ([] ++ Fr))) (i_rng1O (a_cons x_int a_nil) h17 B.range) hy26 (fun G23 e24 s18 x19 s20' hx22 hf21 hz27 => ⟨_, _, (g_name 5 nd), ?_⟩) (fun s20 hs => ?_)
    · unfold m_law_l2 at hf21
      obtain ⟨v28, h28, hf21⟩ := Option.bind_eq_some_iff.mp hf21
      refine st_new (o := MO.lst ((cutD v16.1 none (some v28.1)).map D.str)) 6 (n_slLm (f := D.str) (xs := v16.1) (x_var 4 rfl) o_none (o_some (x_callD (d := (D.int v28.1)) D_l_take hr (by decide) [] (Deck.mem a2 c3 s18) ([] ++ Fr) (Mc' := Deck.mem a2 c3 v28.2) (a_cons (x_var 1 rfl) (a_cons (x_add (x_lenm (f := D.str) (xs := v16.1) (a_cons (x_var 4 rfl) a_nil) (SeqD.lst _) B.len) x_int) a_nil)) ⟨a2, c3, s18, (((v16.1.length : Nat) : Int) + 1), v28, rfl, rfl, h28, rfl, rfl⟩))) (fun q29 => ?_) nd
      obtain ⟨v30, h30, hf21⟩ := Option.bind_eq_some_iff.mp hf21
      obtain ⟨v31, h31, hf21⟩ := Option.bind_eq_some_iff.mp hf21
      obtain ⟨s34, hy40, hf21⟩ := Option.bind_eq_some_iff.mp hf21
      refine st_forO (s0 := (v30.2, (cutD v16.1 none (some v28.1)))) (en := D.int) (xs := v31) (f := (m_law_l1 v15)) (s1 := s34) PassesOwn.never rfl (fun s32 => [some (D.rlst (p_script.map D.int)), some (D.adr a2), some (D.int x6), some ((eP2 (eTs D.str) (eTs (eP3 D.str D.int (eTs D.str)))) v15.1), some ((eLs D.str) v16.1), some (D.int x19), some (D.adr q29), none, none, none, none, none]) (fun s32 => ((q29, MO.lst (s32.2.map D.str)) :: (Deck.mem a2 c3 s32.1 ++ ([] ++ Fr)))) (i_rng1O (a_cons (x_callD (d := (D.int v30.1)) D_l_take hr (by decide) [(q29, MO.lst ((cutD v16.1 none (some v28.1)).map D.str))] (Deck.mem a2 c3 v28.2) ([] ++ Fr) (Mc' := Deck.mem a2 c3 v30.2) (a_cons (x_var 1 rfl) (a_cons x_int a_nil)) ⟨a2, c3, v28.2, 3, v30, rfl, rfl, h30, rfl, rfl⟩) a_nil) h31 B.range) hy40 (fun G37 e38 s32 x33 s34' hx36 hf35 => ⟨_, _, (g_name 7 nd), ?_⟩) ?_
      · unfold m_law_l1 at hf35
        obtain ⟨v42, h42, hf35⟩ := Option.bind_eq_some_iff.mp hf35
        refine st_asg (d := (D.str v42.1)) 8 (x_callD (d := (D.str v42.1)) D_l_strange hr (by decide) [(q29, MO.lst (s32.2.map D.str))] (Deck.mem a2 c3 s32.1) ([] ++ Fr) (Mc' := Deck.mem a2 c3 v42.2) (a_cons (x_var 1 rfl) (a_cons (x_var 3 rfl) a_nil)) ⟨a2, c3, s32.1, v15.1, v42, rfl, rfl, h42, rfl, rfl⟩) ?_ nd
        obtain ⟨s46, hj47, hf35⟩ := Option.bind_eq_some_iff.mp hf35
        refine st_ifJ (k := ((!decide (v42.1 ∈ s32.2)) && (!decide (v42.1 = (Str.ofString ""))))) [some (D.rlst (p_script.map D.int)), some (D.adr a2), some (D.int x6), some ((eP2 (eTs D.str) (eTs (eP3 D.str D.int (eTs D.str)))) v15.1), some ((eLs D.str) v16.1), some (D.int x19), some (D.adr q29), some (D.int x33), some (D.str v42.1), none, none, none] ((q29, MO.lst (s46.1.map D.str)) :: (Deck.mem a2 c3 s46.2 ++ ([] ++ Fr))) (t_w (w_andP (t_cmp (c_notInStrs (ns := s32.2) (x_var 8 rfl) (x_var 6 rfl) (SeqD.own 0 q29 (s32.2.map D.str) rfl))) (fun _ => (w_and1 (t_cmp (c_neS (x_var 8 rfl) x_str)))))) (fun hc43 => ?_) (fun hc43 => ?_) ?_
        · have hj47 := (if_pos hc43).symm.trans hj47
          obtain ⟨v48, h48, hj47⟩ := Option.bind_eq_some_iff.mp hj47
          obtain ⟨v49, h49, hj47⟩ := Option.bind_eq_some_iff.mp hj47
          refine st_expr (x_insertO (f := D.str) (xs := s32.2) (v := v42.1) 0 (x_var 6 rfl) (a_cons (x_callD (d := (D.int v48.1)) D_l_take hr (by decide) [(q29, MO.lst (s32.2.map D.str))] (Deck.mem a2 c3 v42.2) ([] ++ Fr) (Mc' := Deck.mem a2 c3 v48.2) (a_cons (x_var 1 rfl) (a_cons (x_add (x_lenm (f := D.str) (xs := s32.2) (a_cons (x_var 6 rfl) a_nil) (SeqD.own 0 q29 (s32.2.map D.str) rfl) B.len) x_int) a_nil)) ⟨a2, c3, v42.2, (((s32.2.length : Nat) : Int) + 1), v48, rfl, rfl, h48, rfl, rfl⟩) (a_cons (x_var 8 rfl) a_nil)) rfl rfl h49) ?_
          have hrr := Option.some.inj hj47
          subst hrr
          exact st_end (fun σ H a => a)
        · have hj47 := (if_neg (nf hc43)).symm.trans hj47
          have hrr := Option.some.inj hj47
          subst hrr
          exact st_end (fun σ H a => a)
        have hrr := Option.some.inj hf35
        subst hrr
        exact st_end (fun σ H a => (a.wipe [7, 8]))
      obtain ⟨v50, h50, hf21⟩ := Option.bind_eq_some_iff.mp hf21
      refine st_if (k := (!v50)) (t_not (t_val (x_callD (d := (D.bl v50)) D_l_right hr (by decide) [] [] ((q29, MO.lst (s34.2.map D.str)) :: (Deck.mem a2 c3 s34.1 ++ ([] ++ Fr))) (Mc' := []) (a_cons (x_var 3 rfl) (a_cons (x_tupleOf (a_cons (x_var 6 rfl) a_nil) (SeqD.own 0 q29 (s34.2.map D.str) rfl) B.tuple) a_nil)) ⟨v15.1, s34.2, v50, rfl, rfl, h50, rfl, rfl⟩))) (fun hc51 => ?_) (fun hc51 => ?_)
      · have hf21 := (if_pos hc51).symm.trans hf21
        have hrr := Option.some.inj hf21
        subst hrr
        have hy := hz27 _ rfl; subst hy
        have hrr := Option.some.inj hf8
        subst hrr
        have hy := hz14 _ rfl; subst hy
        have hrr := Option.some.inj hm
        subst hrr
        exact st_ret x_bl (fun v G H e w r => by have w2 : Wd K G _ H := w; exact q v G H (e11.trans (e24.trans e)) (Wd.dropDk (a := a2) (c := c3) (k := s34.1) (M := ([] ++ Fr)) (w2.dropN 1)) r)
      · have hf21 := (if_neg (nf hc51)).symm.trans hf21
        refine st_go ?_
        have hrr := Option.some.inj hf21
        subst hrr
        exact st_end (fun σ H a => ⟨_, rfl, ((a.wipe [5, 6]).dropN 1)⟩)
    subst hs
    have hrr := Option.some.inj hf8
    subst hrr
    exact st_end (fun σ H a => ⟨_, rfl, (a.wipe [2, 3, 4])⟩)
  subst hs
  obtain ⟨v53, h53, hm⟩ := Option.bind_eq_some_iff.mp hm
  obtain ⟨v54, h54, hm⟩ := Option.bind_eq_some_iff.mp hm
  obtain ⟨v55, h55, hm⟩ := Option.bind_eq_some_iff.mp hm
  refine st_asg (d := ((eLs (eM Er)) ([(ExM.mk (.name v53) Str.empty), (ExM.mk (.web v54) Str.empty), (ExM.mk (.table v55) Str.empty), (ExM.mk .rest (Str.ofString "one rest")), (ExM.mk .order (Str.ofString "an order")), (ExM.mk .ask (Str.ofString "a line"))]))) 9 (x_frz (n_lst (a_cons (x_mkIM (xc := (.name v53)) (m := Str.empty) (x_mkI (E := Er) (xc := (.name v53)) (v := (.str v53)) Rz_NoName hr (by decide) (a_cons (x_is x_str (congrArg D.str (pword_eq h53))) a_nil) (fun G u r => of_str r) (pword_ok h53) rfl) rfl) (a_cons (x_mkIM (xc := (.web v54)) (m := Str.empty) (x_mkI (E := Er) (xc := (.web v54)) (v := (.int v54)) Rz_NoWeb hr (by decide) (a_cons (x_is x_int (congrArg D.int (prow_eq h54))) a_nil) (fun G u r => of_int r) (prow_ok h54) rfl) rfl) (a_cons (x_mkIM (xc := (.table v55)) (m := Str.empty) (x_mkI (E := Er) (xc := (.table v55)) (v := (.int v55)) Rz_NoTable hr (by decide) (a_cons (x_is x_int (congrArg D.int (prow_eq h55))) a_nil) (fun G u r => of_int r) (prow_ok h55) rfl) rfl) (a_cons (x_mkTM (E := Er) (xc := .rest) (x_mkT Rz_NoRest) rfl) (a_cons (x_mkTM (E := Er) (xc := .order) (x_mkT Rz_NoOrder) rfl) (a_cons (x_mkTM (E := Er) (xc := .ask) (x_mkT Rz_NoAsk) rfl) a_nil)))))) (by show (6:Nat) ≤ sizeLine; decide))) ?_ nd
  obtain ⟨v56, h56, hm⟩ := Option.bind_eq_some_iff.mp hm
  obtain ⟨v64, h64, hm⟩ := Option.bind_eq_some_iff.mp hm
  obtain ⟨v65, h65, hm⟩ := Option.bind_eq_some_iff.mp hm
  obtain ⟨v79, h79, hm⟩ := Option.bind_eq_some_iff.mp hm
  obtain ⟨v80, h80, hm⟩ := Option.bind_eq_some_iff.mp hm
  refine st_if (k := (!v80)) (t_cmp (c_neQ hu (x_frz (n_lc (own := [("one", 10)]) (l_O (en2 := (eLs D.bl)) (en := (eM Er)) (xs := [(ExM.mk (.name v53) Str.empty), (ExM.mk (.web v54) Str.empty), (ExM.mk (.table v55) Str.empty), (ExM.mk .rest (Str.ofString "one rest")), (ExM.mk .order (Str.ofString "an order")), (ExM.mk .ask (Str.ofString "a line"))]) (ys := v64) (f := m_law_c4) [("one", 10)] (i_lst (x_var 9 rfl)) h64 (Nat.le_of_lt (pfit_some h56).1) (fun x57 y63 hx62 h => by unfold m_law_c4 at h; obtain ⟨v61, h61, h⟩ := Option.bind_eq_some_iff.mp h; have hrr := Option.some.inj h; subst hrr; exact ⟨_, fun _ _ _ _ _ => (g_name 10 nd), fun _ _ _ _ _ q59 acc58 => (x_callD (d := ((eLs D.bl) v61)) D_l_flags hr (by decide) [] [] ((q59, MO.lst acc58) :: (Deck.mem a2 c3 s7 ++ ([] ++ Fr))) (Mc' := []) (a_cons (x_weakM (y := x57) (x_var 10 rfl)) a_nil) ⟨(x57.x), v61, rfl, rfl, h61, rfl, rfl⟩)⟩)) rfl nd (blkOk_by (N := N_law) (sc := defScope s_law) (by decide +kernel)))) (x_frz (n_lc (own := [("k", 5)]) (l_O (en2 := (eLs D.bl)) (en := D.int) (xs := v65) (ys := v79) (f := m_law_c5) [("k", 5)] (i_rng1O (a_cons x_int a_nil) h65 B.range) h79 (prng_len h65) (fun x66 y78 hx77 h => by unfold m_law_c5 at h; obtain ⟨v70, h70, h⟩ := Option.bind_eq_some_iff.mp h; have hrr := Option.some.inj h; subst hrr; exact ⟨_, fun _ _ _ _ _ => (g_name 5 nd), fun _ _ _ _ _ q68 acc67 => (x_frz (n_lc (own := [("j", 11)]) (l_F (en2 := D.bl) (en := D.int) (xs := v70) (g := (fun (x71 : Int) => (decide (x66 = x71)))) (pr := (fun (x71 : Int) => true)) [("j", 11)] (i_rng1O (a_cons x_int a_nil) h70 B.range) (prng_len h70) (fun x71 hx75 => ⟨_, fun _ _ _ _ _ => (g_name 11 nd), fun _ _ _ _ _ q73 acc72 => ts_nil, fun _ _ _ _ _ _ q73 acc72 => (x_cmp (c_eqI (x_var 5 rfl) (x_var 11 rfl)))⟩)) rfl nd (by exact blkOk_by (by kernel_rfl))))⟩)) rfl nd (blkOk_by (N := N_law) (sc := defScope s_law) (by decide +kernel)))) (RdD.self _) (RdD.self _) h80)) (fun hc81 => ?_) (fun hc81 => ?_)
  · have hm := (if_pos hc81).symm.trans hm
    have hrr := Option.some.inj hm
    subst hrr
    exact st_ret x_bl (fun v G H e w r => by have w2 : Wd K G _ H := w; exact q v G H e (Wd.dropDk (a := a2) (c := c3) (k := s7) (M := ([] ++ Fr)) w2) r)
  · have hm := (if_neg (nf hc81)).symm.trans hm
    refine st_go ?_
    obtain ⟨v82, h82, hm⟩ := Option.bind_eq_some_iff.mp hm
    obtain ⟨v90, h90, hm⟩ := Option.bind_eq_some_iff.mp hm
    obtain ⟨v91, h91, hm⟩ := Option.bind_eq_some_iff.mp hm
    refine st_if (k := (!v91)) (t_cmp (c_neQ hu (x_frz (n_lc (own := [("one", 10)]) (l_O (en2 := D.str) (en := (eM Er)) (xs := (cutD ([(ExM.mk (.name v53) Str.empty), (ExM.mk (.web v54) Str.empty), (ExM.mk (.table v55) Str.empty), (ExM.mk .rest (Str.ofString "one rest")), (ExM.mk .order (Str.ofString "an order")), (ExM.mk .ask (Str.ofString "a line"))]) (some 3) none)) (ys := v90) (f := m_law_c6) [("one", 10)] (i_lst (x_frz (n_slLm (f := (eM Er)) (xs := [(ExM.mk (.name v53) Str.empty), (ExM.mk (.web v54) Str.empty), (ExM.mk (.table v55) Str.empty), (ExM.mk .rest (Str.ofString "one rest")), (ExM.mk .order (Str.ofString "an order")), (ExM.mk .ask (Str.ofString "a line"))]) (x_var 9 rfl) (o_some x_int) o_none))) h90 (Nat.le_of_lt (pfit_some h82).1) (fun x83 y89 hx88 h => by unfold m_law_c6 at h; obtain ⟨v87, h87, h⟩ := Option.bind_eq_some_iff.mp h; have hrr := Option.some.inj h; subst hrr; exact ⟨_, fun _ _ _ _ _ => (g_name 10 nd), fun _ _ _ _ _ q85 acc84 => (x_strM (y := x83) So (full_mem _) hu (a_cons (x_var 10 rfl) a_nil) h87 B.str)⟩)) rfl nd (blkOk_by (N := N_law) (sc := defScope s_law) (by decide +kernel)))) (x_frz (n_lst (a_cons x_str (a_cons x_str (a_cons x_str a_nil))) (by show (3:Nat) ≤ sizeLine; decide))) (RdD.self _) (RdD.self _) h91)) (fun hc92 => ?_) (fun hc92 => ?_)
    · have hm := (if_pos hc92).symm.trans hm
      have hrr := Option.some.inj hm
      subst hrr
      exact st_ret x_bl (fun v G H e w r => by have w2 : Wd K G _ H := w; exact q v G H e (Wd.dropDk (a := a2) (c := c3) (k := s7) (M := ([] ++ Fr)) w2) r)
    · have hm := (if_neg (nf hc92)).symm.trans hm
      refine st_go ?_
      obtain ⟨v93, h93, hm⟩ := Option.bind_eq_some_iff.mp hm
      obtain ⟨v94, h94, hm⟩ := Option.bind_eq_some_iff.mp hm
      obtain ⟨v100, h100, hm⟩ := Option.bind_eq_some_iff.mp hm
      have hrr := Option.some.inj hm
      subst hrr
      exact st_ret (x_and (m := v100) (M2 := (Deck.mem a2 c3 s7 ++ ([] ++ Fr))) (x_cmp (c_eqS (x_word (r := v94) EO (full_mem _) (x_weakM (y := v93) (x_ixLm (f := (eM Er)) (xs := [(ExM.mk (.name v53) Str.empty), (ExM.mk (.web v54) Str.empty), (ExM.mk (.table v55) Str.empty), (ExM.mk .rest (Str.ofString "one rest")), (ExM.mk .order (Str.ofString "an order")), (ExM.mk .ask (Str.ofString "a line"))]) (x_var 9 rfl) x_int h93)) h94) x_str)) (fun hk => by have h100 := (if_pos hk).symm.trans h100; obtain ⟨v95, h95, h100⟩ := Option.bind_eq_some_iff.mp h100; obtain ⟨v96, h96, h100⟩ := Option.bind_eq_some_iff.mp h100; obtain ⟨v99, h99, h100⟩ := Option.bind_eq_some_iff.mp h100; have hrr := Option.some.inj h100; subst hrr; exact (x_and (m := v99) (M2 := (Deck.mem a2 c3 s7 ++ ([] ++ Fr))) (x_cmp (c_eqI (x_row (r := v96) EO (full_mem _) (x_weakM (y := v95) (x_ixLm (f := (eM Er)) (xs := [(ExM.mk (.name v53) Str.empty), (ExM.mk (.web v54) Str.empty), (ExM.mk (.table v55) Str.empty), (ExM.mk .rest (Str.ofString "one rest")), (ExM.mk .order (Str.ofString "an order")), (ExM.mk .ask (Str.ofString "a line"))]) (x_var 9 rfl) x_int h95)) h96) x_int)) (fun hk => by have h99 := (if_pos hk).symm.trans h99; obtain ⟨v97, h97, h99⟩ := Option.bind_eq_some_iff.mp h99; obtain ⟨v98, h98, h99⟩ := Option.bind_eq_some_iff.mp h99; have hrr := Option.some.inj h99; subst hrr; exact (x_one (x_cmp (c_eqI (x_row (r := v98) EO (full_mem _) (x_weakM (y := v97) (x_ixLm (f := (eM Er)) (xs := [(ExM.mk (.name v53) Str.empty), (ExM.mk (.web v54) Str.empty), (ExM.mk (.table v55) Str.empty), (ExM.mk .rest (Str.ofString "one rest")), (ExM.mk .order (Str.ofString "an order")), (ExM.mk .ask (Str.ofString "a line"))]) (x_var 9 rfl) x_int h97)) h98) x_int)))) (fun hk => by have h99 := (if_neg (nf hk)).symm.trans h99; cases h99; exact ⟨rfl, rfl⟩))) (fun hk => by have h100 := (if_neg (nf hk)).symm.trans h100; cases h100; exact ⟨rfl, rfl⟩)) (fun v G H e w r => by have w2 : Wd K G _ H := w; exact q v G H e (Wd.dropDk (a := a2) (c := c3) (k := s7) (M := ([] ++ Fr)) w2) r)
end
end K53

namespace K53
open PySem PySem.Spec PyProof.Rows L2 Evl Wk
/-! the deck's plain laws -/
def DeckOk (k : Deck) : Prop := 0 < k.cells.length ∧ k.cells.length ≤ 64
theorem take_ok {k : Deck} {many : Int} (h : DeckOk k) (h0 : 0 < many) (h1 : many < 2 ^ 64) : Ok (m_l_take k many) (fun r => (0 ≤ r.1 ∧ r.1 < many) ∧ DeckOk r.2) := by
  unfold m_l_take
  obtain ⟨hc, hc2⟩ := h
  refine Ok.bind (ok_mod (by omega)) fun v1 ⟨_, b1, b2⟩ => Ok.bind (ok_pix b1 b2) fun v2 _ => Ok.itep (fun _ => ?_) fun _ => ?_
  · refine Ok.bind (ok_mod (by decide)) fun v3 ⟨_, _, _⟩ => Ok.bind (ok_mod (by decide)) fun v4 ⟨_, c1, c2⟩ => Ok.bind (ok_mul (by omega) (by omega) (by omega) (by omega)) fun v5 _ => Ok.bind (ok_mod (by decide)) fun v6 _ => Ok.bind (ok_mod (by decide)) fun v7 _ => Ok.bind (ok_div (by decide) (by decide)) fun v8 _ => Ok.bind (ok_mod h0) fun v9 ⟨_, d1, d2⟩ => Ok.ret ⟨⟨d1, d2⟩, hc, hc2⟩
  · refine Ok.bind (ok_div h0 h1) fun v3 _ => Ok.bind (ok_set b1 b2) fun v5 e => Ok.bind (ok_mod h0) fun v4 ⟨_, d1, d2⟩ => Ok.ret ⟨⟨d1, d2⟩, ?_⟩
    subst e
    exact ⟨by show 0 < (k.cells.set _ _).length; rw [List.length_set]; exact hc, by show (k.cells.set _ _).length ≤ 64; rw [List.length_set]; exact hc2⟩
theorem cut_len {α : Type} (xs : List α) (n : Nat) : (Wk.cutD xs none (some (n : Nat))).length = min n xs.length := by
  unfold Wk.cutD
  rw [HT.sIx_none, HT.sIx_nat, List.length_take, List.length_drop]
  omega
theorem deck_ok {ns : List Int} (h : ns.length ≤ 63) : Ok (m_l_deck ns) DeckOk := by
  unfold m_l_deck
  have hl : (Wk.cutD ns none (some 63)).length ≤ 63 := by
    have := cut_len ns 63
    have e : ((63 : Nat) : Int) = 63 := rfl
    rw [e] at this
    omega
  refine Ok.eqn (eq_cat (by rw [List.length_singleton]; omega)) (Ok.let (Ok.bind (P := fun v : List Int => 0 < v.length ∧ v.length ≤ 64) (Ok.ite (fun _ => ?_) fun _ => Ok.ret ?_) fun v hv => Ok.ret hv))
  · have hz : ((Wk.cutD ns none (some 63) ++ [((ns.length : Nat) : Int)]).length) = (Wk.cutD ns none (some 63)).length + 1 := by rw [List.length_append]; rfl
    generalize Wk.cutD ns none (some 63) ++ [((ns.length : Nat) : Int)] = cs at hz
    refine Ok.eqn (eq_rng (by decide) (by decide) (by omega) (by omega)) (Ok.bind (foldO_inv (I := fun s => s.length = cs.length) rfl fun s x hx hs => ?_) fun s hs => Ok.ret (by omega))
    unfold m_l_deck_l1
    have hx := rgI_mem.mp hx
    refine Ok.bind (ok_pix (by omega) (by omega)) fun v35 _ => Ok.let (Ok.bind (ok_mul (by omega) (by omega) (by omega) (by omega)) fun v37 _ => Ok.let (Ok.bind (ok_mul (by omega) (by omega) (by omega) (by omega)) fun v39 _ => Ok.bind (ok_set (by omega) (by omega)) fun v40 e => Ok.ret ?_))
    subst e
    rw [List.length_set]; exact hs
  · rw [List.length_append, List.length_singleton]; omega
/-- a name: one to eight small letters -/
def NameOk (w : Str) : Prop := 1 ≤ w.length ∧ w.length ≤ 8 ∧ ∀ c ∈ w.cps.toList, 97 ≤ c ∧ c ≤ 122
theorem abc_all : (Str.ofString "abcdefghijklmnopqrstuvwxyz").length = 26 ∧ ∀ c ∈ (Str.ofString "abcdefghijklmnopqrstuvwxyz").cps.toList, 97 ≤ c ∧ c ≤ 122 := by decide +kernel
theorem letter_ok {i : Int} (h0 : 0 ≤ i) (h1 : i < 26) : Ok (pixS (Str.ofString "abcdefghijklmnopqrstuvwxyz") i) (fun r => ∃ c, (97 ≤ c ∧ c ≤ 122) ∧ r = ⟨#[c]⟩) := by
  refine (ok_pixS h0 (by rw [abc_all.1]; exact h1) (by rw [abc_all.1]; decide)).imp fun r ⟨c, hc, e⟩ => ⟨c, abc_all.2 c hc, e⟩
theorem name_one {c : Nat} (h : 97 ≤ c ∧ c ≤ 122) : NameOk ⟨#[c]⟩ := ⟨by show 1 ≤ 1; omega, by show 1 ≤ 8; omega, fun d hd => by
  have : d = c := by simpa using hd
  subst this; exact h⟩
theorem str_len_app (a b : Str) : (a ++ b).length = a.length + b.length := by
  show (a.cps ++ b.cps).size = a.cps.size + b.cps.size
  exact Array.size_append
theorem str_mem_app {a b : Str} {c : Nat} (h : c ∈ (a ++ b).cps.toList) : c ∈ a.cps.toList ∨ c ∈ b.cps.toList := by
  have e : (a ++ b).cps.toList = a.cps.toList ++ b.cps.toList := by
    show (a.cps ++ b.cps).toList = _
    simp
  rw [e] at h
  exact List.mem_append.mp h
theorem txt_join (s : Str) (ls : List Str) : Txt.join s ls = Str.join s ls := StrLaws.glued_eq_join _ _
theorem join_ones0 : ∀ (ls : List Str), (∀ l ∈ ls, ∃ c, (97 ≤ c ∧ c ≤ 122) ∧ l = ⟨#[c]⟩) → (Str.join (Str.ofString "") ls).length = ls.length ∧ ∀ c ∈ (Str.join (Str.ofString "") ls).cps.toList, 97 ≤ c ∧ c ≤ 122
  | [], _ => ⟨rfl, fun c hc => by have : c ∈ ([] : List Nat) := hc; simp at this⟩
  | [x], h => by
    obtain ⟨c, hc, rfl⟩ := h x List.mem_cons_self
    exact ⟨rfl, (name_one hc).2.2⟩
  | x :: y :: r, h => by
    obtain ⟨c, hc, rfl⟩ := h x List.mem_cons_self
    obtain ⟨h1, h2⟩ := join_ones0 (y :: r) fun l hl => h l (List.mem_cons_of_mem _ hl)
    have e : Str.join (Str.ofString "") (⟨#[c]⟩ :: y :: r) = ((⟨#[c]⟩ : Str) ++ Str.ofString "") ++ Str.join (Str.ofString "") (y :: r) := rfl
    have z : (Str.ofString "").length = 0 := by decide +kernel
    have z2 : (Str.ofString "").cps.toList = [] := by decide +kernel
    rw [e]
    refine ⟨?_, fun d hd => ?_⟩
    · rw [str_len_app, str_len_app, h1, z]
      show 1 + 0 + (y :: r).length = _
      rw [List.length_cons, List.length_cons, List.length_cons]; omega
    · rcases str_mem_app hd with hd | hd
      · rcases str_mem_app hd with hd | hd
        · exact (name_one hc).2.2 d hd
        · rw [z2] at hd; simp at hd
      · exact h2 d hd
theorem join_ones (ls : List Str) (h : ∀ l ∈ ls, ∃ c, (97 ≤ c ∧ c ≤ 122) ∧ l = ⟨#[c]⟩) : (Txt.join (Str.ofString "") ls).length = ls.length ∧ ∀ c ∈ (Txt.join (Str.ofString "") ls).cps.toList, 97 ≤ c ∧ c ≤ 122 := by
  rw [txt_join]; exact join_ones0 ls h
theorem sum_ones : ∀ (ls : List Str), (∀ l ∈ ls, ∃ c, (97 ≤ c ∧ c ≤ 122) ∧ l = ⟨#[c]⟩) → (ls.map (·.length)).sum = ls.length
  | [], _ => rfl
  | x :: r, h => by
    obtain ⟨c, hc, rfl⟩ := h x List.mem_cons_self
    rw [List.map_cons, List.sum_cons, sum_ones r fun l hl => h l (List.mem_cons_of_mem _ hl), List.length_cons]
    show 1 + r.length = _
    omega
theorem cut8 {w : Str} {c : Nat} (hw : NameOk w) (hc : 97 ≤ c ∧ c ≤ 122) : NameOk (cutS (w ++ ⟨#[c]⟩) none (some 8)) := by
  have hl : (w ++ (⟨#[c]⟩ : Str)).length = w.length + 1 := str_len_app _ _
  have e : cutS (w ++ ⟨#[c]⟩) none (some 8) = ⟨((w ++ (⟨#[c]⟩ : Str)).cps.toList.take (min 8 (w.length + 1))).toArray⟩ := by
    unfold cutS
    rw [HT.sIx_none, show (some 8 : Option Int) = some ((8 : Nat) : Int) from rfl, HT.sIx_nat, hl, List.drop_zero, Nat.sub_zero]
  have hw1 := hw.1
  have hs : (w ++ (⟨#[c]⟩ : Str)).cps.toList.length = w.length + 1 := by rw [Array.length_toList]; exact hl
  rw [e]
  refine ⟨?_, ?_, fun d hd => ?_⟩
  · show 1 ≤ (List.toArray _).size
    rw [List.size_toArray, List.length_take, hs]; omega
  · show (List.toArray _).size ≤ 8
    rw [List.size_toArray, List.length_take, hs]; omega
  · have hd := List.mem_of_mem_take (show d ∈ List.take (min 8 (w.length + 1)) (w ++ (⟨#[c]⟩ : Str)).cps.toList from hd)
    rcases str_mem_app hd with hd | hd
    · exact hw.2.2 d hd
    · exact (name_one hc).2.2 d hd
/-- the words by turns: the first nine are unlike -/
def turnWord (n : Nat) : Str := ⟨#[97 + n, 97]⟩
theorem turn_word {n : Nat} (h : n < 26) : Ok (pixS (Str.ofString "abcdefghijklmnopqrstuvwxyz") (((n : Nat) : Int) % 26)) (fun r => r = ⟨#[97 + n]⟩) := by
  have key : ∀ n : Fin 26, pixS (Str.ofString "abcdefghijklmnopqrstuvwxyz") (((n : Nat) : Int) % 26) = some ⟨#[97 + n]⟩ := by decide +kernel
  exact ⟨_, key ⟨n, h⟩, rfl⟩
theorem turn_word2 {n : Nat} (h : n < 26) : Ok (pixS (Str.ofString "abcdefghijklmnopqrstuvwxyz") (((n : Nat) : Int) / 26)) (fun r => r = ⟨#[97]⟩) := by
  have key : pixS (Str.ofString "abcdefghijklmnopqrstuvwxyz") 0 = some ⟨#[97]⟩ := by decide +kernel
  have : ((n : Nat) : Int) / 26 = 0 := by omega
  rw [this]
  exact ⟨_, key, rfl⟩
theorem turnWord_ok {n : Nat} (h : n < 26) : NameOk (turnWord n) := ⟨by show 1 ≤ 2; omega, by show 2 ≤ 8; omega, fun d hd => by
  have : d = 97 + n ∨ d = 97 := by simpa [turnWord] using hd
  omega⟩
theorem nodup_sub : ∀ {xs ys : List Str}, xs.Nodup → (∀ x ∈ xs, x ∈ ys) → xs.length ≤ ys.length
  | [], ys, _, _ => Nat.zero_le _
  | x :: xs, ys, hn, h => by
    have hx := h x List.mem_cons_self
    have hn := List.nodup_cons.mp hn
    have := nodup_sub (ys := ys.erase x) hn.2 fun y hy => by
      refine (List.mem_erase_of_ne fun e => ?_).mpr (h y (List.mem_cons_of_mem _ hy))
      subst e; exact hn.1 hy
    rw [List.length_erase_of_mem hx] at this
    have : 0 < ys.length := List.length_pos_of_mem hx
    rw [List.length_cons]; omega
theorem words_nodup (n : Nat) : ((List.range n).map turnWord).Nodup := by
  refine List.pairwise_map.mpr (List.nodup_range.imp fun {a b} h e => h ?_)
  have : (97 + a) = (97 + b) := by
    have := congrArg (fun s : Str => s.cps.toList.head?) e
    simpa [turnWord] using this
  omega
theorem names_ok {k : Deck} {many : Int} (h : DeckOk k) (h0 : 0 ≤ many) (h1 : many ≤ 10) : Ok (m_l_names k many) (fun r => ((r.1.length : Nat) : Int) = many ∧ r.1.Nodup ∧ (∀ w ∈ r.1, NameOk w) ∧ DeckOk r.2) := by
  unfold m_l_names
  refine Ok.let (Ok.bind (take_ok h (by decide) (by decide)) fun v3 ⟨_, hd3⟩ => Ok.ite (fun _ => ?_) fun _ => ?_)
  · have l10 : ∀ (s : List Str × Deck), True := fun _ => trivial
    refine Ok.eqn (eq_rng (by decide) (by decide) h0 (by omega)) ?_
    have hlen : ((rgI 0 many).length : Int) = many := by rw [rgI_len]; omega
    refine Ok.bind (mapS_acc (I := fun acc s => (acc ++ s.1).Perm [(Str.ofString "a"), (Str.ofString "b"), (Str.ofString "ab"), (Str.ofString "ba"), (Str.ofString "aa"), (Str.ofString "bb"), (Str.ofString "aab"), (Str.ofString "abb"), (Str.ofString "aba"), (Str.ofString "bab")] ∧ DeckOk s.2) ⟨List.Perm.refl _, hd3⟩ fun acc s x hx hl hi => ?_) fun r hr => Ok.ret ?_
    · unfold m_l_names_c1
      obtain ⟨hp, hd⟩ := hi
      have hlp := hp.length_eq
      rw [List.length_append] at hlp
      have h10 : ([(Str.ofString "a"), (Str.ofString "b"), (Str.ofString "ab"), (Str.ofString "ba"), (Str.ofString "aa"), (Str.ofString "bb"), (Str.ofString "aab"), (Str.ofString "abb"), (Str.ofString "aba"), (Str.ofString "bab")] : List Str).length = 10 := rfl
      rw [h10] at hlp
      refine Ok.bind (take_ok hd (by omega) (by omega)) fun v11 ⟨⟨b1, b2⟩, hd'⟩ => Ok.bind (ok_pop b1 b2 (by omega)) fun v12 ⟨hp2, _⟩ => Ok.ret ⟨?_, hd'⟩
      show ((acc ++ [v12.1]) ++ v12.2).Perm _
      rw [List.append_assoc]
      exact (List.Perm.append_left acc hp2).trans hp
    · obtain ⟨hl, hp, hd⟩ := hr
      have hn : ([(Str.ofString "a"), (Str.ofString "b"), (Str.ofString "ab"), (Str.ofString "ba"), (Str.ofString "aa"), (Str.ofString "bb"), (Str.ofString "aab"), (Str.ofString "abb"), (Str.ofString "aba"), (Str.ofString "bab")] : List Str).Nodup := by decide +kernel
      have ha : ∀ w ∈ ([(Str.ofString "a"), (Str.ofString "b"), (Str.ofString "ab"), (Str.ofString "ba"), (Str.ofString "aa"), (Str.ofString "bb"), (Str.ofString "aab"), (Str.ofString "abb"), (Str.ofString "aba"), (Str.ofString "bab")] : List Str), 1 ≤ w.length ∧ w.length ≤ 8 ∧ ∀ c ∈ w.cps.toList, 97 ≤ c ∧ c ≤ 122 := by decide +kernel
      have hn2 := hp.nodup_iff.mpr hn
      refine ⟨by show ((r.1.length : Nat) : Int) = many; rw [hl]; exact hlen, (List.nodup_append.mp hn2).1, fun w hw => ha w (hp.mem_iff.mp (List.mem_append_left _ hw)), hd⟩
  · refine Ok.bind (whileO_ok (I := fun s => ((s.1.length : Nat) : Int) ≤ many ∧ s.1.Nodup ∧ (∀ w ∈ s.1, NameOk w) ∧ DeckOk s.2) (fun s => (many - (s.1.length : Nat)).toNat) (fun s hs => ?_) ⟨by simpa using h0, List.nodup_nil, fun w hw => absurd hw (by simp), hd3⟩) fun s hs => Ok.ret ?_
    · obtain ⟨hl, hn, ha, hd⟩ := hs
      refine Ok.of rfl fun hb => ?_
      have hb : ((s.1.length : Nat) : Int) < many := by simpa using hb
      unfold m_l_names_b6
      refine Ok.bind (take_ok hd (by decide) (by decide)) fun v23 ⟨⟨b1, b2⟩, hd1⟩ => Ok.eqn (eq_rng (by decide) (by decide) (by omega) (by omega)) ?_
      refine Ok.bind (mapS_inv (I := DeckOk) (Q := fun l => ∃ c, (97 ≤ c ∧ c ≤ 122) ∧ l = ⟨#[c]⟩) hd1 fun t x hx ht => ?_) fun v31 ⟨hl31, hq31, hd31⟩ => ?_
      · unfold m_l_names_c3
        exact Ok.bind (take_ok ht (by decide) (by decide)) fun v29 ⟨⟨c1, c2⟩, hd2⟩ => Ok.bind (letter_ok c1 c2) fun v30 h30 => Ok.ret ⟨h30, hd2⟩
      have hl31 : ((v31.1.length : Nat) : Int) = 1 + v23.1 := by rw [hl31, rgI_len]; omega
      obtain ⟨j1, j2⟩ := join_ones v31.1 hq31
      have z : (Str.ofString "").length = 0 := by decide +kernel
      refine Ok.eqn (show pjoin (Str.ofString "") v31.1 = some (Txt.join (Str.ofString "") v31.1) from if_pos (by rw [sum_ones v31.1 hq31, z]; omega)) ?_
      refine Ok.eqn (eq_cat (by rw [List.length_singleton]; omega)) ?_
      have hA : NameOk (Str.ofString "a") := by
        have : 1 ≤ (Str.ofString "a").length ∧ (Str.ofString "a").length ≤ 8 ∧ ∀ c ∈ (Str.ofString "a").cps.toList, 97 ≤ c ∧ c ≤ 122 := by decide +kernel
        exact this
      refine Ok.bind (P := NameOk) ?_ fun v36 h36 => ?_
      · rcases List.eq_nil_or_concat s.1 with e | ⟨l, b, e⟩
        · rw [e]; exact Ok.of (x := Str.ofString "a") (eq_last (xs := [])) hA
        · rw [e, List.concat_eq_append, ← List.append_assoc]
          exact Ok.of eq_last (ha b (by rw [e, List.concat_eq_append]; exact List.mem_append_right _ List.mem_cons_self))
      refine Ok.bind (take_ok hd31 (by decide) (by decide)) fun v37 ⟨⟨c1, c2⟩, hd37⟩ => Ok.bind (letter_ok c1 c2) fun v38 ⟨c38, hc38, e38⟩ => ?_
      subst e38
      have h36l := h36.2.1
      have hl1 : (⟨#[c38]⟩ : Str).length = 1 := rfl
      refine Ok.eqn (eq_add (by omega)) (Ok.eqn (eq_cutS (by rw [str_len_app]; omega)) ?_)
      have h40 := cut8 h36 hc38
      refine Ok.bind (take_ok hd37 (by decide) (by decide)) fun v41 ⟨⟨c3, c4⟩, hd41⟩ => Ok.bind (letter_ok c3 c4) fun v42 ⟨c42, hc42, e42⟩ => ?_
      subst e42
      refine Ok.bind (take_ok hd41 (by decide) (by decide)) fun v43 ⟨⟨c5, c6⟩, hd43⟩ => Ok.bind (ok_pix c5 c6) fun v44 ⟨_, h44⟩ => ?_
      have hn44 : NameOk v44 := by
        rcases List.mem_cons.mp h44 with e | h44
        · subst e; exact ⟨by omega, by omega, j2⟩
        rcases List.mem_cons.mp h44 with e | h44
        · subst e; exact h40
        rw [List.mem_singleton.mp h44]; exact name_one hc42
      refine Ok.bind (whileO_ok (I := fun t : Str × Int => ∃ n : Nat, t.2 = ((n : Nat) : Int) ∧ NameOk t.1 ∧ n ≤ 11 ∧ (n = 0 ∨ (t.1 = turnWord (n - 1) ∧ ∀ j, j + 1 < n → turnWord j ∈ s.1))) (fun t => 12 - t.2.toNat) (fun t ht => ?_) ⟨0, rfl, hn44, by omega, .inl rfl⟩) fun s46 ⟨⟨n, _, hn46, _⟩, h46⟩ => ?_
      · obtain ⟨n, hn2, ht1, hn11, ht3⟩ := ht
        refine Ok.of rfl fun hb2 => ?_
        have hb2 : t.1 ∈ s.1 := by simpa using hb2
        have hall : ∀ j, j < n → turnWord j ∈ s.1 := by
          rcases ht3 with e | ⟨e, hj⟩
          · intro j hj; omega
          · intro j hj'
            by_cases hjn : j + 1 < n
            · exact hj j hjn
            · have : j = n - 1 := by omega
              rw [this, ← e]; exact hb2
        have hle : n ≤ s.1.length := by
          have := nodup_sub (ys := s.1) (words_nodup n) fun x hx => by
            obtain ⟨j, hj, rfl⟩ := List.mem_map.mp hx
            exact hall j (List.mem_range.mp hj)
          rwa [List.length_map, List.length_range] at this
        have hn9 : n ≤ 9 := by omega
        unfold m_l_names_b5
        rw [hn2]
        refine Ok.bind (turn_word (by omega)) fun v52 e52 => Ok.bind (turn_word2 (by omega)) fun v53 e53 => ?_
        subst e52; subst e53
        refine Ok.eqn (eq_add (by show 1 + 1 ≤ 16777216; decide)) (Ok.let (Ok.ret ?_))
        have ew : (⟨#[97 + n]⟩ : Str) ++ ⟨#[97]⟩ = turnWord n := rfl
        refine ⟨⟨n + 1, rfl, by show NameOk ((⟨#[97 + n]⟩ : Str) ++ ⟨#[97]⟩); rw [ew]; exact turnWord_ok (by omega), by omega, .inr ⟨by show (⟨#[97 + n]⟩ : Str) ++ ⟨#[97]⟩ = _; rw [ew]; rfl, fun j hj => hall j (by omega)⟩⟩, ?_⟩
        show 12 - (((n : Nat) : Int) + 1).toNat < 12 - ((n : Nat) : Int).toNat
        omega
      · have hnot : s46.1 ∉ s.1 := by
          have : decide (s46.1 ∈ s.1) = false := Option.some.inj h46
          simpa using this
        refine Ok.eqn (eq_snoc (by omega)) (Ok.ret ⟨⟨?_, ?_, ?_, hd43⟩, ?_⟩)
        · show (((s.1 ++ [s46.1]).length : Nat) : Int) ≤ many
          rw [List.length_append, List.length_singleton]; omega
        · show (s.1 ++ [s46.1]).Nodup
          refine List.nodup_append.mpr ⟨hn, by simp, fun a ha b hb e => ?_⟩
          rw [List.mem_singleton.mp hb] at e
          subst e; exact hnot ha
        · intro w hw
          rcases List.mem_append.mp (show w ∈ s.1 ++ [s46.1] from hw) with hw | hw
          · exact ha w hw
          · rw [List.mem_singleton.mp hw]; exact hn46
        · show (many - (((s.1 ++ [s46.1]).length : Nat) : Int)).toNat < _
          rw [List.length_append, List.length_singleton]; omega
    · obtain ⟨⟨hl, hn, ha, hd⟩, hc⟩ := hs
      have hc : ¬ ((s.1.length : Nat) : Int) < many := by
        have : decide (((s.1.length : Nat) : Int) < many) = false := Option.some.inj hc
        simpa using this
      exact ⟨by show ((s.1.length : Nat) : Int) = many; omega, hn, ha, hd⟩
theorem shuffled_ok {k : Deck} {ts : List Int} (h : DeckOk k) (hl : ts.length ≤ 1000) : Ok (m_l_shuffled k ts) (fun r => r.1.Perm ts ∧ DeckOk r.2) := by
  unfold m_l_shuffled
  refine Ok.eqn (eq_rng (by decide) (by decide) (by omega) (by omega)) (Ok.bind (mapS_acc (I := fun acc s => (acc ++ s.1).Perm ts ∧ DeckOk s.2) ⟨List.Perm.refl _, h⟩ fun acc s x hx hla hi => ?_) fun r hr => Ok.ret ?_)
  · unfold m_l_shuffled_c1
    obtain ⟨hp, hd⟩ := hi
    have hlp := hp.length_eq
    rw [List.length_append] at hlp
    rw [rgI_len] at hla
    refine Ok.bind (take_ok hd (by omega) (by omega)) fun v11 ⟨⟨b1, b2⟩, hd'⟩ => Ok.bind (ok_pop b1 b2 (by omega)) fun v12 ⟨hp2, _⟩ => Ok.ret ⟨?_, hd'⟩
    show ((acc ++ [v12.1]) ++ v12.2).Perm _
    rw [List.append_assoc]
    exact (List.Perm.append_left acc hp2).trans hp
  · obtain ⟨hlr, hp, hd⟩ := hr
    have hlp := hp.length_eq
    rw [List.length_append, hlr, rgI_len] at hlp
    have : r.2.1 = [] := List.length_eq_zero_iff.mp (by omega)
    rw [this, List.append_nil] at hp
    exact ⟨hp, hd⟩
theorem fil_true {α : Type} (xs : List α) : xs.filter (fun _ => true) = xs := List.filter_eq_self.mpr (fun _ _ => rfl)
theorem images_ok {k : Deck} {many : Int} (h : DeckOk k) (h0 : 0 < many) (h1 : many ≤ 1000) (way : Int) : Ok (m_l_images k many way) (fun r => ((r.1.length : Nat) : Int) = many ∧ (∀ i ∈ r.1, 0 ≤ i ∧ i < many) ∧ DeckOk r.2) := by
  unfold m_l_images
  have hlen : (((rgI 0 many).length : Nat) : Int) = many := by rw [rgI_len]; omega
  have er := eq_rng (lo := 0) (hi := many) (by decide) (by decide) (by omega) (by omega)
  have hd1 := h
  refine Ok.ite (fun _ => ?_) fun _ => Ok.ite (fun _ => ?_) fun _ => Ok.ite (fun _ => ?_) fun _ => Ok.ite (fun _ => ?_) fun _ => ?_
  · refine Ok.eqn er (Ok.bind (shuffled_ok hd1 (by omega)) fun v4 ⟨hp, hd⟩ => Ok.ret ⟨?_, fun i hi => rgI_mem.mp (hp.mem_iff.mp hi), hd⟩)
    show ((v4.1.length : Nat) : Int) = many
    rw [hp.length_eq]; exact hlen
  · refine Ok.bind (take_ok hd1 h0 (by omega)) fun v6 ⟨b, hd⟩ => Ok.eqn (eq_rep (by omega) (by omega) (by rw [List.length_singleton]; omega)) (Ok.ret ⟨?_, fun i hi => ?_, hd⟩)
    · show ((((List.replicate many.toNat [v6.1]).flatten).length : Nat) : Int) = many
      rw [List.length_flatten, List.map_replicate, List.sum_replicate_nat, List.length_singleton]; omega
    · obtain ⟨l, hl, hil⟩ := List.mem_flatten.mp (show i ∈ (List.replicate many.toNat [v6.1]).flatten from hi)
      rw [List.eq_of_mem_replicate hl] at hil
      rw [List.mem_singleton.mp hil]; exact b
  · refine Ok.eqn er (Ok.bind (take_ok hd1 h0 (by omega)) fun v11 ⟨b, hd⟩ => Ok.bind (take_ok hd h0 (by omega)) fun v12 ⟨c, hd2⟩ => Ok.bind (ok_set c.1 (by omega)) fun v13 e => Ok.ret ⟨?_, fun i hi => ?_, hd2⟩)
    · subst e; show ((((rgI 0 many).set _ _).length : Nat) : Int) = many
      rw [List.length_set]; exact hlen
    · subst e
      rcases List.mem_or_eq_of_mem_set (show i ∈ (rgI 0 many).set _ _ from hi) with hi | hi
      · exact rgI_mem.mp hi
      · rw [hi]; exact b
  · refine Ok.eqn er (Ok.ret ⟨?_, fun i hi => ?_, hd1⟩)
    · show ((((List.filter (fun _ => true) (rgI 0 many)).map _).length : Nat) : Int) = many
      rw [fil_true, List.length_map]; exact hlen
    · obtain ⟨j, hj, rfl⟩ := List.mem_map.mp (show i ∈ (List.filter (fun _ => true) (rgI 0 many)).map _ from hi)
      rw [fil_true] at hj
      have := rgI_mem.mp hj
      omega
  · refine Ok.eqn er (Ok.bind (mapS_inv (I := DeckOk) (Q := fun i => 0 ≤ i ∧ i < many) hd1 fun s x hx hs => ?_) fun v28 ⟨hl, hq, hd⟩ => ?_)
    · unfold m_l_images_c1
      exact Ok.bind (take_ok hs h0 (by omega)) fun v27 ⟨b, hd⟩ => Ok.ret ⟨b, hd⟩
    · have key : ∀ b : Bool, Ok (pix [v28.1, sortI v28.1] (if b = true then (1 : Int) else 0)) (fun r => r.Perm v28.1) := fun b => by
        cases b with
        | true => exact Ok.of (x := sortI v28.1) rfl (sortI_perm _)
        | false => exact Ok.of (x := v28.1) rfl (List.Perm.refl _)
      refine Ok.bind (key _) fun v32 hp => Ok.ret ⟨?_, fun i hi => hq i (hp.mem_iff.mp hi), hd⟩
      show ((v32.length : Nat) : Int) = many
      rw [hp.length_eq, hl]; exact hlen
theorem shuffled_t_ok {k : Deck} {ts : List Str} (h : DeckOk k) (hl : ts.length ≤ 1000) : Ok (m_l_shuffled_t k ts) (fun r => r.1.Perm ts ∧ DeckOk r.2) := by
  unfold m_l_shuffled_t
  refine Ok.eqn (eq_rng (by decide) (by decide) (by omega) (by omega)) (Ok.bind (mapS_acc (I := fun acc s => (acc ++ s.1).Perm ts ∧ DeckOk s.2) ⟨List.Perm.refl _, h⟩ fun acc s x hx hla hi => ?_) fun r hr => Ok.ret ?_)
  · unfold m_l_shuffled_t_c1
    obtain ⟨hp, hd⟩ := hi
    have hlp := hp.length_eq
    rw [List.length_append] at hlp
    rw [rgI_len] at hla
    refine Ok.bind (take_ok hd (by omega) (by omega)) fun v11 ⟨⟨b1, b2⟩, hd'⟩ => Ok.bind (ok_pop b1 b2 (by omega)) fun v12 ⟨hp2, _⟩ => Ok.ret ⟨?_, hd'⟩
    show ((acc ++ [v12.1]) ++ v12.2).Perm _
    rw [List.append_assoc]
    exact (List.Perm.append_left acc hp2).trans hp
  · obtain ⟨hlr, hp, hd⟩ := hr
    have hlp := hp.length_eq
    rw [List.length_append, hlr, rgI_len] at hlp
    have : r.2.1 = [] := List.length_eq_zero_iff.mp (by omega)
    rw [this, List.append_nil] at hp
    exact ⟨hp, hd⟩
/-! webs of the laws about few states -/
abbrev Web := List Str × List (Str × Int × List Str)
structure WebOk (w : Web) : Prop where
  s0 : 0 < w.1.length
  s8 : w.1.length ≤ 8
  sn : w.1.Nodup
  sa : ∀ x ∈ w.1, NameOk x
  m0 : 0 < w.2.length
  m8 : w.2.length ≤ 8
  mn : (w.2.map (·.1)).Nodup
  mw : ∀ m ∈ w.2, NameOk m.1 ∧ 1 ≤ m.2.1 ∧ m.2.1 ≤ 99
  im : ∀ m ∈ w.2, m.2.2.length = w.1.length ∧ ∀ x ∈ m.2.2, x ∈ w.1
theorem web_ok {k : Deck} {most moves : Int} (h : DeckOk k) (s0 : 0 < most) (s1 : most ≤ 8) (c0 : 0 < moves) (c1 : moves ≤ 8) :
    Ok (m_l_web k most moves) (fun r => (WebOk r.1 ∧ ((r.1.1.length : Nat) : Int) ≤ most ∧ ((r.1.2.length : Nat) : Int) ≤ moves) ∧ DeckOk r.2) := by
  unfold m_l_web
  refine Ok.bind (take_ok h s0 (by omega)) fun v1 ⟨⟨a1, a2⟩, hd1⟩ => Ok.bind (names_ok hd1 (by omega) (by omega)) fun v2 ⟨hl1, hn1, ha1, hd2⟩ => Ok.bind (take_ok hd2 c0 (by omega)) fun v3 ⟨⟨a3, a4⟩, hd3⟩ => Ok.bind (names_ok hd3 (by omega) (by omega)) fun v4 ⟨hl3, hn3, ha3, hd4⟩ => Ok.bind (take_ok hd4 (by decide) (by decide)) fun v5 ⟨_, hd5⟩ => ?_
  refine Ok.bind (foldO_pre (I := fun pre s => s.1.map (·.1) = pre ∧ (∀ m ∈ s.1, (NameOk m.1 ∧ 1 ≤ m.2.1 ∧ m.2.1 ≤ 99) ∧ m.2.2.length = v2.1.length ∧ ∀ x ∈ m.2.2, x ∈ v2.1) ∧ DeckOk s.2) ⟨rfl, fun m hm => absurd hm (by simp), hd5⟩ fun pre x post s e hi => ?_) fun s6 ⟨g1, g2, g3⟩ => Ok.ret ⟨⟨⟨?_, ?_, hn1, ha1, ?_, ?_, ?_, fun m hm => (g2 m hm).1, fun m hm => (g2 m hm).2⟩, ?_, ?_⟩, g3⟩
  · obtain ⟨hp, hm, hd⟩ := hi
    unfold m_l_web_l2
    have hx : x ∈ v4.1 := by rw [e]; exact List.mem_append_right _ List.mem_cons_self
    have hlp : s.1.length = pre.length := by rw [← hp, List.length_map]
    have hlt : s.1.length < v4.1.length := by rw [hlp, e, List.length_append, List.length_cons]; omega
    refine Ok.bind (take_ok hd (by decide) (by decide)) fun v17 ⟨⟨b1, b2⟩, hd17⟩ => Ok.bind (P := fun _ => True) ?_ fun v18 _ => Ok.bind (take_ok hd17 (by decide) (by decide)) fun v19 ⟨⟨b3, b4⟩, hd19⟩ => Ok.bind (take_ok hd19 (by decide) (by decide)) fun v20 ⟨⟨b5, b6⟩, hd20⟩ => Ok.bind (take_ok hd20 (by decide) (by decide)) fun v21 ⟨⟨b7, b8⟩, hd21⟩ => Ok.bind (ok_pix b7 b8) fun v22 ⟨_, h22⟩ => ?_
    · have key : ∀ b : Bool, Ok (pix [v17.1, 1] (if b = true then (1 : Int) else 0)) (fun _ => True) := fun b => by
        cases b with
        | true => exact Ok.of (x := 1) rfl trivial
        | false => exact Ok.of (x := v17.1) rfl trivial
      exact key _
    have hw : 1 ≤ v22 ∧ v22 ≤ 99 := by
      simp only [List.mem_cons, List.not_mem_nil, or_false] at h22
      omega
    refine Ok.bind (images_ok hd21 (by omega) (by omega) v18) fun v23 ⟨hl17, hi17, hd17⟩ => Ok.eqn (eq_fit (by omega)) ?_
    refine Ok.bind (mapS_inv (I := DeckOk) (Q := fun y => y ∈ v2.1) hd17 fun t z hz ht => ?_) fun v30 ⟨hl24, hq24, hd24⟩ => Ok.eqn (eq_snoc (by omega)) (Ok.ret ⟨?_, fun m hm2 => ?_, hd24⟩)
    · unfold m_l_web_c1
      have := hi17 z hz
      exact Ok.bind (ok_pix this.1 (by omega)) fun v23 h23 => Ok.ret ⟨h23.2, ht⟩
    · show (s.1 ++ [(x, v22, v30.1)]).map (·.1) = pre ++ [x]
      rw [List.map_append, hp]; rfl
    · rcases List.mem_append.mp (show m ∈ s.1 ++ [(x, v22, v30.1)] from hm2) with hm2 | hm2
      · exact hm m hm2
      · rw [List.mem_singleton.mp hm2]
        exact ⟨⟨ha3 x hx, hw⟩, by show v30.1.length = _; rw [hl24]; omega, hq24⟩
  all_goals have hs6 : s6.1.length = v4.1.length := by rw [← g1, List.length_map]
  · show 0 < v2.1.length; omega
  · show v2.1.length ≤ 8; omega
  · show 0 < s6.1.length; omega
  · show s6.1.length ≤ 8; omega
  · show (s6.1.map (·.1)).Nodup; rw [g1]; exact hn3
  · show ((v2.1.length : Nat) : Int) ≤ most; omega
  · show ((s6.1.length : Nat) : Int) ≤ moves; omega
end K53

namespace K53
open PySem PySem.Spec PyProof.Rows L2 Evl Wk
/-! places, rows -/
def pl (w : Web) (s : Str) : Int := ((w.1.findIdx (· == s) : Nat) : Int)
def rowsOf (w : Web) : List (List Int) := w.2.map fun m => m.2.2.map (pl w)
theorem findIdx_at : ∀ {xs : List Str} {i : Nat} {x : Str}, xs.Nodup → xs[i]? = some x → xs.findIdx (· == x) = i
  | [], i, x, _, h => by simp at h
  | y :: ys, 0, x, _, h => by
    simp at h; subst h
    rw [List.findIdx_cons]; simp
  | y :: ys, i + 1, x, hn, h => by
    obtain ⟨h1, h2⟩ := List.nodup_cons.mp hn
    have h : ys[i]? = some x := by simpa using h
    have hx := List.mem_of_getElem? h
    have ne : (y == x) = false := by
      rw [beq_eq_false_iff_ne]; intro e; exact h1 (by rw [e]; exact hx)
    rw [List.findIdx_cons, ne, findIdx_at h2 h]; rfl
theorem pl_lt {w : Web} {s : Str} (h : s ∈ w.1) : 0 ≤ pl w s ∧ pl w s < w.1.length := by
  have := List.findIdx_lt_length_of_exists (p := (· == s)) (xs := w.1) ⟨s, h, by simp⟩
  unfold pl
  omega
theorem put_new {κ α : Type} [DecidableEq κ] {al : List (κ × α)} {k : κ} {v : α} (h : k ∉ al.map (·.1)) : dputT al k v = al ++ [(k, v)] := by
  unfold dputT
  refine if_neg fun hc => h ?_
  obtain ⟨p, hp, e⟩ := List.any_eq_true.mp hc
  exact List.mem_map.mpr ⟨p, hp, by simpa using e⟩
theorem merge_new {κ α : Type} [DecidableEq κ] : ∀ (ps al : List (κ × α)), ((al ++ ps).map (·.1)).Nodup → dmerge al ps = al ++ ps
  | [], al, _ => (List.append_nil al).symm
  | p :: ps, al, h => by
    have e : al ++ p :: ps = (al ++ [p]) ++ ps := by rw [List.append_assoc]; rfl
    have hn : p.1 ∉ al.map (·.1) := by
      rw [List.map_append, List.map_cons] at h
      intro hc
      exact (List.nodup_append.mp h).2.2 _ hc _ List.mem_cons_self rfl
    show dmerge (dputT al p.1 p.2) ps = _
    rw [put_new hn, merge_new ps (al ++ [p]) (by rw [← e]; exact h), e]
theorem get_mem {κ α : Type} [DecidableEq κ] : ∀ {al : List (κ × α)} {k : κ} {v : α}, (al.map (·.1)).Nodup → (k, v) ∈ al → dget al k = some v
  | [], _, _, _, h => absurd h (by simp)
  | p :: al, k, v, hn, h => by
    obtain ⟨h1, h2⟩ := List.nodup_cons.mp hn
    unfold dget
    rw [List.find?_cons]
    rcases List.mem_cons.mp h with e | h
    · subst e; simp
    · have : p.1 ≠ k := fun e => h1 (by show p.1 ∈ _; rw [e]; exact List.mem_map.mpr ⟨(k, v), h, rfl⟩)
      rw [decide_eq_false this]
      exact get_mem h2 h
theorem places_len {α : Type} {xs : List α} : (places xs).length = xs.length := by
  unfold places
  rw [List.length_zip, List.length_map, List.length_range, Nat.min_self]
theorem places_snd {α : Type} (xs : List α) : (places xs).map (·.2) = xs := by
  unfold places
  rw [List.map_snd_zip (by rw [List.length_map, List.length_range]; exact Nat.le_refl _)]
theorem places_at {α : Type} {xs : List α} {i : Nat} {x : α} (h : xs[i]? = some x) : (((i : Nat) : Int), x) ∈ places xs := by
  obtain ⟨hi, e⟩ := List.getElem?_eq_some_iff.mp h
  have hz : i < (((List.range xs.length).map fun i => ((i : Nat) : Int)).zip xs).length := by rw [List.length_zip, List.length_map, List.length_range]; omega
  have := List.getElem_mem hz
  rw [List.getElem_zip, List.getElem_map, List.getElem_range, e] at this
  exact this
def plDict (w : Web) : List (Str × Int) := (places w.1).map fun x => (x.2, x.1)
theorem plDict_get {w : Web} (hn : w.1.Nodup) {s : Str} (h : s ∈ w.1) : dget (plDict w) s = some (pl w s) := by
  have hk : (plDict w).map (·.1) = w.1 := by
    unfold plDict
    rw [List.map_map]; exact places_snd w.1
  obtain ⟨i, hi, e⟩ := List.getElem_of_mem h
  have hs : w.1[i]? = some s := by rw [List.getElem?_eq_getElem hi, e]
  refine get_mem (by rw [hk]; exact hn) (List.mem_map.mpr ⟨(((i : Nat) : Int), s), places_at hs, ?_⟩)
  show (s, ((i : Nat) : Int)) = (s, pl w s)
  unfold pl
  rw [findIdx_at hn hs]
theorem fil_true' {α : Type} (xs : List α) : xs.filter (fun _ => true) = xs := List.filter_eq_self.mpr fun _ _ => rfl
theorem rows_led_ok {w : Web} (h : WebOk w) : m_rows_led w = some (rowsOf w) := by
  have m8 := h.m8
  have s8 := h.s8
  have hd : dmerge [] (((places w.1).filter (fun _ => true)).map (fun x2 => (x2.2, x2.1))) = plDict w := by
    rw [fil_true', merge_new _ _ ?_]
    · rfl
    · rw [List.nil_append, List.map_map]
      show ((places w.1).map (·.2)).Nodup
      rw [places_snd]; exact h.sn
  unfold m_rows_led
  rw [eq_fit (by rw [places_len]; omega)]
  rw [hd]
  show (pfit w.2.length ()).bind _ = _
  rw [eq_fit (by omega)]
  show (mapO (m_rows_led_c2 (plDict w)) w.2).bind _ = _
  rw [mapO_eq (g := fun m => m.2.2.map (pl w)) fun m hm => ?_]
  · rfl
  · have hi := h.im m hm
    unfold m_rows_led_c2
    rw [eq_fit (by omega)]
    show (mapO (m_rows_led_c1 (plDict w)) m.2.2).bind _ = _
    rw [mapO_eq (g := pl w) fun x hx => ?_]
    · rfl
    · unfold m_rows_led_c1
      rw [plDict_get h.sn (hi.2 x hx)]; rfl
/-! rows of places -/
def Vr (n : Nat) (r : List Int) : Prop := r.length = n ∧ ∀ v ∈ r, 0 ≤ v ∧ v < (n : Int)
def Vs (n : Nat) (S : List Int) : Prop := ∀ v ∈ S, 0 ≤ v ∧ v < (n : Int)
theorem rows_v {w : Web} (h : WebOk w) : ∀ r ∈ rowsOf w, Vr w.1.length r := fun r hr => by
  obtain ⟨m, hm, rfl⟩ := List.mem_map.mp hr
  have hi := h.im m hm
  refine ⟨by rw [List.length_map]; exact hi.1, fun v hv => ?_⟩
  obtain ⟨x, hx, rfl⟩ := List.mem_map.mp hv
  exact pl_lt (hi.2 x hx)
def ar (r : List Int) (x : Int) : Int := (r[x.toNat]?).getD 0
theorem ar_ok {n : Nat} {r : List Int} (h : Vr n r) {x : Int} (h0 : 0 ≤ x) (h1 : x < (n : Int)) : pix r x = some (ar r x) ∧ 0 ≤ ar r x ∧ ar r x < (n : Int) := by
  obtain ⟨m, rfl⟩ : ∃ m : Nat, x = m := ⟨x.toNat, by omega⟩
  have hm : m < r.length := by have := h.1; omega
  have e : r[m]? = some r[m] := List.getElem?_eq_getElem hm
  refine ⟨?_, ?_⟩
  · rw [eq_pix e]
    show some _ = some ((r[((m : Nat) : Int).toNat]?).getD 0)
    rw [Int.toNat_natCast, e]; rfl
  · show 0 ≤ (r[((m : Nat) : Int).toNat]?).getD 0 ∧ (r[((m : Nat) : Int).toNat]?).getD 0 < _
    rw [Int.toNat_natCast, e]
    exact h.2 _ (List.getElem_mem hm)
def img (r S : List Int) : List Int := sortI (once (S.map (ar r)))
theorem img_mem {r S : List Int} {y : Int} : y ∈ img r S ↔ ∃ x ∈ S, ar r x = y := by
  unfold img
  rw [(sortI_perm _).mem_iff, once_mem, List.mem_map]
theorem img_nodup (r S : List Int) : (img r S).Nodup := ((sortI_perm _).nodup_iff).mpr (once_nodup (S.map (ar r)))
theorem img_sorted (r S : List Int) : (img r S).Pairwise (· < ·) := by
  have h1 : (img r S).Pairwise (· ≤ ·) := sortI_le _
  have h2 : (img r S).Pairwise (· ≠ ·) := img_nodup r S
  exact (h1.and h2).imp fun ⟨a, b⟩ => by omega
theorem img_v {n : Nat} {r S : List Int} (hr : Vr n r) (hs : Vs n S) : Vs n (img r S) := fun y hy => by
  obtain ⟨x, hx, rfl⟩ := img_mem.mp hy
  exact (ar_ok hr (hs x hx).1 (hs x hx).2).2
theorem img_len (r S : List Int) : (img r S).length ≤ S.length := by
  unfold img
  rw [(sortI_perm _).length_eq]
  exact Nat.le_trans (once_len _) (by rw [List.length_map]; exact Nat.le_refl _)
theorem led_along_ok {n : Nat} {r S : List Int} (hr : Vr n r) (hs : Vs n S) (hl : S.length ≤ 8) : m_led_along r S = some (img r S) := by
  unfold m_led_along
  rw [eq_fit (by omega)]
  show (mapO (m_led_along_c1 r) S).bind _ = _
  rw [mapO_eq (g := ar r) fun x hx => ?_]
  · show (psos (S.map (ar r))).bind _ = _
    rw [show psos (S.map (ar r)) = some (sortI (once (S.map (ar r)))) from if_pos (by rw [List.length_map]; omega)]; rfl
  · unfold m_led_along_c1
    rw [(ar_ok hr (hs x hx).1 (hs x hx).2).1]; rfl
/-! how many sets there are -/
def subs : List Int → List (List Int)
  | [] => [[]]
  | x :: xs => subs xs ++ (subs xs).map (x :: ·)
theorem subs_len : ∀ xs : List Int, (subs xs).length = 2 ^ xs.length
  | [] => rfl
  | x :: xs => by
    unfold subs
    rw [List.length_append, List.length_map, subs_len xs, List.length_cons, Nat.pow_succ]; omega
theorem subs_nil : ∀ xs : List Int, [] ∈ subs xs
  | [] => by simp [subs]
  | x :: xs => by unfold subs; exact List.mem_append_left _ (subs_nil xs)
theorem subs_mem : ∀ (L a : List Int), L.Pairwise (· < ·) → a.Pairwise (· < ·) → (∀ x ∈ a, x ∈ L) → a ∈ subs L
  | [], a, _, _, h => by
    cases a with
    | nil => simp [subs]
    | cons x a => exact absurd (h x List.mem_cons_self) (by simp)
  | y :: L, a, hL, ha, h => by
    obtain ⟨hL1, hL2⟩ := List.pairwise_cons.mp hL
    cases a with
    | nil => exact subs_nil _
    | cons x a =>
      obtain ⟨ha1, ha2⟩ := List.pairwise_cons.mp ha
      unfold subs
      by_cases e : x = y
      · subst e
        refine List.mem_append_right _ (List.mem_map.mpr ⟨a, subs_mem L a hL2 ha2 fun z hz => ?_, rfl⟩)
        have := ha1 z hz
        rcases List.mem_cons.mp (h z (List.mem_cons_of_mem _ hz)) with q | q
        · omega
        · exact q
      · refine List.mem_append_left _ (subs_mem L (x :: a) hL2 ha fun z hz => ?_)
        have hx : x ∈ L := (List.mem_cons.mp (h x List.mem_cons_self)).resolve_left e
        have hyx := hL1 x hx
        rcases List.mem_cons.mp (h z hz) with q | q
        · rcases List.mem_cons.mp hz with q2 | q2
          · omega
          · have := ha1 z q2; omega
        · exact q
def Sset (n : Nat) (S : List Int) : Prop := Vs n S ∧ S.Pairwise (· < ·)
theorem rgI_sorted (n : Nat) : (rgI 0 (n : Int)).Pairwise (· < ·) := by
  unfold rgI
  rw [List.pairwise_map]
  exact (List.pairwise_lt_range).imp fun {a b} h => by omega
theorem sset_mem {n : Nat} {S : List Int} (h : Sset n S) : S ∈ subs (rgI 0 (n : Int)) := subs_mem _ _ (rgI_sorted n) h.2 fun x hx => rgI_mem.mpr (h.1 x hx)
theorem sset_len {n : Nat} {S : List Int} (h : Sset n S) : S.length ≤ n := by
  have := nodup_len (xs := S) (ys := rgI 0 (n : Int)) (h.2.imp fun {a b} q => by omega) fun x hx => rgI_mem.mpr (h.1 x hx)
  rw [rgI_len] at this; omega
theorem sset_img {n : Nat} {r S : List Int} (hr : Vr n r) (hs : Sset n S) : Sset n (img r S) := ⟨img_v hr hs.1, img_sorted r S⟩
theorem sset_rg (n : Nat) : Sset n (rgI 0 (n : Int)) := ⟨fun x hx => rgI_mem.mp hx, rgI_sorted n⟩
theorem sset_sort {n : Nat} {S : List Int} (h : Vs n S) (hn : S.Nodup) : Sset n (sortI S) := by
  refine ⟨fun x hx => h x ((sortI_perm S).mem_iff.mp hx), ?_⟩
  have h1 : (sortI S).Pairwise (· ≤ ·) := sortI_le _
  have h2 : (sortI S).Pairwise (· ≠ ·) := ((sortI_perm S).nodup_iff).mpr hn
  exact (h1.and h2).imp fun ⟨a, b⟩ => by omega
/-! pairs of sets -/
abbrev P2 := List Int × List Int
def U2 (n : Nat) (x : P2) : Prop := Sset n x.1 ∧ Sset n x.2
theorem u2_len {n : Nat} (hn : n ≤ 8) {k : List (P2 × Bool)} (h1 : (k.map (·.1)).Nodup) (h2 : ∀ p ∈ k, U2 n p.1) : k.length ≤ 65536 := by
  have := nodup_len (ys := (subs (rgI 0 (n : Int))).flatMap fun a => (subs (rgI 0 (n : Int))).map fun b => (a, b)) h1 fun x hx => by
    obtain ⟨p, hp, rfl⟩ := List.mem_map.mp hx
    obtain ⟨q1, q2⟩ := h2 p hp
    exact List.mem_flatMap.mpr ⟨p.1.1, sset_mem q1, List.mem_map.mpr ⟨p.1.2, sset_mem q2, rfl⟩⟩
  rw [List.length_map, List.length_flatMap] at this
  have e : ((subs (rgI 0 (n : Int))).map fun a => ((subs (rgI 0 (n : Int))).map fun b => ((a, b) : P2)).length).sum = 2 ^ n * 2 ^ n := by
    have hl : (subs (rgI 0 (n : Int))).length = 2 ^ n := by rw [subs_len, rgI_len]; congr 1
    have : ((subs (rgI 0 (n : Int))).map fun a => ((subs (rgI 0 (n : Int))).map fun b => ((a, b) : P2)).length) = List.replicate (2 ^ n) (2 ^ n) := by
      rw [List.eq_replicate_iff]
      refine ⟨by rw [List.length_map, hl], fun b hb => ?_⟩
      obtain ⟨a, _, rfl⟩ := List.mem_map.mp hb
      rw [List.length_map, hl]
    rw [this, List.sum_replicate_nat]
  rw [e] at this
  have h256 : 2 ^ n ≤ 256 := Nat.pow_le_pow_right (by decide) (hn : n ≤ 8)
  have := Nat.mul_le_mul h256 h256
  omega
theorem eqf_p : EqF (eLs (eP2 (eTs D.int) (eTs D.int))) (fun xs => ∀ x ∈ xs, (∀ y ∈ x.1, True) ∧ ∀ y ∈ x.2, True) 3 := eqf_lst (eqf_p2 (eqf_tup eqf_int) (eqf_tup eqf_int))
theorem empty_p (xs : List P2) : peq ((eLs (eP2 (eTs D.int) (eTs D.int))) xs) ((eLs (eP2 (eTs D.int) (eTs D.int))) ([] : List P2)) = some (decide (xs = [])) := eqf_p.peq (px := fun _ _ => ⟨fun _ _ => trivial, fun _ _ => trivial⟩) (py := fun _ _ => ⟨fun _ _ => trivial, fun _ _ => trivial⟩)
def bad2 (x : P2) : Bool := (decide (((x.1.length : Nat) : Int) < 2)) && (decide (1 < ((x.2.length : Nat) : Int)))
/-- how rows lead, one behind the other -/
def act (ws : List (List Int)) (S : List Int) : List Int := ws.foldl (fun S r => img r S) S
def Watch (rows : List (List Int)) (a b : List Int) : Prop := ∀ ws, (∀ r ∈ ws, r ∈ rows) → bad2 (act ws a, act ws b) = false
def nextA (x : P2) (r : List Int) : Option P2 := some (img r x.1, img r x.2)
def nextB (x : P2) (r : List Int) : Option P2 := if 1 < (img r x.2).length then some (img r x.1, img r x.2) else none
theorem act_len : ∀ (ws : List (List Int)) (S : List Int), (act ws S).length ≤ S.length
  | [], _ => Nat.le_refl _
  | r :: ws, S => Nat.le_trans (act_len ws (img r S)) (img_len r S)
theorem reachA {rows : List (List Int)} {a b : List Int} {x : P2} : Reach nextA rows (a, b) x ↔ ∃ ws, (∀ r ∈ ws, r ∈ rows) ∧ x = (act ws a, act ws b) := by
  constructor
  · intro h
    induction h with
    | refl => exact ⟨[], by simp, rfl⟩
    | step _ hr e ih =>
      obtain ⟨ws, h1, rfl⟩ := ih
      rename_i y r _
      cases e
      refine ⟨ws ++ [r], fun q hq => ?_, by unfold act; rw [List.foldl_append, List.foldl_append]; rfl⟩
      rcases List.mem_append.mp hq with hq | hq
      · exact h1 q hq
      · rw [List.mem_singleton.mp hq]; exact hr
  · rintro ⟨ws, h, rfl⟩
    have key : ∀ (n : Nat) (ws : List (List Int)), ws.length = n → (∀ r ∈ ws, r ∈ rows) → Reach nextA rows (a, b) (act ws a, act ws b) := by
      intro n
      induction n with
      | zero => intro ws hl _; rw [List.length_eq_zero_iff.mp hl]; exact .refl
      | succ n ih =>
        intro ws hl hm
        rcases List.eq_nil_or_concat ws with e | ⟨l, r, e⟩
        · rw [e] at hl; cases hl
        · rw [List.concat_eq_append] at e; subst e
          have := ih l (by simpa using hl) fun q hq => hm q (List.mem_append_left _ hq)
          unfold act; rw [List.foldl_append, List.foldl_append]
          exact .step this (hm r (by simp)) rfl
    exact key _ ws rfl h
theorem reachB {rows : List (List Int)} {a b : List Int} {x : P2} : Reach nextB rows (a, b) x → Reach nextA rows (a, b) x := by
  intro h
  induction h with
  | refl => exact .refl
  | step _ hr e ih =>
    unfold nextB at e
    split at e
    · cases e; exact .step ih hr rfl
    · cases e
theorem reachAB {rows : List (List Int)} {a b : List Int} : ∀ {ws : List (List Int)}, (∀ r ∈ ws, r ∈ rows) → 1 < (act ws b).length → Reach nextB rows (a, b) (act ws a, act ws b) := by
  have key : ∀ (n : Nat) (ws : List (List Int)), ws.length = n → (∀ r ∈ ws, r ∈ rows) → 1 < (act ws b).length → Reach nextB rows (a, b) (act ws a, act ws b) := by
    intro n
    induction n with
    | zero => intro ws hl _ _; rw [List.length_eq_zero_iff.mp hl]; exact .refl
    | succ n ih =>
      intro ws hl hm hb
      rcases List.eq_nil_or_concat ws with e | ⟨l, r, e⟩
      · rw [e] at hl; cases hl
      · rw [List.concat_eq_append] at e; subst e
        have e1 : ∀ S, act (l ++ [r]) S = img r (act l S) := fun S => by unfold act; rw [List.foldl_append]; rfl
        rw [e1] at hb ⊢
        have hb2 : 1 < (act l b).length := Nat.lt_of_lt_of_le hb (img_len r _)
        have := ih l (by simpa using hl) (fun q hq => hm q (List.mem_append_left _ hq)) hb2
        rw [e1]
        exact .step this (hm r (by simp)) (if_pos hb)
  exact fun {ws} h1 h2 => key _ ws rfl h1 h2
theorem pop_last {α : Type} (w : List α) (x : α) : ppopL (w ++ [x]) = some (x, w) := by
  unfold ppopL
  rw [List.length_append, List.length_singleton, Nat.add_sub_cancel, List.getElem?_append_right (Nat.le_refl _), Nat.sub_self, List.dropLast_concat]; rfl
theorem has_len {k : List (P2 × Bool)} : ((k.length : Nat) : Int) = k.length := rfl
/-- one set of steps, as the two loops do it -/
theorem inner {f : (List (P2 × Bool)) × List P2 → List Int → Option ((List (P2 × Bool)) × List P2)} {next : P2 → List Int → Option P2} {n : Nat} {x : P2} (hn : n ≤ 8) (hx : U2 n x)
    (hf : ∀ r, Vr n r → ∀ k w, (k.length < 16777216) → w.length < 16777216 → f (k, w) r = some (hop next x (k, w) r)) (cl : ∀ r, Vr n r → ∀ y, next x r = some y → U2 n y) :
    ∀ (rows : List (List Int)) (k : List (P2 × Bool)) (w : List P2), (∀ r ∈ rows, Vr n r) → (k.map (·.1)).Nodup → (∀ p ∈ k, U2 n p.1) → w.length ≤ k.length → foldO f (k, w) rows = some (rows.foldl (hop next x) (k, w))
  | [], k, w, _, _, _, _ => rfl
  | r :: rows, k, w, hr, h1, h2, h3 => by
    have hl := u2_len hn h1 h2
    have hvr := hr r List.mem_cons_self
    show (f (k, w) r).bind _ = _
    rw [hf r hvr k w (by omega) (by omega), List.foldl_cons]
    show foldO f (hop next x (k, w) r) rows = _
    have ih := inner hn hx hf cl rows
    obtain ⟨new, q1, q2, q3, q4, q5, q6⟩ := hops (next := next) (x := x) [r] k w h1
    rw [List.foldl_cons, List.foldl_nil] at q1
    rw [q1]
    refine ih _ _ (fun q hq => hr q (List.mem_cons_of_mem _ hq)) q2 (fun p hp => ?_) ?_
    · rcases List.mem_append.mp hp with hp | hp
      · exact h2 p hp
      · obtain ⟨y, hy, rfl⟩ := List.mem_map.mp hp
        obtain ⟨r', hr', e⟩ := q3 y hy
        rw [List.mem_singleton.mp hr'] at e
        exact cl r hvr y e
    · rw [List.length_append, List.length_append, List.length_map]; omega
theorem watch_end {W : Option (Fl (List P2 × List (P2 × Bool)) Bool)} {m_x : Fl (List P2 × List (P2 × Bool)) Bool → Option Bool} {y : Fl (List P2 × List (P2 × Bool)) Bool} {next : P2 → List Int → Option P2} {rows : List (List Int)} {a b : List Int} {n : Nat} (hy : W = some y)
    (e1 : ∀ r, m_x (.rt r) = some r) (e2 : ∀ s, m_x (.nx s) = some true)
    (hq : SrEnd next rows (a, b) bad2 (fun _ => false) (U2 n) false true y)
    (h1 : (∃ x, Reach next rows (a, b) x ∧ bad2 x = true) → ¬ Watch rows a b) (h2 : (∀ x, Reach next rows (a, b) x → bad2 x = false) → Watch rows a b) : ∃ k : Bool, W.bind m_x = some k ∧ (k = true ↔ Watch rows a b) := by
  rw [hy]
  cases y with
  | rt r =>
    rcases hq with ⟨rfl, hb⟩ | ⟨_, k, hk⟩
    · exact ⟨false, e1 false, (fun h => nomatch h), fun h => absurd h (h1 hb)⟩
    · cases hk
  | nx s => exact ⟨true, e2 s, fun _ => h2 hq.1, fun _ => rfl⟩
theorem is_watching_ok {n : Nat} (hn : n ≤ 8) {rows : List (List Int)} (hr : ∀ r ∈ rows, Vr n r) {S : List Int} (hs : Sset n (sortI S)) : ∃ b : Bool, m_is_watching rows S ((n : Nat) : Int) = some b ∧ (b = true ↔ Watch rows (sortI S) (rgI 0 (n : Int))) := by
  have key : Ok (whileR m_is_watching_w1 (m_is_watching_b3 rows) ([(sortI S, rgI 0 (n : Int))], [((sortI S, rgI 0 (n : Int)), true)])) (SrEnd nextB rows (sortI S, rgI 0 (n : Int)) bad2 (fun _ => false) (U2 n) false true) := by
    refine search (start := (sortI S, rgI 0 (n : Int))) (U := U2 n) (over := fun _ => false) (N := 65536) ⟨hs, sset_rg n⟩ (fun x hx r hrr y e => ?_) rfl (fun k h1 h2 _ => u2_len hn h1 h2) (fun s _ => ?_) (fun x w k hx hw hk hnd hwl hkl => ?_)
    · unfold nextB at e
      split at e
      · cases e; exact ⟨sset_img (hr r hrr) hx.1, sset_img (hr r hrr) hx.2⟩
      · cases e
    · unfold m_is_watching_w1
      rw [empty_p]
      show some (!decide (s.1 = [])) = _
      simp
    · unfold m_is_watching_b3
      rw [pop_last]
      show (if bad2 x = true then some (Fl.rt false) else _) = _
      by_cases hb : bad2 x = true
      · rw [if_pos hb, if_pos hb]
      · rw [if_neg hb, if_neg hb, if_neg Bool.false_ne_true]
        rw [inner (next := nextB) hn hx ?_ ?_ rows k w hr hnd hk hwl]
        · rfl
        · intro r hvr k w hk hw
          unfold m_is_watching_l2
          show (m_led_along r x.1).bind _ = _
          rw [led_along_ok hvr hx.1.1 (Nat.le_trans (sset_len hx.1) hn)]
          show (m_led_along r x.2).bind _ = _
          rw [led_along_ok hvr hx.2.1 (Nat.le_trans (sset_len hx.2) hn)]
          show (if (!dhas k (img r x.1, img r x.2) && decide (1 < (((img r x.2).length : Nat) : Int))) = true then _ else some (k, w)).bind _ = _
          unfold hop nextB
          by_cases hb : 1 < (img r x.2).length
          · rw [if_pos hb, decide_eq_true (by omega : (1 : Int) < (((img r x.2).length : Nat) : Int)), Bool.and_true]
            show _ = some (if dhas k (img r x.1, img r x.2) = true then (k, w) else (k ++ [((img r x.1, img r x.2), true)], w ++ [(img r x.1, img r x.2)]))
            by_cases hd : dhas k (img r x.1, img r x.2) = true
            · rw [hd, if_pos rfl]; rfl
            · have hd : dhas k (img r x.1, img r x.2) = false := by simpa using hd
              rw [hd]
              show (((dput k (img r x.1, img r x.2) true).bind _).bind _ : Option _) = _
              rw [show dput k (img r x.1, img r x.2) true = some (dputT k (img r x.1, img r x.2) true) from if_pos (by rw [sizeLine_eq]; exact hk), put_new (fun q => by rw [dhas_mem.mpr q] at hd; cases hd)]
              show (((psnoc w (img r x.1, img r x.2)).bind _).bind _ : Option _) = _
              rw [eq_snoc hw]; rfl
          · rw [if_neg hb, decide_eq_false (by omega : ¬ (1 : Int) < (((img r x.2).length : Nat) : Int)), Bool.and_false]; rfl
        · intro r hvr y e
          unfold nextB at e
          split at e
          · cases e; exact ⟨sset_img hvr hx.1, sset_img hvr hx.2⟩
          · cases e
  obtain ⟨y, hy, hq⟩ := key
  unfold m_is_watching
  rw [eq_rng (by decide) (by decide) (by omega) (by omega)]
  refine watch_end (m_x := fun y => match y with | .rt r36 => some r36 | .nx s6 => some true) hy (fun r => rfl) (fun s => rfl) hq (fun ⟨x, hx, hb⟩ hw => ?_) fun h ws hws => ?_
  · obtain ⟨ws, h1, rfl⟩ := reachA.mp (reachB hx)
    rw [hw ws h1] at hb; cases hb
  · by_cases q : 1 < (act ws (rgI 0 (n : Int))).length
    · exact h _ (reachAB hws q)
    · unfold bad2
      exact Bool.and_eq_false_iff.mpr (.inr (decide_eq_false (by show ¬ (1 : Int) < (((act ws (rgI 0 (n : Int))).length : Nat) : Int); omega)))
end K53

namespace K53
open PySem PySem.Spec PyProof.Rows L2 Evl Wk
theorem bnd {α β : Type} {m : Option α} {x : α} {f : α → Option β} {r : Option β} (h : m = some x) (k : f x = r) : m.bind f = r := by rw [h]; exact k
/-- names that may be none -/
def Tx (s : Str) : Prop := s.length ≤ 100 ∧ strOk s = true
theorem need_fr {w : Web} : ∀ {ss : List Str}, (∀ s ∈ ss, Tx s) → forR (m_need_states_l1 w) () ss = some (match ss.filter (fun x => !decide (x ∈ w.1)) with | [] => .nx () | s :: _ => .rt (.ex (.name s)))
  | [], _ => rfl
  | s :: ss, h => by
    have hs := h s List.mem_cons_self
    unfold forR
    by_cases hm : s ∈ w.1
    · have e1 : m_need_states_l1 w () s = some (.nx ()) := by
        unfold m_need_states_l1
        rw [decide_eq_true hm]; rfl
      have e2 : (s :: ss).filter (fun x => !decide (x ∈ w.1)) = ss.filter (fun x => !decide (x ∈ w.1)) := by
        rw [List.filter_cons, if_neg (by rw [decide_eq_true hm]; exact Bool.false_ne_true)]
      rw [e1, e2]
      exact need_fr fun x hx => h x (List.mem_cons_of_mem _ hx)
    · have e1 : m_need_states_l1 w () s = some (.rt (.ex (.name s))) := by
        unfold m_need_states_l1
        rw [decide_eq_false hm, if_pos (by rfl), show pword s = some s from if_pos (by have := hs.1; omega)]; rfl
      have e2 : (s :: ss).filter (fun x => !decide (x ∈ w.1)) = s :: ss.filter (fun x => !decide (x ∈ w.1)) := by
        rw [List.filter_cons, if_pos (by rw [decide_eq_false hm]; rfl)]
      rw [e1, e2]
      rfl
theorem need_ok {w : Web} {ss : List Str} (h : ∀ s ∈ ss, Tx s) : m_need_states w ss = some (match ss.filter (fun x => !decide (x ∈ w.1)) with | [] => .tv () | s :: _ => .ex (.name s)) := by
  unfold m_need_states
  rw [need_fr h]
  cases ss.filter (fun x => !decide (x ∈ w.1)) <;> rfl
theorem pl_inj {w : Web} {s t : Str} (hs : s ∈ w.1) (ht : t ∈ w.1) (e : pl w s = pl w t) : s = t := by
  have e : w.1.findIdx (· == s) = w.1.findIdx (· == t) := by
    unfold pl at e; omega
  have h1 : w.1.findIdx (· == s) < w.1.length := List.findIdx_lt_length_of_exists ⟨s, hs, by simp⟩
  have h2 : w.1.findIdx (· == t) < w.1.length := List.findIdx_lt_length_of_exists ⟨t, ht, by simp⟩
  have a1 := List.findIdx_getElem (w := h1)
  have a2 := List.findIdx_getElem (w := h2)
  have b1 : w.1[w.1.findIdx (· == s)]'h1 = s := by simpa using a1
  have b2 : w.1[w.1.findIdx (· == t)]'h2 = t := by simpa using a2
  rw [← b1, ← b2]
  congr 1
theorem map_nodup {α β : Type} {f : α → β} : ∀ {xs : List α}, (∀ x ∈ xs, ∀ y ∈ xs, f x = f y → x = y) → xs.Nodup → (xs.map f).Nodup
  | [], _, _ => List.nodup_nil
  | x :: xs, h, hn => by
    rw [List.nodup_cons] at hn
    rw [List.map_cons, List.nodup_cons]
    refine ⟨fun hc => ?_, map_nodup (fun a ha b hb => h a (List.mem_cons_of_mem _ ha) b (List.mem_cons_of_mem _ hb)) hn.2⟩
    obtain ⟨y, hy, e⟩ := List.mem_map.mp hc
    have := h y (List.mem_cons_of_mem _ hy) x List.mem_cons_self e
    subst this
    exact hn.1 hy
theorem enough_val {w : Web} (h : WebOk w) {ss : List Str} (hs : ∀ s ∈ ss, s ∈ w.1) (hn : ss.Nodup) (ht : ∀ s ∈ ss, Tx s) (hl : ss.length ≤ 1000) : ∃ b : Bool, m_is_enough w ss = some (.tv b) := by
  have h8 := h.s8
  have hv : Vs w.1.length (ss.map (pl w)) := fun x hx => by
    obtain ⟨s, hs2, rfl⟩ := List.mem_map.mp hx
    exact pl_lt (hs s hs2)
  have hd : (ss.map (pl w)).Nodup := map_nodup (fun x hx y hy e => pl_inj (hs x hx) (hs y hy) e) hn
  obtain ⟨b, hb, _⟩ := is_watching_ok h.s8 (rows_v h) (sset_sort hv hd)
  refine ⟨b, ?_⟩
  unfold m_is_enough
  have e : ss.filter (fun x => !decide (x ∈ w.1)) = [] := List.filter_eq_nil_iff.mpr fun x hx => by rw [decide_eq_true (hs x hx)]; exact Bool.false_ne_true
  have en := need_ok (w := w) ht
  rw [e] at en
  refine bnd en (bnd (rows_led_ok h) (bnd (eq_fit (by omega)) (bnd (mapO_eq (g := pl w) fun x hx => ?_) (bnd hb rfl))))
  unfold m_is_enough_c1
  rw [eq_index (hs x hx)]; rfl
theorem enough_no {w : Web} {ss : List Str} (ht : ∀ s ∈ ss, Tx s) {s : Str} {r : List Str} (e : ss.filter (fun x => !decide (x ∈ w.1)) = s :: r) : m_is_enough w ss = some (.ex (.name s)) := by
  unfold m_is_enough
  have en := need_ok (w := w) ht
  rw [e] at en
  exact bnd en rfl
theorem flags_name (s : Str) : m_l_flags (.name s) = some [true, false, false, false, false, false, false, false] := by
  unfold m_l_flags
  refine bnd (eq_cat (show 6 ≤ 16777216 by decide)) (bnd (eq_cat (show 8 ≤ 16777216 by decide)) rfl)
theorem eqf_lstr : EqF (eLs D.str) (fun xs => ∀ x ∈ xs, strOk x = true) 1 := eqf_lst eqf_str
theorem empty_is {xs : List Str} (h : ∀ x ∈ xs, strOk x = true) : peq ((eLs D.str) xs) ((eLs D.str) ([] : List Str)) = some (decide (xs = [])) := eqf_lstr.peq (px := h) (py := fun x hx => absurd hx (by simp))
theorem right_ok {w : Web} (h : WebOk w) {ss : List Str} (hn : ss.Nodup) (ht : ∀ s ∈ ss, Tx s) (hl : ss.length ≤ 1000) : m_l_right w ss = some true := by
  unfold m_l_right
  refine bnd (eq_fit (by omega)) ?_
  rw [List.map_id']
  have hs : ∀ x ∈ ss.filter (fun x => !decide (x ∈ w.1)), strOk x = true := fun x hx => (ht x (List.mem_filter.mp hx).1).2
  cases e : ss.filter (fun x => !decide (x ∈ w.1)) with
  | nil =>
    have hm : ∀ s ∈ ss, s ∈ w.1 := fun s hs => by
      have := List.filter_eq_nil_iff.mp e s hs
      simpa using this
    obtain ⟨b, hb⟩ := enough_val h hm hn ht hl
    refine bnd hb ?_
    refine bnd (empty_is (xs := []) (fun _ hx => absurd hx (by simp))) ?_
    rw [if_pos (by decide)]
  | cons s r =>
    rw [e] at hs
    refine bnd (enough_no ht e) ?_
    refine bnd (empty_is hs) ?_
    rw [decide_eq_false (by simp), if_neg Bool.false_ne_true]
    refine bnd (x := true) ?_ rfl
    rw [if_pos (by rfl)]
    refine bnd (flags_name s) (bnd (eq_rng (by decide) (by decide) (by decide) (by decide)) (bnd (x := true) ?_ (bnd (x := true) ?_ rfl)))
    · exact (eqf_lst eqf_bl).peq_true (fun _ _ => trivial) (by decide)
    · rw [if_pos rfl]
      refine bnd (x := s) rfl (bnd (eq_pix (i := 0) rfl) ?_)
      rw [decide_eq_true rfl]
theorem cutS_len (b : Str) (lo hi : Option Int) : (cutS b lo hi).length ≤ b.length := by
  have hs : b.cps.toList.length = b.length := by rw [Array.length_toList]; rfl
  have hc : (cutS b lo hi).cps.toList.length = (cutS b lo hi).length := by rw [Array.length_toList]; rfl
  rw [← hs, ← hc]
  unfold cutS
  show (List.take _ (List.drop _ _)).length ≤ _
  rw [List.length_take, List.length_drop]; omega
theorem cutS_mem {b : Str} {lo hi : Option Int} {c : Nat} (h : c ∈ (cutS b lo hi).cps.toList) : c ∈ b.cps.toList := by
  unfold cutS at h
  exact List.mem_of_mem_drop (List.mem_of_mem_take (show c ∈ List.take _ (List.drop _ _) from h))
/-- short, of plain letters -/
def Pl (s : Str) : Prop := s.length ≤ 50 ∧ ∀ c ∈ s.cps.toList, c < 128
theorem Pl.tx {s : Str} (h : Pl s) : Tx s := ⟨by have := h.1; omega, strOk_of h.2⟩
theorem Pl.cut {s : Str} (h : Pl s) (lo hi : Option Int) : Pl (cutS s lo hi) := ⟨Nat.le_trans (cutS_len _ _ _) h.1, fun c hc => h.2 c (cutS_mem hc)⟩
theorem NameOk.pl {s : Str} (h : NameOk s) : Pl s := ⟨by have := h.2.1; omega, fun c hc => by have := (h.2.2 c hc).2; omega⟩
theorem pl_add {s t : Str} (h : Pl s) (h2 : ∀ c ∈ t.cps.toList, c < 128) (hl : s.length + t.length ≤ 50) : Pl (s ++ t) := ⟨by rw [str_len_app]; exact hl, fun c hc => (str_mem_app hc).elim (h.2 c) (h2 c)⟩
theorem strange_ok {k : Deck} (hd : DeckOk k) {w : Web} (h : WebOk w) : Ok (m_l_strange k w) (fun r => Pl r.1 ∧ DeckOk r.2) := by
  have s0 := h.s0
  have s8 := h.s8
  have m0 := h.m0
  have m8 := h.m8
  have a1 : (Str.ofString "a").length = 1 ∧ ∀ c ∈ (Str.ofString "a").cps.toList, c < 128 := by decide +kernel
  have q1 : (Str.ofString "q").length = 1 ∧ ∀ c ∈ (Str.ofString "q").cps.toList, c < 128 := by decide +kernel
  have z1 : (Str.ofString "z").length = 1 ∧ ∀ c ∈ (Str.ofString "z").cps.toList, c < 128 := by decide +kernel
  have z : (Str.ofString "").length = 0 := by decide +kernel
  unfold m_l_strange
  refine Ok.bind (take_ok hd (by omega) (by omega)) fun v1 ⟨⟨b1, b2⟩, hd1⟩ => Ok.bind (ok_pix b1 b2) fun v2 ⟨_, h2⟩ => Ok.bind (take_ok hd1 (by omega) (by omega)) fun v3 ⟨⟨b3, b4⟩, hd3⟩ => Ok.bind (ok_pix b3 b4) fun v4 ⟨_, h4⟩ => Ok.let (Ok.bind (take_ok hd3 (by decide) (by decide)) fun v6 ⟨⟨b5, b6⟩, hd6⟩ => Ok.eqn (eq_rng (by decide) (by decide) (by omega) (by omega)) ?_)
  have n2 := h.sa _ h2
  have n4 := (h.mw _ h4).1
  have l2 := n2.2.1
  refine Ok.bind (mapS_inv (I := DeckOk) (Q := fun l => ∃ c, (97 ≤ c ∧ c ≤ 122) ∧ l = ⟨#[c]⟩) hd6 fun t x hx ht => ?_) fun v14 ⟨hl14, hq14, hd14⟩ => ?_
  · unfold m_l_strange_c1
    exact Ok.bind (take_ok ht (by decide) (by decide)) fun v12 ⟨⟨c1, c2⟩, hd2⟩ => Ok.bind (letter_ok c1 c2) fun v30 h30 => Ok.ret ⟨h30, hd2⟩
  have hl14 : ((v14.1.length : Nat) : Int) = 1 + v6.1 := by rw [hl14, rgI_len]; omega
  obtain ⟨j1, j2⟩ := join_ones v14.1 hq14
  have p2 := n2.pl
  have p4 := n4.pl
  have pj : Pl (Txt.join (Str.ofString "") v14.1) := ⟨by rw [j1]; omega, fun c hc => by have := (j2 c hc).2; omega⟩
  have pa := pl_add p2 a1.2 (by rw [a1.1]; omega)
  have pz := pl_add p2 z1.2 (by rw [z1.1]; omega)
  have pq : Pl (Str.ofString "q") := ⟨by rw [q1.1]; omega, q1.2⟩
  have cl := cutS_len v2 (some 1) none
  have pqc : Pl (Str.ofString "q" ++ cutS v2 (some 1) none) := pl_add pq (p2.cut _ _).2 (by rw [q1.1]; omega)
  refine Ok.eqn (show pjoin (Str.ofString "") v14.1 = some (Txt.join (Str.ofString "") v14.1) from if_pos (by rw [sum_ones v14.1 hq14, z]; omega)) ?_
  have la := pa.1
  have lz := pz.1
  refine Ok.eqn (eq_add (by rw [a1.1]; omega)) (Ok.eqn (eq_cutS (by omega)) (Ok.eqn (eq_cutS (by omega)) (Ok.eqn (eq_cutS (by omega)) (Ok.eqn (eq_add (by rw [q1.1]; omega)) (Ok.eqn (eq_add (by rw [z1.1]; omega)) (Ok.eqn (eq_cutS (by omega)) (Ok.bind (take_ok hd14 (by decide) (by decide)) fun v25 ⟨⟨c1, c2⟩, hd25⟩ => Ok.bind (ok_pix c1 c2) fun v26 ⟨_, h26⟩ => Ok.ret ⟨?_, hd25⟩)))))))
  simp only [List.mem_cons, List.not_mem_nil, or_false] at h26
  rcases h26 with rfl | rfl | rfl | rfl | rfl | rfl | rfl
  · exact p4
  · exact pa.cut _ _
  · exact p2.cut _ _
  · exact pqc
  · exact pz.cut _ _
  · exact pj
  · exact pq
theorem insert_nodup {xs : List Str} {x : Str} (n : Nat) (h : xs.Nodup) (hx : x ∉ xs) : (xs.take n ++ [x] ++ xs.drop n).Nodup := by
  have hp : (xs.take n ++ [x] ++ xs.drop n).Perm (x :: xs) := by
    rw [List.append_assoc, List.singleton_append]
    refine List.perm_middle.trans ?_
    rw [List.take_append_drop]
  rw [hp.nodup_iff, List.nodup_cons]
  exact ⟨hx, h⟩
theorem made_ok {b : Option Bool} (hb : b = some true) : Ok b (fun r => r = true) := ⟨true, hb, rfl⟩
theorem main : ∀ ns : List Int, ns.length ≤ 63 → m_law ns = some true := by
  intro ns hl
  have key : Ok (m_law ns) (fun r => r = true) := by
    unfold m_law
    refine Ok.bind (deck_ok hl) fun v1 hd => Ok.eqn (eq_rng (by decide) (by decide) (by decide) (by decide)) (Ok.bind (P := fun y => ∃ s', y = Fl.nx s' ∧ DeckOk s') (forR_nx hd fun s x hx hs => ?_) fun y ⟨s6, ey, hs6⟩ => ?_)
    · unfold m_law_l3
      refine Ok.bind (web_ok hs (by decide) (by decide) (by decide) (by decide)) fun v15 ⟨⟨hw, _, _⟩, hd15⟩ => ?_
      have hn := hw.s8
      refine Ok.bind (shuffled_t_ok hd15 (by omega)) fun v16 ⟨hp, hd16⟩ => Ok.eqn (eq_rng (by decide) (by decide) (by decide) (by decide)) (Ok.bind (P := fun y => ∃ s', y = Fl.nx s' ∧ DeckOk s') (forR_nx hd16 fun s x hx hs => ?_) fun y ⟨s', ey, hs'⟩ => ?_)
      · have hpl := hp.length_eq
        unfold m_law_l2
        refine Ok.bind (take_ok hs (by omega) (by omega)) fun v28 ⟨⟨b1, b2⟩, hd28⟩ => Ok.bind (take_ok hd28 (by decide) (by decide)) fun v30 ⟨⟨b3, b4⟩, hd30⟩ => Ok.eqn (eq_rng (by decide) (by decide) (by omega) (by omega)) ?_
        have hcut : ∀ x ∈ Wk.cutD v16.1 none (some v28.1), x ∈ v16.1 := fun x hx => by
          unfold Wk.cutD at hx
          exact List.mem_of_mem_drop (List.mem_of_mem_take hx)
        have hcn : (Wk.cutD v16.1 none (some v28.1)).Nodup := by
          unfold Wk.cutD
          exact ((List.take_sublist _ _).trans (List.drop_sublist _ _)).nodup (hp.nodup_iff.mpr hw.sn)
        have hcl : (Wk.cutD v16.1 none (some v28.1)).length ≤ 8 := by
          unfold Wk.cutD
          rw [List.length_take, List.length_drop]; omega
        refine Ok.bind (foldO_num (I := fun i s => DeckOk s.1 ∧ s.2.Nodup ∧ (∀ x ∈ s.2, Tx x) ∧ s.2.length ≤ 8 + i) ⟨hd30, hcn, fun x hx => (hw.sa x (hp.mem_iff.mp (hcut x hx))).pl.tx, by omega⟩ fun i y s hy hi => ?_) fun s34 ⟨e1, e2, e3, e4⟩ => ?_
        · obtain ⟨i1, i2, i3, i4⟩ := hi
          obtain ⟨hy1, _⟩ := List.getElem?_eq_some_iff.mp hy
          rw [rgI_len] at hy1
          unfold m_law_l1
          refine Ok.bind (strange_ok i1 hw) fun v42 ⟨p42, d42⟩ => Ok.bind (P := fun r => DeckOk r.2 ∧ r.1.Nodup ∧ (∀ x ∈ r.1, Tx x) ∧ r.1.length ≤ 8 + (i + 1)) ?_ fun r ⟨r1, r2, r3, r4⟩ => Ok.ret ⟨r1, r2, r3, r4⟩
          refine Ok.ite (fun hc => ?_) fun hc => Ok.ret ⟨d42, i2, i3, by show s.2.length ≤ _; omega⟩
          rw [Bool.and_eq_true] at hc
          have hnm : v42.1 ∉ s.2 := by simpa using hc.1
          refine Ok.bind (take_ok d42 (by omega) (by omega)) fun v48 ⟨⟨c1, c2⟩, hd48⟩ => Ok.eqn (show pins s.2 v48.1 v42.1 = some _ from if_pos ⟨c1, by omega, by rw [sizeLine_eq]; omega⟩) (Ok.ret ⟨hd48, insert_nodup _ i2 hnm, fun x hx => ?_, ?_⟩)
          · rw [List.append_assoc] at hx
            rcases List.mem_append.mp hx with hx | hx
            · exact i3 x (List.mem_of_mem_take hx)
            · rcases List.mem_append.mp hx with hx | hx
              · rw [List.mem_singleton.mp hx]; exact p42.tx
              · exact i3 x (List.mem_of_mem_drop hx)
          · show (s.2.take _ ++ [v42.1] ++ s.2.drop _).length ≤ _
            rw [List.length_append, List.length_append, List.length_take, List.length_drop, List.length_singleton]; omega
        · rw [rgI_len] at e4
          exact Ok.eqn (right_ok hw e2 e3 (by omega)) (Ok.ite (fun e => by cases e) fun _ => Ok.ret ⟨_, rfl, e1⟩)
      · subst ey
        exact Ok.ret ⟨_, rfl, hs'⟩
    · subst ey
      refine made_ok ?_
      have w1 : pword (Str.ofString "ab") = some (Str.ofString "ab") := if_pos (by decide +kernel)
      have w2 : prow 3 = some 3 := if_pos (by decide +kernel)
      have w3 : prow 4 = some 4 := if_pos (by decide +kernel)
      refine bnd w1 (bnd w2 (bnd w3 (bnd (eq_fit (by decide)) ?_)))
      refine bnd (x := [[true, false, false, false, false, false, false, false], [false, true, false, false, false, false, false, false], [false, false, true, false, false, false, false, false], [false, false, false, true, false, false, false, false], [false, false, false, false, true, false, false, false], [false, false, false, false, false, true, false, false]]) ?_ ?_
      · have fl : ∀ (x : ExM) (a b c d e f g h : Bool), [isA x.x .name, isA x.x .web, isA x.x .table] ++ [isA x.x .rest, isA x.x .order, isA x.x .ask] ++ [!isA x.x .long, !isA x.x .val] = [a, b, c, d, e, f, g, h] → m_law_c4 x = some [a, b, c, d, e, f, g, h] := fun x a b c d e f g h hh => by
          unfold m_law_c4 m_l_flags
          rw [← hh]
          exact bnd (bnd (eq_cat (show 6 ≤ 16777216 by decide)) (bnd (eq_cat (show 8 ≤ 16777216 by decide)) rfl)) rfl
        refine bnd (fl _ _ _ _ _ _ _ _ _ rfl) (bnd (bnd (fl _ _ _ _ _ _ _ _ _ rfl) (bnd (bnd (fl _ _ _ _ _ _ _ _ _ rfl) (bnd (bnd (fl _ _ _ _ _ _ _ _ _ rfl) (bnd (bnd (fl _ _ _ _ _ _ _ _ _ rfl) (bnd (bnd (fl _ _ _ _ _ _ _ _ _ rfl) (bnd rfl rfl)) rfl)) rfl)) rfl)) rfl)) rfl)
      refine bnd (eq_rng (by decide) (by decide) (by decide) (by decide)) (bnd (mapO_eq (g := fun k => ((rgI 0 8).filter (fun _ => true)).map (fun x71 : Int => decide (k = x71))) fun x hx => ?_) (bnd (x := true) ?_ ?_))
      · unfold m_law_c5
        exact bnd (eq_rng (by decide) (by decide) (by decide) (by decide)) rfl
      · exact (eqf_lst (eqf_lst eqf_bl)).peq_true (fun _ _ _ _ => trivial) (by decide)
      · rw [if_neg (by decide)]
        refine bnd (eq_fit (by decide)) (bnd (x := [Str.ofString "one rest", Str.ofString "an order", Str.ofString "a line"]) rfl (bnd (x := true) ?_ ?_))
        · exact eqf_lstr.peq_true (by decide +kernel) rfl
        · rw [if_neg (by decide)]
          refine bnd (eq_pix (i := 0) rfl) (bnd (x := Str.ofString "ab") rfl (bnd (x := true) ?_ rfl))
          rw [decide_eq_true rfl, if_pos rfl]
          refine bnd (eq_pix (i := 1) rfl) (bnd (x := 3) rfl (bnd (x := true) ?_ rfl))
          rw [decide_eq_true rfl, if_pos rfl]
          exact bnd (eq_pix (i := 2) rfl) (bnd (x := 4) rfl rfl)
  obtain ⟨r, hr, rfl⟩ := key
  exact hr
end K53

open PySem PySem.Spec PyProof.Rows L2 Evl Wk K53
namespace K53
theorem all_mk {l : PySem.W.OpenLaw} {w : World} {K : PySem.W.Frag} {h : Heap} {mg : Str → Option Value} {fa : Addr} (X : K.In h) (G : h.Ns mainGlobals mg) (hfa : mg "law" = some (.ref fa))
    {f0 f1 f2 f3 f4 f5 f6 f7 f8 f9 f10 f11 f12 f13 f14 f15 c_long c_web c_table c_name c_rest c_order c_ask f22 N_name f23 N_table f24 N_web : Addr}
    {od0 an0 od1 an1 od2 an2 od3 an3 od4 an4 od5 an5 od6 an6 od7 an7 od8 an8 od9 an9 od10 an10 od11 an11 od12 an12 od13 an13 od14 an14 od15 an15 od22 an22 dd_name od23 an23 dd_table od24 an24 dd_web : Option Addr}
    {sl0 sl1 sl2 sl3 sl4 sl5 sl6 sl7 sl8 sl9 sl10 sl11 sl12 sl13 sl14 sl15 sl22 sl23 sl24 : Array (Option Value)}
    {oc0 kv0 dc0 pm0 cd0 ct0 oc1 kv1 dc1 pm1 cd1 ct1 oc2 kv2 dc2 pm2 cd2 ct2 oc3 kv3 dc3 pm3 cd3 ct3 oc4 kv4 dc4 pm4 cd4 ct4 oc5 kv5 dc5 pm5 cd5 ct5 oc6 kv6 dc6 pm6 cd6 ct6 oc7 kv7 dc7 pm7 cd7 ct7 oc8 kv8 dc8 pm8 cd8 ct8 oc9 kv9 dc9 pm9 cd9 ct9 oc10 kv10 dc10 pm10 cd10 ct10 oc11 kv11 dc11 pm11 cd11 ct11 oc12 kv12 dc12 pm12 cd12 ct12 oc13 kv13 dc13 pm13 cd13 ct13 oc14 kv14 dc14 pm14 cd14 ct14 oc15 kv15 dc15 pm15 cd15 ct15 oc22 kv22 dc22 pm22 cd22 ct22 oc23 kv23 dc23 pm23 cd23 ct23 oc24 kv24 dc24 pm24 cd24 ct24 : Value}
    {nm_name q_name : Str} {bs_name sub_name : List Value} {sn_name : List Str} {ab_name : Bool} {col_name : Option Bool} {m0_name m1_name m2_name m3_name m5_name : Option Value}
    {nm_table q_table : Str} {bs_table sub_table : List Value} {sn_table : List Str} {ab_table : Bool} {col_table : Option Bool} {m0_table m1_table m2_table m3_table m5_table : Option Value}
    {nm_web q_web : Str} {bs_web sub_web : List Value} {sn_web : List Str} {ab_web : Bool} {col_web : Option Bool} {m0_web m1_web m2_web m3_web m5_web : Option Value}
    (xg_long : PySem.W.nsIn K mainGlobals "LongError" = some (some (.ref c_long)))
    (xc_long : PySem.W.isClsIn K c_long = true)
    (xt_long : PySem.W.typeIn K (.ref c_long) = some (.type "type"))
    (xb_long : PySem.W.subIn K (.ref c_long) (.type "BaseException") = some true)
    (xd_long : PySem.W.hasDictIn K c_long = true)
    (xr_long : PySem.W.readsIn K c_long (.type "type") = true)
    (xa_long : PySem.W.specialIn K (.ref c_long) "__getattribute__" = some (some (.builtin "type.__getattribute__")))
    (xi_long : PySem.W.findCls K (.ref c_long) (.type "type") "__init__" = some (.val (.builtin "ValueError.__init__")))
    (xg_web : PySem.W.nsIn K mainGlobals "NoWeb" = some (some (.ref c_web)))
    (xc_web : PySem.W.isClsIn K c_web = true)
    (xt_web : PySem.W.typeIn K (.ref c_web) = some (.type "type"))
    (xb_web : PySem.W.subIn K (.ref c_web) (.type "BaseException") = some true)
    (xd_web : PySem.W.hasDictIn K c_web = true)
    (xga_web : PySem.W.findIn K (.ref c_web) "__getattribute__" = some (some (.builtin "BaseException.__getattribute__")))
    (xgt_web : PySem.W.findIn K (.ref c_web) "__getattr__" = some none)
    (xcl_web : PySem.W.findIn K (.ref c_web) "__class__" = some (some (.builtin "object.__class__")))
    (xm_web : PySem.W.mroIn K c_web (.type "object") = some true)
    (xk_web : PySem.W.keepIn K (.ref c_web) = true)
    (xnr_web : PySem.W.findIn K (.ref c_web) "row" = some none)
    (xnw_web : PySem.W.findIn K (.ref c_web) "word" = some none)
    (xg_table : PySem.W.nsIn K mainGlobals "NoTable" = some (some (.ref c_table)))
    (xc_table : PySem.W.isClsIn K c_table = true)
    (xt_table : PySem.W.typeIn K (.ref c_table) = some (.type "type"))
    (xb_table : PySem.W.subIn K (.ref c_table) (.type "BaseException") = some true)
    (xd_table : PySem.W.hasDictIn K c_table = true)
    (xga_table : PySem.W.findIn K (.ref c_table) "__getattribute__" = some (some (.builtin "BaseException.__getattribute__")))
    (xgt_table : PySem.W.findIn K (.ref c_table) "__getattr__" = some none)
    (xcl_table : PySem.W.findIn K (.ref c_table) "__class__" = some (some (.builtin "object.__class__")))
    (xm_table : PySem.W.mroIn K c_table (.type "object") = some true)
    (xk_table : PySem.W.keepIn K (.ref c_table) = true)
    (xnr_table : PySem.W.findIn K (.ref c_table) "row" = some none)
    (xnw_table : PySem.W.findIn K (.ref c_table) "word" = some none)
    (xg_name : PySem.W.nsIn K mainGlobals "NoName" = some (some (.ref c_name)))
    (xc_name : PySem.W.isClsIn K c_name = true)
    (xt_name : PySem.W.typeIn K (.ref c_name) = some (.type "type"))
    (xb_name : PySem.W.subIn K (.ref c_name) (.type "BaseException") = some true)
    (xd_name : PySem.W.hasDictIn K c_name = true)
    (xga_name : PySem.W.findIn K (.ref c_name) "__getattribute__" = some (some (.builtin "BaseException.__getattribute__")))
    (xgt_name : PySem.W.findIn K (.ref c_name) "__getattr__" = some none)
    (xcl_name : PySem.W.findIn K (.ref c_name) "__class__" = some (some (.builtin "object.__class__")))
    (xm_name : PySem.W.mroIn K c_name (.type "object") = some true)
    (xk_name : PySem.W.keepIn K (.ref c_name) = true)
    (xnr_name : PySem.W.findIn K (.ref c_name) "row" = some none)
    (xnw_name : PySem.W.findIn K (.ref c_name) "word" = some none)
    (xg_rest : PySem.W.nsIn K mainGlobals "NoRest" = some (some (.ref c_rest)))
    (xc_rest : PySem.W.isClsIn K c_rest = true)
    (xt_rest : PySem.W.typeIn K (.ref c_rest) = some (.type "type"))
    (xb_rest : PySem.W.subIn K (.ref c_rest) (.type "BaseException") = some true)
    (xd_rest : PySem.W.hasDictIn K c_rest = true)
    (xga_rest : PySem.W.findIn K (.ref c_rest) "__getattribute__" = some (some (.builtin "BaseException.__getattribute__")))
    (xgt_rest : PySem.W.findIn K (.ref c_rest) "__getattr__" = some none)
    (xcl_rest : PySem.W.findIn K (.ref c_rest) "__class__" = some (some (.builtin "object.__class__")))
    (xm_rest : PySem.W.mroIn K c_rest (.type "object") = some true)
    (xk_rest : PySem.W.keepIn K (.ref c_rest) = true)
    (xnr_rest : PySem.W.findIn K (.ref c_rest) "row" = some none)
    (xnw_rest : PySem.W.findIn K (.ref c_rest) "word" = some none)
    (xg_order : PySem.W.nsIn K mainGlobals "NoOrder" = some (some (.ref c_order)))
    (xc_order : PySem.W.isClsIn K c_order = true)
    (xt_order : PySem.W.typeIn K (.ref c_order) = some (.type "type"))
    (xb_order : PySem.W.subIn K (.ref c_order) (.type "BaseException") = some true)
    (xd_order : PySem.W.hasDictIn K c_order = true)
    (xga_order : PySem.W.findIn K (.ref c_order) "__getattribute__" = some (some (.builtin "BaseException.__getattribute__")))
    (xgt_order : PySem.W.findIn K (.ref c_order) "__getattr__" = some none)
    (xcl_order : PySem.W.findIn K (.ref c_order) "__class__" = some (some (.builtin "object.__class__")))
    (xm_order : PySem.W.mroIn K c_order (.type "object") = some true)
    (xk_order : PySem.W.keepIn K (.ref c_order) = true)
    (xnr_order : PySem.W.findIn K (.ref c_order) "row" = some none)
    (xnw_order : PySem.W.findIn K (.ref c_order) "word" = some none)
    (xg_ask : PySem.W.nsIn K mainGlobals "NoAsk" = some (some (.ref c_ask)))
    (xc_ask : PySem.W.isClsIn K c_ask = true)
    (xt_ask : PySem.W.typeIn K (.ref c_ask) = some (.type "type"))
    (xb_ask : PySem.W.subIn K (.ref c_ask) (.type "BaseException") = some true)
    (xd_ask : PySem.W.hasDictIn K c_ask = true)
    (xga_ask : PySem.W.findIn K (.ref c_ask) "__getattribute__" = some (some (.builtin "BaseException.__getattribute__")))
    (xgt_ask : PySem.W.findIn K (.ref c_ask) "__getattr__" = some none)
    (xcl_ask : PySem.W.findIn K (.ref c_ask) "__class__" = some (some (.builtin "object.__class__")))
    (xm_ask : PySem.W.mroIn K c_ask (.type "object") = some true)
    (xk_ask : PySem.W.keepIn K (.ref c_ask) = true)
    (xnr_ask : PySem.W.findIn K (.ref c_ask) "row" = some none)
    (xnw_ask : PySem.W.findIn K (.ref c_ask) "word" = some none)
    (xs_web_web : PySem.W.subIn K (.ref c_web) (.ref c_web) = some true)
    (xs_web_table : PySem.W.subIn K (.ref c_web) (.ref c_table) = some false)
    (xs_web_name : PySem.W.subIn K (.ref c_web) (.ref c_name) = some false)
    (xs_web_rest : PySem.W.subIn K (.ref c_web) (.ref c_rest) = some false)
    (xs_web_order : PySem.W.subIn K (.ref c_web) (.ref c_order) = some false)
    (xs_web_ask : PySem.W.subIn K (.ref c_web) (.ref c_ask) = some false)
    (xs_web_long : PySem.W.subIn K (.ref c_web) (.ref c_long) = some true)
    (xs_web_val : PySem.W.subIn K (.ref c_web) (.type "ValueError") = some true)
    (xs_table_web : PySem.W.subIn K (.ref c_table) (.ref c_web) = some false)
    (xs_table_table : PySem.W.subIn K (.ref c_table) (.ref c_table) = some true)
    (xs_table_name : PySem.W.subIn K (.ref c_table) (.ref c_name) = some false)
    (xs_table_rest : PySem.W.subIn K (.ref c_table) (.ref c_rest) = some false)
    (xs_table_order : PySem.W.subIn K (.ref c_table) (.ref c_order) = some false)
    (xs_table_ask : PySem.W.subIn K (.ref c_table) (.ref c_ask) = some false)
    (xs_table_long : PySem.W.subIn K (.ref c_table) (.ref c_long) = some true)
    (xs_table_val : PySem.W.subIn K (.ref c_table) (.type "ValueError") = some true)
    (xs_name_web : PySem.W.subIn K (.ref c_name) (.ref c_web) = some false)
    (xs_name_table : PySem.W.subIn K (.ref c_name) (.ref c_table) = some false)
    (xs_name_name : PySem.W.subIn K (.ref c_name) (.ref c_name) = some true)
    (xs_name_rest : PySem.W.subIn K (.ref c_name) (.ref c_rest) = some false)
    (xs_name_order : PySem.W.subIn K (.ref c_name) (.ref c_order) = some false)
    (xs_name_ask : PySem.W.subIn K (.ref c_name) (.ref c_ask) = some false)
    (xs_name_long : PySem.W.subIn K (.ref c_name) (.ref c_long) = some true)
    (xs_name_val : PySem.W.subIn K (.ref c_name) (.type "ValueError") = some true)
    (xs_rest_web : PySem.W.subIn K (.ref c_rest) (.ref c_web) = some false)
    (xs_rest_table : PySem.W.subIn K (.ref c_rest) (.ref c_table) = some false)
    (xs_rest_name : PySem.W.subIn K (.ref c_rest) (.ref c_name) = some false)
    (xs_rest_rest : PySem.W.subIn K (.ref c_rest) (.ref c_rest) = some true)
    (xs_rest_order : PySem.W.subIn K (.ref c_rest) (.ref c_order) = some false)
    (xs_rest_ask : PySem.W.subIn K (.ref c_rest) (.ref c_ask) = some false)
    (xs_rest_long : PySem.W.subIn K (.ref c_rest) (.ref c_long) = some true)
    (xs_rest_val : PySem.W.subIn K (.ref c_rest) (.type "ValueError") = some true)
    (xs_order_web : PySem.W.subIn K (.ref c_order) (.ref c_web) = some false)
    (xs_order_table : PySem.W.subIn K (.ref c_order) (.ref c_table) = some false)
    (xs_order_name : PySem.W.subIn K (.ref c_order) (.ref c_name) = some false)
    (xs_order_rest : PySem.W.subIn K (.ref c_order) (.ref c_rest) = some false)
    (xs_order_order : PySem.W.subIn K (.ref c_order) (.ref c_order) = some true)
    (xs_order_ask : PySem.W.subIn K (.ref c_order) (.ref c_ask) = some false)
    (xs_order_long : PySem.W.subIn K (.ref c_order) (.ref c_long) = some true)
    (xs_order_val : PySem.W.subIn K (.ref c_order) (.type "ValueError") = some true)
    (xs_ask_web : PySem.W.subIn K (.ref c_ask) (.ref c_web) = some false)
    (xs_ask_table : PySem.W.subIn K (.ref c_ask) (.ref c_table) = some false)
    (xs_ask_name : PySem.W.subIn K (.ref c_ask) (.ref c_name) = some false)
    (xs_ask_rest : PySem.W.subIn K (.ref c_ask) (.ref c_rest) = some false)
    (xs_ask_order : PySem.W.subIn K (.ref c_ask) (.ref c_order) = some false)
    (xs_ask_ask : PySem.W.subIn K (.ref c_ask) (.ref c_ask) = some true)
    (xs_ask_long : PySem.W.subIn K (.ref c_ask) (.ref c_long) = some true)
    (xs_ask_val : PySem.W.subIn K (.ref c_ask) (.type "ValueError") = some true)
    (xhn : PySem.W.specialIn K (.builtin "object.__class__") "__get__" = some (some (.builtin "getset_descriptor.__get__")))
    (xht : PySem.W.takesIn K (.builtin "object.__class__") = some true)
    (xve : PySem.W.nsIn K mainGlobals "ValueError" = some none)
    (xst_web : PySem.W.findIn K (.ref c_web) "__str__" = some (some (.builtin "BaseException.__str__")))
    (xst_table : PySem.W.findIn K (.ref c_table) "__str__" = some (some (.builtin "BaseException.__str__")))
    (xst_name : PySem.W.findIn K (.ref c_name) "__str__" = some (some (.builtin "BaseException.__str__")))
    (xst_rest : PySem.W.findIn K (.ref c_rest) "__str__" = some (some (.builtin "BaseException.__str__")))
    (xst_order : PySem.W.findIn K (.ref c_order) "__str__" = some (some (.builtin "BaseException.__str__")))
    (xst_ask : PySem.W.findIn K (.ref c_ask) "__str__" = some (some (.builtin "BaseException.__str__")))
    (xe_ask : PySem.W.excIn K c_ask [.type "ValueError", .type "Exception", .type "BaseException", .type "object"] "ValueError.__new__" = true)
    (xL_name : K.lookup c_name = some (excClassObj nm_name q_name c_name N_name bs_name [.ref c_long, .type "ValueError", .type "Exception", .type "BaseException", .type "object"] true sn_name sub_name ab_name col_name dd_name m0_name m1_name m2_name m3_name m5_name "ValueError.__new__"))
    (xsa_name : PySem.W.findIn K (.ref c_name) "__setattr__" = some (some (.builtin "object.__setattr__")))
    (xin_name : PySem.W.findIn K (.ref c_name) "__init__" = some (some (.ref f22)))
    (xti_name : PySem.W.typeIn K (.ref f22) = some (.type "function"))
    (l22 : K.lookup f22 = some ⟨oc22, od22, .func (PySem.W.fnOf "__init__" "NoName.__init__" (defArgs s_x_NoName) (defBody s_x_NoName) (defScope s_x_NoName) .none kv22 dc22 pm22 an22 cd22 ct22), sl22⟩)
    (c22 : PySem.W.codeIn K cd22 "NoName.__init__" = true)
    (k22 : PySem.W.keepIn K (.ref f22) = true)
    (xe_order : PySem.W.excIn K c_order [.type "ValueError", .type "Exception", .type "BaseException", .type "object"] "ValueError.__new__" = true)
    (xe_rest : PySem.W.excIn K c_rest [.type "ValueError", .type "Exception", .type "BaseException", .type "object"] "ValueError.__new__" = true)
    (xL_table : K.lookup c_table = some (excClassObj nm_table q_table c_table N_table bs_table [.ref c_long, .type "ValueError", .type "Exception", .type "BaseException", .type "object"] true sn_table sub_table ab_table col_table dd_table m0_table m1_table m2_table m3_table m5_table "ValueError.__new__"))
    (xsa_table : PySem.W.findIn K (.ref c_table) "__setattr__" = some (some (.builtin "object.__setattr__")))
    (xin_table : PySem.W.findIn K (.ref c_table) "__init__" = some (some (.ref f23)))
    (xti_table : PySem.W.typeIn K (.ref f23) = some (.type "function"))
    (l23 : K.lookup f23 = some ⟨oc23, od23, .func (PySem.W.fnOf "__init__" "NoTable.__init__" (defArgs s_x_NoTable) (defBody s_x_NoTable) (defScope s_x_NoTable) .none kv23 dc23 pm23 an23 cd23 ct23), sl23⟩)
    (c23 : PySem.W.codeIn K cd23 "NoTable.__init__" = true)
    (k23 : PySem.W.keepIn K (.ref f23) = true)
    (xL_web : K.lookup c_web = some (excClassObj nm_web q_web c_web N_web bs_web [.ref c_long, .type "ValueError", .type "Exception", .type "BaseException", .type "object"] true sn_web sub_web ab_web col_web dd_web m0_web m1_web m2_web m3_web m5_web "ValueError.__new__"))
    (xsa_web : PySem.W.findIn K (.ref c_web) "__setattr__" = some (some (.builtin "object.__setattr__")))
    (xin_web : PySem.W.findIn K (.ref c_web) "__init__" = some (some (.ref f24)))
    (xti_web : PySem.W.typeIn K (.ref f24) = some (.type "function"))
    (l24 : K.lookup f24 = some ⟨oc24, od24, .func (PySem.W.fnOf "__init__" "NoWeb.__init__" (defArgs s_x_NoWeb) (defBody s_x_NoWeb) (defScope s_x_NoWeb) .none kv24 dc24 pm24 an24 cd24 ct24), sl24⟩)
    (c24 : PySem.W.codeIn K cd24 "NoWeb.__init__" = true)
    (k24 : PySem.W.keepIn K (.ref f24) = true)
    (a0 : PySem.W.nsIn K mainGlobals "need_states" = some (some (.ref f0)))
    (l0 : K.lookup f0 = some ⟨oc0, od0, .func (PySem.W.fnOf "need_states" "need_states" (defArgs s_need_states) (defBody s_need_states) (defScope s_need_states) .none kv0 dc0 pm0 an0 cd0 ct0), sl0⟩)
    (c0 : PySem.W.codeIn K cd0 "need_states" = true)
    (k0 : PySem.W.keepIn K (.ref f0) = true)
    (a1 : PySem.W.nsIn K mainGlobals "rows_led" = some (some (.ref f1)))
    (l1 : K.lookup f1 = some ⟨oc1, od1, .func (PySem.W.fnOf "rows_led" "rows_led" (defArgs s_rows_led) (defBody s_rows_led) (defScope s_rows_led) .none kv1 dc1 pm1 an1 cd1 ct1), sl1⟩)
    (c1 : PySem.W.codeIn K cd1 "rows_led" = true)
    (k1 : PySem.W.keepIn K (.ref f1) = true)
    (a2 : PySem.W.nsIn K mainGlobals "led_along" = some (some (.ref f2)))
    (l2 : K.lookup f2 = some ⟨oc2, od2, .func (PySem.W.fnOf "led_along" "led_along" (defArgs s_led_along) (defBody s_led_along) (defScope s_led_along) .none kv2 dc2 pm2 an2 cd2 ct2), sl2⟩)
    (c2 : PySem.W.codeIn K cd2 "led_along" = true)
    (k2 : PySem.W.keepIn K (.ref f2) = true)
    (a3 : PySem.W.nsIn K mainGlobals "is_watching" = some (some (.ref f3)))
    (l3 : K.lookup f3 = some ⟨oc3, od3, .func (PySem.W.fnOf "is_watching" "is_watching" (defArgs s_is_watching) (defBody s_is_watching) (defScope s_is_watching) .none kv3 dc3 pm3 an3 cd3 ct3), sl3⟩)
    (c3 : PySem.W.codeIn K cd3 "is_watching" = true)
    (k3 : PySem.W.keepIn K (.ref f3) = true)
    (a4 : PySem.W.nsIn K mainGlobals "is_enough" = some (some (.ref f4)))
    (l4 : K.lookup f4 = some ⟨oc4, od4, .func (PySem.W.fnOf "is_enough" "is_enough" (defArgs s_is_enough) (defBody s_is_enough) (defScope s_is_enough) .none kv4 dc4 pm4 an4 cd4 ct4), sl4⟩)
    (c4 : PySem.W.codeIn K cd4 "is_enough" = true)
    (k4 : PySem.W.keepIn K (.ref f4) = true)
    (a5 : PySem.W.nsIn K mainGlobals "_law_deck" = some (some (.ref f5)))
    (l5 : K.lookup f5 = some ⟨oc5, od5, .func (PySem.W.fnOf "_law_deck" "_law_deck" (defArgs s_l_deck) (defBody s_l_deck) (defScope s_l_deck) .none kv5 dc5 pm5 an5 cd5 ct5), sl5⟩)
    (c5 : PySem.W.codeIn K cd5 "_law_deck" = true)
    (k5 : PySem.W.keepIn K (.ref f5) = true)
    (a6 : PySem.W.nsIn K mainGlobals "_law_take" = some (some (.ref f6)))
    (l6 : K.lookup f6 = some ⟨oc6, od6, .func (PySem.W.fnOf "_law_take" "_law_take" (defArgs s_l_take) (defBody s_l_take) (defScope s_l_take) .none kv6 dc6 pm6 an6 cd6 ct6), sl6⟩)
    (c6 : PySem.W.codeIn K cd6 "_law_take" = true)
    (k6 : PySem.W.keepIn K (.ref f6) = true)
    (a7 : PySem.W.nsIn K mainGlobals "_law_names" = some (some (.ref f7)))
    (l7 : K.lookup f7 = some ⟨oc7, od7, .func (PySem.W.fnOf "_law_names" "_law_names" (defArgs s_l_names) (defBody s_l_names) (defScope s_l_names) .none kv7 dc7 pm7 an7 cd7 ct7), sl7⟩)
    (c7 : PySem.W.codeIn K cd7 "_law_names" = true)
    (k7 : PySem.W.keepIn K (.ref f7) = true)
    (a8 : PySem.W.nsIn K mainGlobals "_law_shuffled" = some (some (.ref f8)))
    (l8 : K.lookup f8 = some ⟨oc8, od8, .func (PySem.W.fnOf "_law_shuffled" "_law_shuffled" (defArgs s_l_shuffled) (defBody s_l_shuffled) (defScope s_l_shuffled) .none kv8 dc8 pm8 an8 cd8 ct8), sl8⟩)
    (c8 : PySem.W.codeIn K cd8 "_law_shuffled" = true)
    (k8 : PySem.W.keepIn K (.ref f8) = true)
    (a9 : PySem.W.nsIn K mainGlobals "_law_shuffled" = some (some (.ref f9)))
    (l9 : K.lookup f9 = some ⟨oc9, od9, .func (PySem.W.fnOf "_law_shuffled" "_law_shuffled" (defArgs s_l_shuffled_t) (defBody s_l_shuffled_t) (defScope s_l_shuffled_t) .none kv9 dc9 pm9 an9 cd9 ct9), sl9⟩)
    (c9 : PySem.W.codeIn K cd9 "_law_shuffled" = true)
    (k9 : PySem.W.keepIn K (.ref f9) = true)
    (a10 : PySem.W.nsIn K mainGlobals "_law_images" = some (some (.ref f10)))
    (l10 : K.lookup f10 = some ⟨oc10, od10, .func (PySem.W.fnOf "_law_images" "_law_images" (defArgs s_l_images) (defBody s_l_images) (defScope s_l_images) .none kv10 dc10 pm10 an10 cd10 ct10), sl10⟩)
    (c10 : PySem.W.codeIn K cd10 "_law_images" = true)
    (k10 : PySem.W.keepIn K (.ref f10) = true)
    (a11 : PySem.W.nsIn K mainGlobals "_law_web" = some (some (.ref f11)))
    (l11 : K.lookup f11 = some ⟨oc11, od11, .func (PySem.W.fnOf "_law_web" "_law_web" (defArgs s_l_web) (defBody s_l_web) (defScope s_l_web) .none kv11 dc11 pm11 an11 cd11 ct11), sl11⟩)
    (c11 : PySem.W.codeIn K cd11 "_law_web" = true)
    (k11 : PySem.W.keepIn K (.ref f11) = true)
    (a12 : PySem.W.nsIn K mainGlobals "_law_flags" = some (some (.ref f12)))
    (l12 : K.lookup f12 = some ⟨oc12, od12, .func (PySem.W.fnOf "_law_flags" "_law_flags" (defArgs s_l_flags) (defBody s_l_flags) (defScope s_l_flags) .none kv12 dc12 pm12 an12 cd12 ct12), sl12⟩)
    (c12 : PySem.W.codeIn K cd12 "_law_flags" = true)
    (k12 : PySem.W.keepIn K (.ref f12) = true)
    (a13 : PySem.W.nsIn K mainGlobals "_law_strange" = some (some (.ref f13)))
    (l13 : K.lookup f13 = some ⟨oc13, od13, .func (PySem.W.fnOf "_law_strange" "_law_strange" (defArgs s_l_strange) (defBody s_l_strange) (defScope s_l_strange) .none kv13 dc13 pm13 an13 cd13 ct13), sl13⟩)
    (c13 : PySem.W.codeIn K cd13 "_law_strange" = true)
    (k13 : PySem.W.keepIn K (.ref f13) = true)
    (a14 : PySem.W.nsIn K mainGlobals "_law_right" = some (some (.ref f14)))
    (l14 : K.lookup f14 = some ⟨oc14, od14, .func (PySem.W.fnOf "_law_right" "_law_right" (defArgs s_l_right) (defBody s_l_right) (defScope s_l_right) .none kv14 dc14 pm14 an14 cd14 ct14), sl14⟩)
    (c14 : PySem.W.codeIn K cd14 "_law_right" = true)
    (k14 : PySem.W.keepIn K (.ref f14) = true)
    (a15 : PySem.W.nsIn K mainGlobals "law" = some (some (.ref f15)))
    (l15 : K.lookup f15 = some ⟨oc15, od15, .func (PySem.W.fnOf "law" "law" (defArgs s_law) (defBody s_law) (defScope s_law) .none kv15 dc15 pm15 an15 cd15 ct15), sl15⟩)
    (c15 : PySem.W.codeIn K cd15 "law" = true)
    (k15 : PySem.W.keepIn K (.ref f15) = true)
    (b_len : PySem.W.nsIn K mainGlobals "len" = some none)
    (b_range : PySem.W.nsIn K mainGlobals "range" = some none)
    (b_max : PySem.W.nsIn K mainGlobals "max" = some none)
    (b_min : PySem.W.nsIn K mainGlobals "min" = some none)
    (b_abs : PySem.W.nsIn K mainGlobals "abs" = some none)
    (b_sum : PySem.W.nsIn K mainGlobals "sum" = some none)
    (b_all : PySem.W.nsIn K mainGlobals "all" = some none)
    (b_int : PySem.W.nsIn K mainGlobals "int" = some none)
    (b_str : PySem.W.nsIn K mainGlobals "str" = some none)
    (b_list : PySem.W.nsIn K mainGlobals "list" = some none)
    (b_tuple : PySem.W.nsIn K mainGlobals "tuple" = some none)
    (b_sorted : PySem.W.nsIn K mainGlobals "sorted" = some none)
    (b_isinstance : PySem.W.nsIn K mainGlobals "isinstance" = some none)
    (b_dict : PySem.W.nsIn K mainGlobals "dict" = some none)
    (b_zip : PySem.W.nsIn K mainGlobals "zip" = some none)
    (b_enumerate : PySem.W.nsIn K mainGlobals "enumerate" = some none)
    (b_set : PySem.W.nsIn K mainGlobals "set" = some none)
    (b_bool : PySem.W.nsIn K mainGlobals "bool" = some none) :
    ∃ fd : FuncData, (∀ (s : Shared) (v : Value), BindsTo s fd ⟨[v], []⟩ [("script", v)]) ∧ ∀ base : Heap, K.In base → base.Ns mainGlobals mg → FnOk l.prog w K mg base CX0 6 fa fd ["script"] (spR K R_law) := by
  have e := hfa.symm.trans (PySem.W.mg_of X G a15)
  cases e
  have F0 := fun_mk (st := s_need_states) l0 c0 k0
  have F1 := fun_mk (st := s_rows_led) l1 c1 k1
  have F2 := fun_mk (st := s_led_along) l2 c2 k2
  have F3 := fun_mk (st := s_is_watching) l3 c3 k3
  have F4 := fun_mk (st := s_is_enough) l4 c4 k4
  have F5 := fun_mk (st := s_l_deck) l5 c5 k5
  have F6 := fun_mk (st := s_l_take) l6 c6 k6
  have F7 := fun_mk (st := s_l_names) l7 c7 k7
  have F8 := fun_mk (st := s_l_shuffled) l8 c8 k8
  have F9 := fun_mk (st := s_l_shuffled_t) l9 c9 k9
  have F10 := fun_mk (st := s_l_images) l10 c10 k10
  have F11 := fun_mk (st := s_l_web) l11 c11 k11
  have F12 := fun_mk (st := s_l_flags) l12 c12 k12
  have F13 := fun_mk (st := s_l_strange) l13 c13 k13
  have F14 := fun_mk (st := s_l_right) l14 c14 k14
  have F15 := fun_mk (st := s_law) l15 c15 k15
  have B : Blt mg := ⟨PySem.W.mg_none_of X G b_len, PySem.W.mg_none_of X G b_range, PySem.W.mg_none_of X G b_max, PySem.W.mg_none_of X G b_min, PySem.W.mg_none_of X G b_abs, PySem.W.mg_none_of X G b_sum, PySem.W.mg_none_of X G b_all, PySem.W.mg_none_of X G b_int, PySem.W.mg_none_of X G b_str, PySem.W.mg_none_of X G b_list, PySem.W.mg_none_of X G b_tuple, PySem.W.mg_none_of X G b_sorted, PySem.W.mg_none_of X G b_isinstance, PySem.W.mg_none_of X G b_dict, PySem.W.mg_none_of X G b_zip, PySem.W.mg_none_of X G b_enumerate, PySem.W.mg_none_of X G b_set, PySem.W.mg_none_of X G b_bool⟩
  have Cn : Cns mg := ⟨trivial⟩
  have B0 := F0.binds (ps := ["web", "states"]) fun _ _ _ _ _ _ us hl => match us, hl with | [_, _], _ => rfl
  have B1 := F1.binds (ps := ["web"]) fun _ _ _ _ _ _ us hl => match us, hl with | [_], _ => rfl
  have B2 := F2.binds (ps := ["row", "some"]) fun _ _ _ _ _ _ us hl => match us, hl with | [_, _], _ => rfl
  have B3 := F3.binds (ps := ["rows", "some", "many"]) fun _ _ _ _ _ _ us hl => match us, hl with | [_, _, _], _ => rfl
  have B4 := F4.binds (ps := ["web", "states"]) fun _ _ _ _ _ _ us hl => match us, hl with | [_, _], _ => rfl
  have B5 := F5.binds (ps := ["script"]) fun _ _ _ _ _ _ us hl => match us, hl with | [_], _ => rfl
  have B6 := F6.binds (ps := ["deck", "many"]) fun _ _ _ _ _ _ us hl => match us, hl with | [_, _], _ => rfl
  have B7 := F7.binds (ps := ["deck", "many"]) fun _ _ _ _ _ _ us hl => match us, hl with | [_, _], _ => rfl
  have B8 := F8.binds (ps := ["deck", "things"]) fun _ _ _ _ _ _ us hl => match us, hl with | [_, _], _ => rfl
  have B9 := F9.binds (ps := ["deck", "things"]) fun _ _ _ _ _ _ us hl => match us, hl with | [_, _], _ => rfl
  have B10 := F10.binds (ps := ["deck", "many", "way"]) fun _ _ _ _ _ _ us hl => match us, hl with | [_, _, _], _ => rfl
  have B11 := F11.binds (ps := ["deck", "most", "moves"]) fun _ _ _ _ _ _ us hl => match us, hl with | [_, _, _], _ => rfl
  have B12 := F12.binds (ps := ["thing"]) fun _ _ _ _ _ _ us hl => match us, hl with | [_], _ => rfl
  have B13 := F13.binds (ps := ["deck", "web"]) fun _ _ _ _ _ _ us hl => match us, hl with | [_, _], _ => rfl
  have B14 := F14.binds (ps := ["web", "states"]) fun _ _ _ _ _ _ us hl => match us, hl with | [_, _], _ => rfl
  have EO : ErOk K ⟨c_web, c_table, c_name, c_rest, c_order, c_ask, c_long⟩ fullS fullT := {
    st := by decide
    cl := fun n hn => match n, hn with
      | .web, _ => ⟨xc_web, xt_web, xga_web, xgt_web, xb_web, xcl_web, xm_web, xd_web, xk_web, xnr_web, xnw_web⟩
      | .table, _ => ⟨xc_table, xt_table, xga_table, xgt_table, xb_table, xcl_table, xm_table, xd_table, xk_table, xnr_table, xnw_table⟩
      | .name, _ => ⟨xc_name, xt_name, xga_name, xgt_name, xb_name, xcl_name, xm_name, xd_name, xk_name, xnr_name, xnw_name⟩
      | .rest, _ => ⟨xc_rest, xt_rest, xga_rest, xgt_rest, xb_rest, xcl_rest, xm_rest, xd_rest, xk_rest, xnr_rest, xnw_rest⟩
      | .order, _ => ⟨xc_order, xt_order, xga_order, xgt_order, xb_order, xcl_order, xm_order, xd_order, xk_order, xnr_order, xnw_order⟩
      | .ask, _ => ⟨xc_ask, xt_ask, xga_ask, xgt_ask, xb_ask, xcl_ask, xm_ask, xd_ask, xk_ask, xnr_ask, xnw_ask⟩
      | .long, h => absurd h (by decide)
      | .val, h => absurd h (by decide)
    ty := fun n _ hv => match n, hv with
      | .web, _ => ⟨xc_web, xt_web, xb_web, xd_web⟩
      | .table, _ => ⟨xc_table, xt_table, xb_table, xd_table⟩
      | .name, _ => ⟨xc_name, xt_name, xb_name, xd_name⟩
      | .rest, _ => ⟨xc_rest, xt_rest, xb_rest, xd_rest⟩
      | .order, _ => ⟨xc_order, xt_order, xb_order, xd_order⟩
      | .ask, _ => ⟨xc_ask, xt_ask, xb_ask, xd_ask⟩
      | .long, _ => ⟨xc_long, xt_long, xb_long, xd_long⟩
      | .val, h => absurd rfl h
    sub := fun x _ n _ => match x, n with
      | .web _, .web => xs_web_web
      | .web _, .table => xs_web_table
      | .web _, .name => xs_web_name
      | .web _, .rest => xs_web_rest
      | .web _, .order => xs_web_order
      | .web _, .ask => xs_web_ask
      | .web _, .long => xs_web_long
      | .web _, .val => xs_web_val
      | .table _, .web => xs_table_web
      | .table _, .table => xs_table_table
      | .table _, .name => xs_table_name
      | .table _, .rest => xs_table_rest
      | .table _, .order => xs_table_order
      | .table _, .ask => xs_table_ask
      | .table _, .long => xs_table_long
      | .table _, .val => xs_table_val
      | .name _, .web => xs_name_web
      | .name _, .table => xs_name_table
      | .name _, .name => xs_name_name
      | .name _, .rest => xs_name_rest
      | .name _, .order => xs_name_order
      | .name _, .ask => xs_name_ask
      | .name _, .long => xs_name_long
      | .name _, .val => xs_name_val
      | .rest, .web => xs_rest_web
      | .rest, .table => xs_rest_table
      | .rest, .name => xs_rest_name
      | .rest, .rest => xs_rest_rest
      | .rest, .order => xs_rest_order
      | .rest, .ask => xs_rest_ask
      | .rest, .long => xs_rest_long
      | .rest, .val => xs_rest_val
      | .order, .web => xs_order_web
      | .order, .table => xs_order_table
      | .order, .name => xs_order_name
      | .order, .rest => xs_order_rest
      | .order, .order => xs_order_order
      | .order, .ask => xs_order_ask
      | .order, .long => xs_order_long
      | .order, .val => xs_order_val
      | .ask, .web => xs_ask_web
      | .ask, .table => xs_ask_table
      | .ask, .name => xs_ask_name
      | .ask, .rest => xs_ask_rest
      | .ask, .order => xs_ask_order
      | .ask, .ask => xs_ask_ask
      | .ask, .long => xs_ask_long
      | .ask, .val => xs_ask_val
    hn := xhn
    htk := xht }
  have So : StrOk K ⟨c_web, c_table, c_name, c_rest, c_order, c_ask, c_long⟩ fullS := ⟨fun n hn => match n, hn with | .web, _ => xst_web | .table, _ => xst_table | .name, _ => xst_name | .rest, _ => xst_rest | .order, _ => xst_order | .ask, _ => xst_ask | .long, h => absurd h (by decide) | .val, h => absurd h (by decide), fun n hn => match n, hn with | .web, _ => xb_web | .table, _ => xb_table | .name, _ => xb_name | .rest, _ => xb_rest | .order, _ => xb_order | .ask, _ => xb_ask | .long, h => absurd h (by decide) | .val, h => absurd h (by decide)⟩
  have Em : EMg mg ⟨c_web, c_table, c_name, c_rest, c_order, c_ask, c_long⟩ := ⟨PySem.W.mg_of X G xg_long, PySem.W.mg_of X G xg_web, PySem.W.mg_of X G xg_table, PySem.W.mg_of X G xg_name, PySem.W.mg_of X G xg_rest, PySem.W.mg_of X G xg_order, PySem.W.mg_of X G xg_ask, PySem.W.mg_none_of X G xve⟩
  have Lg : LgOk K mg c_long := ⟨PySem.W.mg_of X G xg_long, xr_long, xa_long, xi_long⟩
  have hstr : mg "str" = none := PySem.W.mg_none_of X G b_str
  have F22 := fun_mk (st := s_x_NoName) l22 c22 k22
  have B22 := F22.binds (ps := ["self", "word"]) fun _ _ _ _ _ _ us hl => match us, hl with | [_, _], _ => rfl
  have F23 := fun_mk (st := s_x_NoTable) l23 c23 k23
  have B23 := F23.binds (ps := ["self", "row"]) fun _ _ _ _ _ _ us hl => match us, hl with | [_, _], _ => rfl
  have F24 := fun_mk (st := s_x_NoWeb) l24 c24 k24
  have B24 := F24.binds (ps := ["self", "row"]) fun _ _ _ _ _ _ us hl => match us, hl with | [_, _], _ => rfl
  refine ⟨PySem.W.fnOf "law" "law" (defArgs s_law) (defBody s_law) (defScope s_law) .none kv15 dc15 pm15 an15 cd15 ct15, fun s v => .of_eq rfl, fun base _ _ => ?_⟩
  have Rz_NoAsk : RzT K mg "NoAsk" c_ask := ⟨xe_ask, PySem.W.mg_of X G xg_ask, xk_ask, xb_ask, xt_ask⟩
  have Rz_NoName : RzI l.prog w K mg base "NoName" c_name "word" isTxt ["self", "word"] := ⟨⟨⟨_, _, _, _, _, _, _, _, _, _, _, _, _, _, _, xL_name, by rfl⟩, xsa_name, xb_name, xt_name, xk_name⟩, xnw_name, ⟨f22, _, xin_name, xti_name, ok_x_NoName F22 Lg hstr, B22⟩, PySem.W.mg_of X G xg_name⟩
  have Rz_NoOrder : RzT K mg "NoOrder" c_order := ⟨xe_order, PySem.W.mg_of X G xg_order, xk_order, xb_order, xt_order⟩
  have Rz_NoRest : RzT K mg "NoRest" c_rest := ⟨xe_rest, PySem.W.mg_of X G xg_rest, xk_rest, xb_rest, xt_rest⟩
  have Rz_NoTable : RzI l.prog w K mg base "NoTable" c_table "row" isNum ["self", "row"] := ⟨⟨⟨_, _, _, _, _, _, _, _, _, _, _, _, _, _, _, xL_table, by rfl⟩, xsa_table, xb_table, xt_table, xk_table⟩, xnr_table, ⟨f23, _, xin_table, xti_table, ok_x_NoTable F23 Lg hstr, B23⟩, PySem.W.mg_of X G xg_table⟩
  have Rz_NoWeb : RzI l.prog w K mg base "NoWeb" c_web "row" isNum ["self", "row"] := ⟨⟨⟨_, _, _, _, _, _, _, _, _, _, _, _, _, _, _, xL_web, by rfl⟩, xsa_web, xb_web, xt_web, xk_web⟩, xnr_web, ⟨f24, _, xin_web, xti_web, ok_x_NoWeb F24 Lg hstr, B24⟩, PySem.W.mg_of X G xg_web⟩
  have D_need_states : DefX l.prog w K mg base _ 3 "need_states" ["web", "states"] R_need_states := ⟨f0, _, ok_need_states F0 B Cn  EO Em Rz_NoName, PySem.W.mg_of X G a0, k0, B0⟩
  have D_rows_led : Def l.prog w K mg base 1 "rows_led" ["web"] R_rows_led := ⟨f1, _, ok_rows_led F1 B Cn , PySem.W.mg_of X G a1, k1, B1⟩
  have D_led_along : Def l.prog w K mg base 1 "led_along" ["row", "some"] R_led_along := ⟨f2, _, ok_led_along F2 B Cn , PySem.W.mg_of X G a2, k2, B2⟩
  have D_is_watching : Def l.prog w K mg base 2 "is_watching" ["rows", "some", "many"] R_is_watching := ⟨f3, _, ok_is_watching F3 B Cn D_led_along, PySem.W.mg_of X G a3, k3, B3⟩
  have D_is_enough : DefX l.prog w K mg base _ 4 "is_enough" ["web", "states"] R_is_enough := ⟨f4, _, ok_is_enough F4 B Cn D_need_states D_rows_led D_is_watching EO Em, PySem.W.mg_of X G a4, k4, B4⟩
  have D_l_deck : DefDk l.prog w K mg base 1 "_law_deck" ["script"] R_l_deck := ⟨f5, _, ok_l_deck F5 B Cn , PySem.W.mg_of X G a5, k5, B5⟩
  have D_l_take : Def l.prog w K mg base 1 "_law_take" ["deck", "many"] R_l_take := ⟨f6, _, ok_l_take F6 B, PySem.W.mg_of X G a6, k6, B6⟩
  have D_l_names : Def l.prog w K mg base 2 "_law_names" ["deck", "many"] R_l_names := ⟨f7, _, ok_l_names F7 B Cn D_l_take, PySem.W.mg_of X G a7, k7, B7⟩
  have D_l_shuffled : Def l.prog w K mg base 2 "_law_shuffled" ["deck", "things"] R_l_shuffled := ⟨f8, _, ok_l_shuffled F8 B Cn D_l_take, PySem.W.mg_of X G a8, k8, B8⟩
  have D_l_shuffled_t : Def l.prog w K mg base 2 "_law_shuffled" ["deck", "things"] R_l_shuffled_t := ⟨f9, _, ok_l_shuffled_t F9 B Cn D_l_take, PySem.W.mg_of X G a9, k9, B9⟩
  have D_l_images : Def l.prog w K mg base 3 "_law_images" ["deck", "many", "way"] R_l_images := ⟨f10, _, ok_l_images F10 B Cn D_l_take D_l_shuffled, PySem.W.mg_of X G a10, k10, B10⟩
  have D_l_web : Def l.prog w K mg base 4 "_law_web" ["deck", "most", "moves"] R_l_web := ⟨f11, _, ok_l_web F11 B Cn D_l_take D_l_names D_l_images, PySem.W.mg_of X G a11, k11, B11⟩
  have D_l_flags : Def l.prog w K mg base 1 "_law_flags" ["thing"] (R_l_flags _) := ⟨f12, _, ok_l_flags F12 B Cn  EO Em, PySem.W.mg_of X G a12, k12, B12⟩
  have D_l_strange : Def l.prog w K mg base 2 "_law_strange" ["deck", "web"] R_l_strange := ⟨f13, _, ok_l_strange F13 B Cn D_l_take, PySem.W.mg_of X G a13, k13, B13⟩
  have D_l_right : Def l.prog w K mg base 5 "_law_right" ["web", "states"] R_l_right := ⟨f14, _, ok_l_right F14 B Cn D_is_enough D_l_flags EO Em, PySem.W.mg_of X G a14, k14, B14⟩
  exact ok_law F15 B Cn D_l_deck D_l_take D_l_shuffled_t D_l_web D_l_flags D_l_strange D_l_right EO Em Rz_NoAsk Rz_NoName Rz_NoOrder Rz_NoRest Rz_NoTable Rz_NoWeb So
theorem law_sp (hmain : ∀ ns : List Int, ns.length ≤ 63 → m_law ns = some true) (K : PySem.W.Frag) (H : Hp) (a : Addr) (ns : List Int) (hl : ns.length ≤ 63) (hS : SqL K H a (ns.map V.int)) : spR K R_law [.ref a] H (fun v _ => v = .bl true) (fun _ _ _ => False) := by
  refine ⟨H, [], [.rlst (ns.map D.int)], [], .bl true, [], RepL.cons (by unfold Rep; exact ⟨a, _, rfl, hS, RepL.of_ints⟩) RepL.nil, ⟨Ex.refl H, fun p hp => absurd hp (by simp), by simp⟩, ⟨ns, true, rfl, rfl, hmain ns hl, rfl, rfl⟩, fun v G2 H2 _ _ r => of_bl r⟩
end K53
set_option maxHeartbeats 0 in
theorem PySem.Challenge.cw_walksago_k53_states_that_are_none_holds : PySem.Challenge.rw_walksago_k53_states_that_are_none.Holds := by
  w_on; o_law; k_head; (case hw => w_witness2)
  k_fill
  refine L2.walk_of (l := PySem.Challenge.rw_walksago_k53_states_that_are_none) (n := 63) (k := 6) (x := "script") (CX := fun _ => L2.CX0) (sp := fun w => Wk.spR _ K53.R_law) rfl (by decide) rfl ⟨rfl, by decide, by decide⟩ (fun w h Y => PySem.W.kIn_of Y) ?F (fun w H a ns hl _ hS => K53.law_sp K53.main _ H a ns hl hS) (fun _ _ _ _ _ h => h)
  case F =>
    intro w mg fa h KX G hmg
    refine' K53.all_mk KX G hmg ?xg_long ?xc_long ?xt_long ?xb_long ?xd_long ?xr_long ?xa_long ?xi_long ?xg_web ?xc_web ?xt_web ?xb_web ?xd_web ?xga_web ?xgt_web ?xcl_web ?xm_web ?xk_web ?xnr_web ?xnw_web ?xg_table ?xc_table ?xt_table ?xb_table ?xd_table ?xga_table ?xgt_table ?xcl_table ?xm_table ?xk_table ?xnr_table ?xnw_table ?xg_name ?xc_name ?xt_name ?xb_name ?xd_name ?xga_name ?xgt_name ?xcl_name ?xm_name ?xk_name ?xnr_name ?xnw_name ?xg_rest ?xc_rest ?xt_rest ?xb_rest ?xd_rest ?xga_rest ?xgt_rest ?xcl_rest ?xm_rest ?xk_rest ?xnr_rest ?xnw_rest ?xg_order ?xc_order ?xt_order ?xb_order ?xd_order ?xga_order ?xgt_order ?xcl_order ?xm_order ?xk_order ?xnr_order ?xnw_order ?xg_ask ?xc_ask ?xt_ask ?xb_ask ?xd_ask ?xga_ask ?xgt_ask ?xcl_ask ?xm_ask ?xk_ask ?xnr_ask ?xnw_ask ?xs_web_web ?xs_web_table ?xs_web_name ?xs_web_rest ?xs_web_order ?xs_web_ask ?xs_web_long ?xs_web_val ?xs_table_web ?xs_table_table ?xs_table_name ?xs_table_rest ?xs_table_order ?xs_table_ask ?xs_table_long ?xs_table_val ?xs_name_web ?xs_name_table ?xs_name_name ?xs_name_rest ?xs_name_order ?xs_name_ask ?xs_name_long ?xs_name_val ?xs_rest_web ?xs_rest_table ?xs_rest_name ?xs_rest_rest ?xs_rest_order ?xs_rest_ask ?xs_rest_long ?xs_rest_val ?xs_order_web ?xs_order_table ?xs_order_name ?xs_order_rest ?xs_order_order ?xs_order_ask ?xs_order_long ?xs_order_val ?xs_ask_web ?xs_ask_table ?xs_ask_name ?xs_ask_rest ?xs_ask_order ?xs_ask_ask ?xs_ask_long ?xs_ask_val ?xhn ?xht ?xve ?xst_web ?xst_table ?xst_name ?xst_rest ?xst_order ?xst_ask ?xe_ask ?xL_name ?xsa_name ?xin_name ?xti_name ?l22 ?c22 ?k22 ?xe_order ?xe_rest ?xL_table ?xsa_table ?xin_table ?xti_table ?l23 ?c23 ?k23 ?xL_web ?xsa_web ?xin_web ?xti_web ?l24 ?c24 ?k24 ?a0 ?l0 ?c0 ?k0 ?a1 ?l1 ?c1 ?k1 ?a2 ?l2 ?c2 ?k2 ?a3 ?l3 ?c3 ?k3 ?a4 ?l4 ?c4 ?k4 ?a5 ?l5 ?c5 ?k5 ?a6 ?l6 ?c6 ?k6 ?a7 ?l7 ?c7 ?k7 ?a8 ?l8 ?c8 ?k8 ?a9 ?l9 ?c9 ?k9 ?a10 ?l10 ?c10 ?k10 ?a11 ?l11 ?c11 ?k11 ?a12 ?l12 ?c12 ?k12 ?a13 ?l13 ?c13 ?k13 ?a14 ?l14 ?c14 ?k14 ?a15 ?l15 ?c15 ?k15 ?b_len ?b_range ?b_max ?b_min ?b_abs ?b_sum ?b_all ?b_int ?b_str ?b_list ?b_tuple ?b_sorted ?b_isinstance ?b_dict ?b_zip ?b_enumerate ?b_set ?b_bool
    (case xg_long => k_is)
    (case xc_long => k_is)
    (case xt_long => k_is)
    (case xb_long => k_is)
    (case xd_long => k_is)
    (case xr_long => k_is)
    (case xa_long => k_is)
    (case xi_long => k_is)
    (case xg_web => k_is)
    (case xc_web => k_is)
    (case xt_web => k_is)
    (case xb_web => k_is)
    (case xd_web => k_is)
    (case xga_web => k_is)
    (case xgt_web => k_is)
    (case xcl_web => k_is)
    (case xm_web => k_is)
    (case xk_web => k_is)
    (case xnr_web => k_is)
    (case xnw_web => k_is)
    (case xg_table => k_is)
    (case xc_table => k_is)
    (case xt_table => k_is)
    (case xb_table => k_is)
    (case xd_table => k_is)
    (case xga_table => k_is)
    (case xgt_table => k_is)
    (case xcl_table => k_is)
    (case xm_table => k_is)
    (case xk_table => k_is)
    (case xnr_table => k_is)
    (case xnw_table => k_is)
    (case xg_name => k_is)
    (case xc_name => k_is)
    (case xt_name => k_is)
    (case xb_name => k_is)
    (case xd_name => k_is)
    (case xga_name => k_is)
    (case xgt_name => k_is)
    (case xcl_name => k_is)
    (case xm_name => k_is)
    (case xk_name => k_is)
    (case xnr_name => k_is)
    (case xnw_name => k_is)
    (case xg_rest => k_is)
    (case xc_rest => k_is)
    (case xt_rest => k_is)
    (case xb_rest => k_is)
    (case xd_rest => k_is)
    (case xga_rest => k_is)
    (case xgt_rest => k_is)
    (case xcl_rest => k_is)
    (case xm_rest => k_is)
    (case xk_rest => k_is)
    (case xnr_rest => k_is)
    (case xnw_rest => k_is)
    (case xg_order => k_is)
    (case xc_order => k_is)
    (case xt_order => k_is)
    (case xb_order => k_is)
    (case xd_order => k_is)
    (case xga_order => k_is)
    (case xgt_order => k_is)
    (case xcl_order => k_is)
    (case xm_order => k_is)
    (case xk_order => k_is)
    (case xnr_order => k_is)
    (case xnw_order => k_is)
    (case xg_ask => k_is)
    (case xc_ask => k_is)
    (case xt_ask => k_is)
    (case xb_ask => k_is)
    (case xd_ask => k_is)
    (case xga_ask => k_is)
    (case xgt_ask => k_is)
    (case xcl_ask => k_is)
    (case xm_ask => k_is)
    (case xk_ask => k_is)
    (case xnr_ask => k_is)
    (case xnw_ask => k_is)
    (case xs_web_web => first | rfl | k_is)
    (case xs_web_table => first | rfl | k_is)
    (case xs_web_name => first | rfl | k_is)
    (case xs_web_rest => first | rfl | k_is)
    (case xs_web_order => first | rfl | k_is)
    (case xs_web_ask => first | rfl | k_is)
    (case xs_web_long => first | rfl | k_is)
    (case xs_web_val => first | rfl | k_is)
    (case xs_table_web => first | rfl | k_is)
    (case xs_table_table => first | rfl | k_is)
    (case xs_table_name => first | rfl | k_is)
    (case xs_table_rest => first | rfl | k_is)
    (case xs_table_order => first | rfl | k_is)
    (case xs_table_ask => first | rfl | k_is)
    (case xs_table_long => first | rfl | k_is)
    (case xs_table_val => first | rfl | k_is)
    (case xs_name_web => first | rfl | k_is)
    (case xs_name_table => first | rfl | k_is)
    (case xs_name_name => first | rfl | k_is)
    (case xs_name_rest => first | rfl | k_is)
    (case xs_name_order => first | rfl | k_is)
    (case xs_name_ask => first | rfl | k_is)
    (case xs_name_long => first | rfl | k_is)
    (case xs_name_val => first | rfl | k_is)
    (case xs_rest_web => first | rfl | k_is)
    (case xs_rest_table => first | rfl | k_is)
    (case xs_rest_name => first | rfl | k_is)
    (case xs_rest_rest => first | rfl | k_is)
    (case xs_rest_order => first | rfl | k_is)
    (case xs_rest_ask => first | rfl | k_is)
    (case xs_rest_long => first | rfl | k_is)
    (case xs_rest_val => first | rfl | k_is)
    (case xs_order_web => first | rfl | k_is)
    (case xs_order_table => first | rfl | k_is)
    (case xs_order_name => first | rfl | k_is)
    (case xs_order_rest => first | rfl | k_is)
    (case xs_order_order => first | rfl | k_is)
    (case xs_order_ask => first | rfl | k_is)
    (case xs_order_long => first | rfl | k_is)
    (case xs_order_val => first | rfl | k_is)
    (case xs_ask_web => first | rfl | k_is)
    (case xs_ask_table => first | rfl | k_is)
    (case xs_ask_name => first | rfl | k_is)
    (case xs_ask_rest => first | rfl | k_is)
    (case xs_ask_order => first | rfl | k_is)
    (case xs_ask_ask => first | rfl | k_is)
    (case xs_ask_long => first | rfl | k_is)
    (case xs_ask_val => first | rfl | k_is)
    (case xhn => k_is)
    (case xht => k_is)
    (case xve => k_is)
    (case xst_web => k_is)
    (case xst_table => k_is)
    (case xst_name => k_is)
    (case xst_rest => k_is)
    (case xst_order => k_is)
    (case xst_ask => k_is)
    (case xe_ask => k_exc)
    (case xL_name => k_is)
    (case xsa_name => k_is)
    (case xin_name => k_is)
    (case xti_name => k_is)
    (case l22 => k_is)
    (case c22 => k_is)
    (case k22 => k_is)
    (case xe_order => k_exc)
    (case xe_rest => k_exc)
    (case xL_table => k_is)
    (case xsa_table => k_is)
    (case xin_table => k_is)
    (case xti_table => k_is)
    (case l23 => k_is)
    (case c23 => k_is)
    (case k23 => k_is)
    (case xL_web => k_is)
    (case xsa_web => k_is)
    (case xin_web => k_is)
    (case xti_web => k_is)
    (case l24 => k_is)
    (case c24 => k_is)
    (case k24 => k_is)
    (case a0 => k_is)
    (case l0 => k_is)
    (case c0 => k_is)
    (case k0 => k_is)
    (case a1 => k_is)
    (case l1 => k_is)
    (case c1 => k_is)
    (case k1 => k_is)
    (case a2 => k_is)
    (case l2 => k_is)
    (case c2 => k_is)
    (case k2 => k_is)
    (case a3 => k_is)
    (case l3 => k_is)
    (case c3 => k_is)
    (case k3 => k_is)
    (case a4 => k_is)
    (case l4 => k_is)
    (case c4 => k_is)
    (case k4 => k_is)
    (case a5 => k_is)
    (case l5 => k_is)
    (case c5 => k_is)
    (case k5 => k_is)
    (case a6 => k_is)
    (case l6 => k_is)
    (case c6 => k_is)
    (case k6 => k_is)
    (case a7 => k_is)
    (case l7 => k_is)
    (case c7 => k_is)
    (case k7 => k_is)
    (case a8 => k_is)
    (case l8 => k_is)
    (case c8 => k_is)
    (case k8 => k_is)
    (case a9 => k_is)
    (case l9 => k_is)
    (case c9 => k_is)
    (case k9 => k_is)
    (case a10 => k_is)
    (case l10 => k_is)
    (case c10 => k_is)
    (case k10 => k_is)
    (case a11 => k_is)
    (case l11 => k_is)
    (case c11 => k_is)
    (case k11 => k_is)
    (case a12 => k_is)
    (case l12 => k_is)
    (case c12 => k_is)
    (case k12 => k_is)
    (case a13 => k_is)
    (case l13 => k_is)
    (case c13 => k_is)
    (case k13 => k_is)
    (case a14 => k_is)
    (case l14 => k_is)
    (case c14 => k_is)
    (case k14 => k_is)
    (case a15 => k_is)
    (case l15 => k_is)
    (case c15 => k_is)
    (case k15 => k_is)
    (case b_len => k_is)
    (case b_range => k_is)
    (case b_max => k_is)
    (case b_min => k_is)
    (case b_abs => k_is)
    (case b_sum => k_is)
    (case b_all => k_is)
    (case b_int => k_is)
    (case b_str => k_is)
    (case b_list => k_is)
    (case b_tuple => k_is)
    (case b_sorted => k_is)
    (case b_isinstance => k_is)
    (case b_dict => k_is)
    (case b_zip => k_is)
    (case b_enumerate => k_is)
    (case b_set => k_is)
    (case b_bool => k_is)

