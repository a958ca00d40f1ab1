import PyProof.Rows.All
import HandS.ForMost
import HandS.Evl
import HandS.TupAny
import HandS.Conv
import HandS.Strs
import HandS.Wide
import HandS.Flow
import HandS.SortInts
import HandS.Zip
import HandS.TupLen
import HandS.IsInst
import KE.KDictSum
import KE.KDictCopyH
import PyProof.ListStr
import PySem.Challenge.RW_walksago_k66_beside
set_option Elab.async false
set_option linter.all false
set_option maxRecDepth 100000
set_option maxHeartbeats 4000000
/-! Wk: new tuples are kept with their object (it has no dict of its own: a method of theirs may be called). -/
namespace Wk
open PySem PySem.Spec PyProof.Rows L2 Evl
/-- a plain tuple -/
def PTu (G : Hp) (a : Addr) (vs : List V) : Prop := ∃ o : Obj, G a = some (.frz o (.tup vs)) ∧ o.cls = .type "tuple" ∧ o.dict = none
theorem PTu.sq {K : PySem.W.Frag} {G : Hp} {a : Addr} {vs : List V} (h : PTu G a vs) : SqT K G a vs := let ⟨o, h, _⟩ := h; .inl (.inr ⟨o, h⟩)
theorem PTu.mono {G G' : Hp} {a : Addr} {vs : List V} (h : PTu G a vs) (e : ∀ a u, G a = some u → G' a = some u) : PTu G' a vs := let ⟨o, h, c⟩ := h; ⟨o, e _ _ h, c⟩
def NewT (H : Hp) (xs : List V) (Q : VK) : Prop := ∀ (p : Addr) (o : Obj), o.cls = .type "tuple" → o.dict = none → H p = none → Q (.ref p) (upd H p (.frz o (.tup xs)))
section
variable {X : Cx} {pins : List (Addr × Obj)} {σ : L2.St} {H : Hp} {s : Shared} {Q : VK} {xs : List V} {es : List Expr} {t : TA} {pos : Pos}
theorem new_tup {h' : Heap} {tk : Nat} {its : List Value} (I : Inv X pins σ H { s with heap := h', toks := tk }) (rv : Vals xs its) (hz : xs.length ≤ sizeLine) (q : NewT H xs Q) :
    EP X pins σ Q (.ref h'.objs.size) { s with heap := h'.push { cls := .type "tuple", data := .seq its.toArray }, toks := tk } := by
  refine ⟨.ref h'.objs.size, upd H h'.objs.size (.frz { cls := .type "tuple", data := .seq its.toArray } (.tup xs)), ?_, rfl, q _ _ rfl rfl (I.hok.fresh (Nat.le_refl _))⟩
  exact I.laid (t' := tk) (fun b o e => Heap.get?_push_of_some _ e) (Nat.le_refl _) ⟨Heap.get?_push_size _ rfl, hz, its, rv, IsTup.new _ _⟩
theorem pe_tupF {x1} (h : PA X es t) : PE X (.Tuple es x1 pos) (fun σ H Q => t σ H fun xs H1 => xs.length ≤ sizeLine ∧ NewT H1 xs Q) := by
  refine ⟨fun pins s σ H Q I hq => ?_⟩
  refine wpAny_Tuple_spliced (thn (h.run pos pins s σ H _ I hq) fun us s1 ⟨xs, H1, I1, r, z, q⟩ => ⟨by rw [← r.length]; exact z, ?_⟩)
  exact new_tup (h' := s1.heap) (tk := s1.toks) (s := s1) I1 r z q
def rCatF (K : PySem.W.Frag) : R2 := fun x y H Q => ∃ a b xs ys, x = .ref a ∧ y = .ref b ∧ SqT K H a xs ∧ SqT K H b ys ∧ xs.length + ys.length ≤ sizeLine ∧
  (xs = [] → Q (.ref b) H) ∧ (xs ≠ [] → ys = [] → Q (.ref a) H) ∧ (xs ≠ [] → ys ≠ [] → NewT H (xs ++ ys) Q)
theorem op_catF : OpR X (binaryOp .Add) (rCatF X.K) := by
  intro pins s σ H x y v u Q I rx ry h
  obtain ⟨a, b, xs, ys, rfl, rfl, ha, hb, hz, q0, q1, q2⟩ := h
  cases rx
  cases ry
  obtain ⟨its, r1, p1, _⟩ := I.tuple ha
  obtain ⟨its2, r2, p2, _⟩ := I.tuple hb
  by_cases hx : xs = []
  · subst hx
    cases r1
    exact cat_tup0 p1 p2 ⟨.ref b, H, I, rfl, q0 rfl⟩
  · refine HT.cat_tup p1 p2 (fun z => hx (r1.nil_iff.mp z)) (fun z => ⟨.ref a, H, I, rfl, q1 hx (r2.nil_iff.mp z)⟩) (fun z => ?_) (by rw [← r1.length, ← r2.length]; exact hz)
    have := new_tup (h' := s.heap) (tk := s.toks) (s := s) (xs := xs ++ ys) (Q := Q) I (r1.append r2) (by rw [List.length_append]; exact hz) (q2 hx (fun w => z (r2.nil_iff.mpr w)))
    simpa using this
def rSlF (K : PySem.W.Frag) : V → Option Int → Option Int → Hp → VK → Prop := fun x lo hi H Q => ∃ a xs, x = .ref a ∧ SqT K H a xs ∧
  (HT.sIx xs.length 0 lo = 0 ∧ HT.sIx xs.length xs.length hi = xs.length → Q (.ref a) H) ∧ (¬ (HT.sIx xs.length 0 lo = 0 ∧ HT.sIx xs.length xs.length hi = xs.length) → NewT H (cutV xs lo hi) Q)
theorem sl_tupF : SlR X (rSlF X.K) := by
  intro pins s σ H x v vl vu lo hi sl Q I rx hs pl pu h
  obtain ⟨a, xs, rfl, hx, q1, q2⟩ := h
  cases rx
  obtain ⟨its, r, ht, hz⟩ := I.tuple hx
  have hlen : its.toArray.size = xs.length := by rw [List.size_toArray]; exact r.length.symm
  refine ⟨"tuple", _, PyProof.Rows.slot_tuple_getitem.lookup, ht.typeIs, ?_⟩
  by_cases hw : HT.sIx xs.length 0 lo = 0 ∧ HT.sIx xs.length xs.length hi = xs.length
  · exact getItem_tuple_whole ht hs pl pu (by rw [hlen]; exact hw) ⟨.ref a, H, I, rfl, q1 hw⟩
  · refine HT.getItem_tuple_cut ht hs pl pu (by rw [hlen]; exact hw) ?_ (by rw [hlen]; exact hz)
    rw [hlen]
    exact new_tup (h' := s.heap) (tk := s.toks) (s := s) (xs := cutV xs lo hi) (Q := Q) I ((r.drop (HT.sIx xs.length 0 lo)).take (HT.sIx xs.length xs.length hi - HT.sIx xs.length 0 lo)) (Nat.le_trans (cutV_length xs lo hi) hz) (q2 hw)
theorem call_tuple_ofF : CallR X (.type "tuple") (fun xs H Q => ∃ p ys, xs = [.ref p] ∧ ((SqL X.K H p ys ∧ NewT H ys Q) ∨ (SqT X.K H p ys ∧ Q (.ref p) H))) := by
  intro pins s σ H xs us Q I r h
  obtain ⟨p, ys, rfl, h⟩ := h
  obtain ⟨u, rfl, rx⟩ := vals1 r
  cases rx
  rcases h with ⟨hq, q⟩ | ⟨hq, q⟩
  · obtain ⟨its, r', pl, hz⟩ := I.list hq
    have hlen := r'.length
    refine call_tuple_list pl.isList (fun h' kp => ?_) (by simp only [List.size_toArray] <;> omega)
    have I1 : Inv X pins σ H { s with heap := h' } := I.kept (t' := s.toks) kp
    exact new_tup (h' := h') (tk := s.toks) (s := s) I1 r' hz q
  · obtain ⟨its, r', pl, hz⟩ := I.tuple hq
    exact call_tuple_same pl ⟨.ref p, H, I, rfl, q⟩
theorem pe_tupRgF {p : Pos} {e : Expr} {te : L2.St → Hp → (Int → Int → Hp → Prop) → Prop} (hc : X.calm = true) (hg : Gl X "tuple") (hm : X.mg "tuple" = none) (he : PRg X e te) (na : starEach [e] X.env = (false, eval e X.env) :: starEach [] X.env := by rfl) :
    PE X (.Call (.Name "tuple" p) [e] [] pos) (fun σ H Q => te σ H fun a b H1 => RgOk a b ∧ NewT H1 (rgV a b) Q) := by
  refine ⟨fun pins s σ H Q I h => ?_⟩
  refine Call_ (ld_blt I hg hm boot_tuple (PyProof.Rows.callWith_type1 (args_cons (thn (he pins s σ H _ I h) fun x s1 ⟨r, a, b, t, u, v, H1, ex, hr, I1, ok, q⟩ => args_nil ?_) na) na))
  subst ex
  obtain ⟨b1, b2, b3, b4, b5⟩ := ok
  refine call_tuple_range (n := (b - a).toNat) (I1.ok.hd hc) hr (small_one b1 b2 b3 b4) (rangeSize_nat a b) b5 fun h' tk acc hk hi => ?_
  have I2 : Inv X pins σ H1 { s1 with heap := h', toks := tk } := I1.kept hk
  have := new_tup (h' := h') (tk := tk) (s := s1) (xs := rgV a b) (Q := Q) I2 (vals_rg hi) (by rw [rgV_length, sizeLine_eq]; omega) q
  simpa using this
/-- t.index(x) -/
def tIdx (to : TE) (t : TA) : TE := fun σ H Q => to σ H fun x H1 => (∃ p xs, x = .ref p ∧ PTu H1 p xs) ∧ t σ H1 fun zs H2 => ∃ p, ∃ ys : List Str, ∃ z j, x = .ref p ∧ zs = [.str z] ∧ SqT X.K H2 p (ys.map V.str) ∧ ys[j]? = some z ∧ (∀ m, m < j → ys[m]? ≠ some z) ∧ Q (.int (j : Nat)) H2
theorem pe_tupIdx {o e : Expr} {apos cpos : Pos} {to : TE} {t : TA} (ho : PE X o to) (ha : PA X (e :: es) t)
    (hbase : attributeBase o "index" X.env (eval o X.env) = eval o X.env)
    (hfew : ((backTo cpos (starEach (e :: es) X.env)).all (fun x => !x.1) && (backToKw cpos (keywordEach [] X.env)).all (fun x => x.1.isSome)
      && decide ((e :: es).length + ([] : List Keyword).length + (if ([] : List Keyword).isEmpty then 0 else 1) < 30)) = true)
    (hline : (apos.endLine == cpos.line) = true) (hs : starEach (e :: es) X.env = (false, eval e X.env) :: starEach es X.env) (hplain : (backTo cpos (starEach es X.env)).any (·.1) = false) :
    PE X (.Call (.Attribute o "index" apos) (e :: es) [] cpos) (tIdx (X := X) to t) := by
  refine ⟨fun pins s σ H Q I h => ?_⟩
  refine wpAny_Call_method_late hbase hfew hline rfl (thn (ho.run pins s σ H _ I h) fun v s1 ⟨x, H1, I1, r1, ty, q1⟩ => ?_)
  obtain ⟨p, xs, rfl, ob, hp, hc, hd⟩ := ty
  obtain rfl : v = Value.ref p := r1
  have hg : s1.heap.get? p = some ob := (I1.hok p _ hp).1
  refine ⟨"tuple", "tuple.index", PySem.F.plainAttrs_tuple, PySem.F.slot_tuple_index, PySem.F.type_tuple_index, ⟨ob, hg, hc⟩, fun a ea => ?_, ?_⟩
  · cases ea; exact ⟨ob, hg, hd⟩
  have hA := ha.run cpos pins s1 σ H1 _ I1 q1
  rw [hs] at hA ⊢
  refine Calls.callWith_builtin (by show (false || (backTo cpos (starEach es X.env)).any (·.1)) = false; rw [hplain] <;> rfl) (Calls.evalArgs_plain ?_)
  exact thn hA fun us s2 ⟨vs, H2, I2, r2, q2⟩ => mt_tup_index pins s2 σ H2 (.ref p) vs (.ref p) us Q I2 rfl r2 q2
end
end Wk

/-! Wk: data, frozen and owned; judgements over them. -/
namespace Wk
open PySem PySem.Spec PyProof.Rows L2 Evl

/-- plain data -/
inductive D where
  | non | bl (b : Bool) | int (i : Int) | str (s : Str)
  | tup (xs : List D) | ktup (xs : List D) | lst (xs : List D) | rlst (xs : List D)
  | dK (ks : List Key) (xs : List D) | dT (ks : List (List Key)) (xs : List D)
  | adr (a : Addr) | ty (n : String)

mutual
def Rep (K : PySem.W.Frag) (G : Hp) : D → V → Prop
  | .non, v => v = .non
  | .bl b, v => v = .bl b
  | .int i, v => v = .int i
  | .str s, v => v = .str s
  | .tup ds, v => ∃ a vs, v = .ref a ∧ PTu G a vs ∧ RepL K G ds vs
  | .ktup ds, v => ∃ a vs, v = .ref a ∧ G a = some (.tup vs) ∧ RepL K G ds vs
  | .lst ds, v => ∃ a vs, v = .ref a ∧ G a = some (.lst vs) ∧ RepL K G ds vs
  | .rlst ds, v => ∃ a vs, v = .ref a ∧ SqL K G a vs ∧ RepL K G ds vs
  | .dK ks ds, v => ∃ a kvs, v = .ref a ∧ G a = some (.dK kvs) ∧ kvs.map (·.1) = ks ∧ RepL K G ds (kvs.map (·.2))
  | .dT ks ds, v => ∃ a kvs, v = .ref a ∧ G a = some (.dT kvs) ∧ kvs.map (·.1) = ks ∧ RepL K G ds (kvs.map (·.2))
  | .adr a, v => v = .ref a
  | .ty n, v => v = .ty n
def RepL (K : PySem.W.Frag) (G : Hp) : List D → List V → Prop
  | [], vs => vs = []
  | d :: ds, vs => ∃ v r, vs = v :: r ∧ Rep K G d v ∧ RepL K G ds r
end

section
variable {K : PySem.W.Frag} {G G' H H' : Hp}
mutual
theorem Rep.mono (e : Ex G G') : ∀ (d : D) {v : V}, Rep K G d v → Rep K G' d v
  | .non, _, h => h
  | .bl _, _, h => h
  | .int _, _, h => h
  | .str _, _, h => h
  | .tup ds, _, h => by
    unfold Rep at h ⊢
    obtain ⟨a, vs, rfl, s, r⟩ := h
    exact ⟨a, vs, rfl, s.mono e, RepL.mono e ds r⟩
  | .ktup ds, _, h => by
    unfold Rep at h ⊢
    obtain ⟨a, vs, rfl, s, r⟩ := h
    exact ⟨a, vs, rfl, e _ _ s, RepL.mono e ds r⟩
  | .lst ds, _, h => by
    unfold Rep at h ⊢
    obtain ⟨a, vs, rfl, s, r⟩ := h
    exact ⟨a, vs, rfl, e _ _ s, RepL.mono e ds r⟩
  | .rlst ds, _, h => by
    unfold Rep at h ⊢
    obtain ⟨a, vs, rfl, s, r⟩ := h
    exact ⟨a, vs, rfl, ex_l e s, RepL.mono e ds r⟩
  | .dK ks ds, _, h => by
    unfold Rep at h ⊢
    obtain ⟨a, vs, rfl, s, k, r⟩ := h
    exact ⟨a, vs, rfl, e _ _ s, k, RepL.mono e ds r⟩
  | .dT ks ds, _, h => by
    unfold Rep at h ⊢
    obtain ⟨a, vs, rfl, s, k, r⟩ := h
    exact ⟨a, vs, rfl, e _ _ s, k, RepL.mono e ds r⟩
  | .adr _, _, h => h
  | .ty _, _, h => h
theorem RepL.mono (e : Ex G G') : ∀ (ds : List D) {vs : List V}, RepL K G ds vs → RepL K G' ds vs
  | [], _, h => h
  | d :: ds, _, h => by
    unfold RepL at h ⊢
    obtain ⟨v, r, rfl, a, b⟩ := h
    exact ⟨v, r, rfl, Rep.mono e d a, RepL.mono e ds b⟩
end
theorem RepL.length : ∀ {ds : List D} {vs : List V}, RepL K G ds vs → vs.length = ds.length
  | [], _, h => by unfold RepL at h; subst h; rfl
  | _ :: ds, _, h => by
    unfold RepL at h
    obtain ⟨v, r, rfl, _, b⟩ := h
    rw [List.length_cons, List.length_cons, RepL.length b]
theorem RepL.get : ∀ {ds : List D} {vs : List V} {i : Nat} {d : D}, RepL K G ds vs → ds[i]? = some d → ∃ v, vs[i]? = some v ∧ Rep K G d v
  | [], _, _, _, _, e => by simp at e
  | _ :: _, _, 0, _, h, e => by
    unfold RepL at h
    obtain ⟨v, r, rfl, a, b⟩ := h
    simp at e; subst e
    exact ⟨v, rfl, a⟩
  | _ :: ds, _, i + 1, d, h, e => by
    unfold RepL at h
    obtain ⟨v, r, rfl, a, b⟩ := h
    obtain ⟨w, h1, h2⟩ := RepL.get (i := i) (d := d) b (by simpa using e)
    exact ⟨w, by simpa using h1, h2⟩
theorem RepL.getv : ∀ {ds : List D} {vs : List V} {i : Nat} {v : V}, RepL K G ds vs → vs[i]? = some v → ∃ d, ds[i]? = some d ∧ Rep K G d v
  | [], _, _, _, h, e => by unfold RepL at h; subst h; simp at e
  | _ :: _, _, 0, _, h, e => by
    unfold RepL at h
    obtain ⟨v, r, rfl, a, b⟩ := h
    simp at e; subst e
    exact ⟨_, rfl, a⟩
  | _ :: ds, _, i + 1, d, h, e => by
    unfold RepL at h
    obtain ⟨v, r, rfl, a, b⟩ := h
    obtain ⟨w, h1, h2⟩ := RepL.getv (i := i) b (by simpa using e)
    exact ⟨w, by simpa using h1, h2⟩
theorem RepL.nil : RepL K G [] [] := by unfold RepL; rfl
theorem RepL.cons {d : D} {v : V} {ds : List D} {vs : List V} (a : Rep K G d v) (b : RepL K G ds vs) : RepL K G (d :: ds) (v :: vs) := by
  unfold RepL; exact ⟨v, vs, rfl, a, b⟩
theorem RepL.append : ∀ {ds es : List D} {vs ws : List V}, RepL K G ds vs → RepL K G es ws → RepL K G (ds ++ es) (vs ++ ws)
  | [], _, _, _, h, h' => by unfold RepL at h; subst h; exact h'
  | _ :: ds, _, _, _, h, h' => by
    unfold RepL at h
    obtain ⟨v, r, rfl, a, b⟩ := h
    exact RepL.cons a (RepL.append b h')
theorem RepL.take : ∀ {ds : List D} {vs : List V} (n : Nat), RepL K G ds vs → RepL K G (ds.take n) (vs.take n)
  | [], _, n, h => by unfold RepL at h; subst h; simp; exact RepL.nil
  | _ :: ds, _, 0, _ => by simp; exact RepL.nil
  | _ :: ds, _, n + 1, h => by
    unfold RepL at h
    obtain ⟨v, r, rfl, a, b⟩ := h
    exact RepL.cons a (RepL.take n b)
theorem RepL.drop : ∀ {ds : List D} {vs : List V} (n : Nat), RepL K G ds vs → RepL K G (ds.drop n) (vs.drop n)
  | [], _, n, h => by unfold RepL at h; subst h; simp; exact RepL.nil
  | _ :: ds, _, 0, h => h
  | _ :: ds, _, n + 1, h => by
    unfold RepL at h
    obtain ⟨v, r, rfl, a, b⟩ := h
    exact RepL.drop n b
theorem RepL.set {d : D} {v : V} (q : Rep K G d v) : ∀ {ds : List D} {vs : List V} (n : Nat), RepL K G ds vs → RepL K G (ds.set n d) (vs.set n v)
  | [], _, n, h => by unfold RepL at h; subst h; simp; exact RepL.nil
  | _ :: ds, _, 0, h => by
    unfold RepL at h
    obtain ⟨w, r, rfl, a, b⟩ := h
    exact RepL.cons q b
  | _ :: ds, _, n + 1, h => by
    unfold RepL at h
    obtain ⟨w, r, rfl, a, b⟩ := h
    exact RepL.cons a (RepL.set q n b)
theorem RepL.eraseIdx : ∀ {ds : List D} {vs : List V} (n : Nat), RepL K G ds vs → RepL K G (ds.eraseIdx n) (vs.eraseIdx n)
  | [], _, n, h => by unfold RepL at h; subst h; simp; exact RepL.nil
  | _ :: ds, _, 0, h => by
    unfold RepL at h
    obtain ⟨w, r, rfl, a, b⟩ := h
    exact b
  | _ :: ds, _, n + 1, h => by
    unfold RepL at h
    obtain ⟨w, r, rfl, a, b⟩ := h
    exact RepL.cons a (RepL.eraseIdx n b)
theorem RepL.reverse : ∀ {ds : List D} {vs : List V}, RepL K G ds vs → RepL K G ds.reverse vs.reverse
  | [], _, h => by unfold RepL at h; subst h; exact RepL.nil
  | _ :: ds, _, h => by
    unfold RepL at h
    obtain ⟨w, r, rfl, a, b⟩ := h
    rw [List.reverse_cons, List.reverse_cons]
    exact RepL.append (RepL.reverse b) (RepL.cons a RepL.nil)
/-- lists of plain things, as values -/
theorem RepL.ints : ∀ {ns : List Int} {vs : List V}, RepL K G (ns.map D.int) vs → vs = ns.map V.int
  | [], _, h => by unfold RepL at h; exact h
  | n :: ns, _, h => by
    rw [List.map_cons] at h
    unfold RepL at h
    obtain ⟨w, r, rfl, a, b⟩ := h
    unfold Rep at a
    rw [a, RepL.ints b, List.map_cons]
theorem RepL.of_ints : ∀ {ns : List Int}, RepL K G (ns.map D.int) (ns.map V.int)
  | [] => RepL.nil
  | n :: ns => RepL.cons (by unfold Rep; rfl) RepL.of_ints
theorem RepL.strs : ∀ {ns : List Str} {vs : List V}, RepL K G (ns.map D.str) vs → vs = ns.map V.str
  | [], _, h => by unfold RepL at h; exact h
  | n :: ns, _, h => by
    rw [List.map_cons] at h
    unfold RepL at h
    obtain ⟨w, r, rfl, a, b⟩ := h
    unfold Rep at a
    rw [a, RepL.strs b, List.map_cons]
theorem RepL.of_strs : ∀ {ns : List Str}, RepL K G (ns.map D.str) (ns.map V.str)
  | [] => RepL.nil
  | n :: ns => RepL.cons (by unfold Rep; rfl) RepL.of_strs
theorem RepL.bls : ∀ {ns : List Bool} {vs : List V}, RepL K G (ns.map D.bl) vs → vs = ns.map V.bl
  | [], _, h => by unfold RepL at h; exact h
  | n :: ns, _, h => by
    rw [List.map_cons] at h
    unfold RepL at h
    obtain ⟨w, r, rfl, a, b⟩ := h
    unfold Rep at a
    rw [a, RepL.bls b, List.map_cons]
theorem rep_int {i : Int} : Rep K G (.int i) (.int i) := by unfold Rep; rfl
theorem rep_bl {i : Bool} : Rep K G (.bl i) (.bl i) := by unfold Rep; rfl
theorem rep_str {i : Str} : Rep K G (.str i) (.str i) := by unfold Rep; rfl
theorem rep_non : Rep K G .non .non := by unfold Rep; rfl
theorem rep_adr {a : Addr} : Rep K G (.adr a) (.ref a) := by unfold Rep; rfl
theorem rep_tup {a : Addr} {ds : List D} {vs : List V} (h : PTu G a vs) (r : RepL K G ds vs) : Rep K G (.tup ds) (.ref a) := by
  unfold Rep; exact ⟨a, vs, rfl, h, r⟩
theorem rep_lst {a : Addr} {ds : List D} {vs : List V} (h : G a = some (.lst vs)) (r : RepL K G ds vs) : Rep K G (.lst ds) (.ref a) := by
  unfold Rep; exact ⟨a, vs, rfl, h, r⟩
end

/-- what is owned -/
inductive MO where
  | lst (ds : List D)
  | dK (ks : List Key) (ds : List D)
  | dT (ks : List (List Key)) (ds : List D)
  | ins (C : Addr) (fs : List Str) (ds : List D)
  | gone
abbrev Mem := List (Addr × MO)
def MRep (K : PySem.W.Frag) (G H : Hp) (a : Addr) : MO → Prop
  | .lst ds => ∃ vs, H a = some (.lst vs) ∧ RepL K G ds vs
  | .dK ks ds => ∃ kvs, H a = some (.dK kvs) ∧ kvs.map (·.1) = ks ∧ RepL K G ds (kvs.map (·.2))
  | .dT ks ds => ∃ kvs, H a = some (.dT kvs) ∧ kvs.map (·.1) = ks ∧ RepL K G ds (kvs.map (·.2))
  | .ins C fs ds => ∃ dx kvs, H a = some (.ins C dx kvs) ∧ kvs.map (·.1) = fs ∧ RepL K G ds (kvs.map (·.2))
  | .gone => ∃ o, H a = some o
theorem MRep.there {K : PySem.W.Frag} {G H : Hp} {a : Addr} : ∀ {o : MO}, MRep K G H a o → ∃ u, H a = some u
  | .lst _, ⟨_, h, _⟩ => ⟨_, h⟩
  | .dK _ _, ⟨_, h, _⟩ => ⟨_, h⟩
  | .dT _ _, ⟨_, h, _⟩ => ⟨_, h⟩
  | .ins _ _ _, ⟨_, _, h, _⟩ => ⟨_, h⟩
  | .gone, h => h
theorem MRep.keep {K : PySem.W.Frag} {G G' H H' : Hp} {a : Addr} (e : Ex G G') (k : H' a = H a) : ∀ {o : MO}, MRep K G H a o → MRep K G' H' a o
  | .lst _, ⟨_, h, r⟩ => ⟨_, k.trans h, RepL.mono e _ r⟩
  | .dK _ _, ⟨_, h, q, r⟩ => ⟨_, k.trans h, q, RepL.mono e _ r⟩
  | .dT _ _, ⟨_, h, q, r⟩ => ⟨_, k.trans h, q, RepL.mono e _ r⟩
  | .ins _ _ _, ⟨_, _, h, q, r⟩ => ⟨_, _, k.trans h, q, RepL.mono e _ r⟩
  | .gone, ⟨_, h⟩ => ⟨_, k.trans h⟩
structure Wd (K : PySem.W.Frag) (G : Hp) (M : Mem) (H : Hp) : Prop where
  ex : Ex G H
  own : ∀ p ∈ M, G p.1 = none ∧ MRep K G H p.1 p.2
  nd : (M.map (·.1)).Nodup
theorem nd_ix {α : Type} {N : List α} (hN : N.Nodup) {i j : Nat} {x : α} (a : N[i]? = some x) (b : N[j]? = some x) : i = j := by
  obtain ⟨h1, e1⟩ := List.getElem?_eq_some_iff.mp a
  obtain ⟨h2, e2⟩ := List.getElem?_eq_some_iff.mp b
  exact (List.getElem_inj hN).mp (e1.trans e2.symm)
section
variable {K : PySem.W.Frag} {G G' H H' : Hp} {M : Mem} {q : Addr} {o : HO} {mo mo' : MO}
theorem Wd.gfresh (w : Wd K G M H) (h : H q = none) : G q = none := by
  cases e : G q with
  | none => rfl
  | some u => rw [w.ex q u e] at h; cases h
theorem Wd.mfresh (w : Wd K G M H) (h : H q = none) : ∀ p ∈ M, p.1 ≠ q := fun p hp e => by
  obtain ⟨u, hu⟩ := (w.own p hp).2.there
  rw [e, h] at hu; cases hu
/-- a new object, frozen -/
theorem Wd.newF (w : Wd K G M H) (h : H q = none) (o : HO) : Wd K (upd G q o) M (upd H q o) where
  ex := fun a u e => by
    by_cases hq : a = q
    · subst hq; rw [upd_same] at e ⊢; exact e
    · rw [upd_ne hq] at e ⊢; exact w.ex a u e
  own := fun p hp => by
    have ne := w.mfresh h p hp
    obtain ⟨a, b⟩ := w.own p hp
    exact ⟨by rw [upd_ne ne]; exact a, b.keep (Ex.new (w.gfresh h)) (upd_ne ne)⟩
  nd := w.nd
theorem Wd.exF (w : Wd K G M H) (h : H q = none) (o : HO) : Ex G (upd G q o) := Ex.new (w.gfresh h)
/-- a new object, owned -/
theorem Wd.newO (w : Wd K G M H) (h : H q = none) (r : MRep K G (upd H q o) q mo) : Wd K G ((q, mo) :: M) (upd H q o) where
  ex := w.ex.trans (Ex.new h)
  own := fun p hp => by
    rcases List.mem_cons.mp hp with rfl | hp
    · exact ⟨w.gfresh h, r⟩
    · have ne := w.mfresh h p hp
      obtain ⟨a, b⟩ := w.own p hp
      exact ⟨a, b.keep (Ex.refl G) (upd_ne ne)⟩
  nd := by
    rw [List.map_cons, List.nodup_cons]
    refine ⟨fun hm => ?_, w.nd⟩
    obtain ⟨p, hp, e⟩ := List.mem_map.mp hm
    exact w.mfresh h p hp e
theorem Wd.perm {M' : Mem} (w : Wd K G M H) (p : M'.Perm M) : Wd K G M' H :=
  ⟨w.ex, fun x hx => w.own x (p.mem_iff.mp hx), (p.map (·.1)).nodup_iff.mpr w.nd⟩
theorem Wd.sub {M' : Mem} (w : Wd K G M H) (p : M'.Sublist M) : Wd K G M' H :=
  ⟨w.ex, fun x hx => w.own x (p.subset hx), w.nd.sublist (p.map _)⟩
/-- an owned object at place i is changed -/
theorem Wd.set {i : Nat} (w : Wd K G M H) (hi : M[i]? = some (q, mo)) (r : MRep K G (upd H q o) q mo') : Wd K G (M.set i (q, mo')) (upd H q o) where
  ex := by
    have hm : (q, mo) ∈ M := List.mem_of_getElem? hi
    exact w.ex.mut (w.own _ hm).1
  own := fun p hp => by
    have hm : (q, mo) ∈ M := List.mem_of_getElem? hi
    obtain ⟨j, hj⟩ := List.getElem?_of_mem hp
    by_cases hji : i = j
    · subst hji
      have hl : i < M.length := (List.getElem?_eq_some_iff.mp hi).1
      rw [List.getElem?_set_self hl] at hj
      cases hj
      exact ⟨(w.own _ hm).1, r⟩
    · rw [List.getElem?_set_ne hji] at hj
      have hpM : p ∈ M := List.mem_of_getElem? hj
      have ne : p.1 ≠ q := fun e => by
        have h1 : (M.map (·.1))[j]? = some q := by rw [List.getElem?_map, hj]; simp [e]
        have h2 : (M.map (·.1))[i]? = some q := by rw [List.getElem?_map, hi]; rfl
        have := nd_ix w.nd h1 h2
        exact hji this.symm
      obtain ⟨a, b⟩ := w.own p hpM
      exact ⟨a, b.keep (Ex.refl G) (upd_ne ne)⟩
  nd := by
    have : (M.set i (q, mo')).map (·.1) = M.map (·.1) := by
      rw [List.map_set]
      refine List.ext_getElem? fun j => ?_
      by_cases hji : i = j
      · subst hji
        have hl : i < M.length := (List.getElem?_eq_some_iff.mp hi).1
        rw [List.getElem?_set_self (by rw [List.length_map]; exact hl), List.getElem?_map, hi]; rfl
      · rw [List.getElem?_set_ne hji]
    rw [this]; exact w.nd
theorem Wd.at {i : Nat} (w : Wd K G M H) (hi : M[i]? = some (q, mo)) : G q = none ∧ MRep K G H q mo := w.own _ (List.mem_of_getElem? hi)
/-- an owned object at place i becomes frozen -/
theorem Wd.freeze {i : Nat} (w : Wd K G M H) (hi : M[i]? = some (q, mo)) (ho : H q = some o) : Wd K (upd G q o) (M.eraseIdx i) H where
  ex := fun a u e => by
    by_cases hq : a = q
    · subst hq; rw [upd_same] at e; cases e; exact ho
    · rw [upd_ne hq] at e; exact w.ex a u e
  own := fun p hp => by
    have hpM : p ∈ M := List.mem_of_mem_eraseIdx hp
    have ne : p.1 ≠ q := fun e => by
      obtain ⟨j, hj, e2⟩ := List.mem_eraseIdx_iff_getElem?.mp hp
      have h1 : (M.map (·.1))[j]? = some q := by rw [List.getElem?_map, e2]; simp [e]
      have h2 : (M.map (·.1))[i]? = some q := by rw [List.getElem?_map, hi]; rfl
      exact hj (nd_ix w.nd h1 h2)
    obtain ⟨a, b⟩ := w.own p hpM
    exact ⟨by rw [upd_ne ne]; exact a, b.keep (Ex.new (w.at hi).1) rfl⟩
  nd := w.nd.sublist ((List.eraseIdx_sublist M i).map _)
theorem Wd.exFreeze {i : Nat} (w : Wd K G M H) (hi : M[i]? = some (q, mo)) : Ex G (upd G q o) := Ex.new (w.at hi).1
end

abbrev Env := List (Option D)
structure Sl (K : PySem.W.Frag) (G : Hp) (ρ : Env) (σ : L2.St) : Prop where
  len : σ.length = ρ.length
  get : ∀ (i : Nat) (d : D), ρ[i]? = some (some d) → ∃ v, σ[i]? = some (some v) ∧ Rep K G d v
section
variable {K : PySem.W.Frag} {G G' H : Hp} {ρ : Env} {σ : L2.St}
theorem Sl.mono (h : Sl K G ρ σ) (e : Ex G G') : Sl K G' ρ σ := ⟨h.len, fun i d q => let ⟨v, a, b⟩ := h.get i d q; ⟨v, a, b.mono e⟩⟩
theorem Sl.set (h : Sl K G ρ σ) (i : Nat) {d : D} {v : V} (r : Rep K G d v) : Sl K G (ρ.set i (some d)) (σ.set i (some v)) :=
  ⟨by rw [List.length_set, List.length_set, h.len], fun j e q => by
    by_cases hj : i = j
    · subst hj
      by_cases hl : i < ρ.length
      · rw [List.getElem?_set_self hl] at q
        cases q
        rw [List.getElem?_set_self (by rw [h.len]; exact hl)]
        exact ⟨v, rfl, r⟩
      · rw [List.getElem?_eq_none (by rw [List.length_set]; omega)] at q
        cases q
    · rw [List.getElem?_set_ne hj] at q ⊢
      exact h.get j e q⟩
/-- forgetting -/
theorem Sl.weak {ρ' : Env} (h : Sl K G ρ σ) (hl : ρ'.length = ρ.length) (w : ∀ (i : Nat) d, ρ'[i]? = some (some d) → ρ[i]? = some (some d)) : Sl K G ρ' σ :=
  ⟨by rw [h.len, hl], fun i d q => h.get i d (w i d q)⟩
end
end Wk

/-! Wk: side conditions on the text, once for all. -/
namespace Wk
open PySem PySem.Spec PyProof.Rows L2
def plainE : Expr → Bool
  | .Starred _ _ => false
  | _ => true
def plainEs : List Expr → Bool
  | [] => true
  | e :: es => plainE e && plainEs es
theorem star_of {e : Expr} {es : List Expr} {env : PySem.Env} (h : plainE e = true) : starEach (e :: es) env = (false, eval e env) :: starEach es env := by
  cases e <;> first | (simp only [starEach]; done) | (simp [plainE] at h)
theorem star_one {e : Expr} {env : PySem.Env} (h : plainE e = true) : starEach [e] env = [(false, eval e env)] := by rw [star_of h, starEach]
theorem star_two {e f : Expr} {env : PySem.Env} (h : plainE e = true) (h2 : plainE f = true) : starEach [e, f] env = [(false, eval e env), (false, eval f env)] := by rw [star_of h, star_one h2]
theorem nostars {env : PySem.Env} {pos : Pos} : ∀ {es : List Expr}, plainEs es = true → (backTo pos (starEach es env)).any (·.1) = false
  | [], _ => by simp [starEach, backTo]
  | e :: es, h => by
    unfold plainEs at h
    rw [Bool.and_eq_true] at h
    have ih := nostars (env := env) (pos := pos) h.2
    unfold backTo at ih ⊢
    rw [star_of h.1, List.map_cons, List.any_cons, ih]
    rfl
theorem fewargs {env : PySem.Env} {pos : Pos} {es : List Expr} (h : plainEs es = true) (hl : es.length < 29) :
    ((backTo pos (starEach es env)).all (fun x => !x.1) && (backToKw pos (keywordEach [] env)).all (fun x => x.1.isSome)
      && decide (es.length + ([] : List Keyword).length + (if ([] : List Keyword).isEmpty then 0 else 1) < 30)) = true := by
  have h1 : (backTo pos (starEach es env)).all (fun x => !x.1) = true := by
    have := nostars (env := env) (pos := pos) h
    rw [List.any_eq_false] at this
    rw [List.all_eq_true]
    intro x hx
    have := this x hx
    simpa using this
  have h2 : (backToKw pos (keywordEach [] env)).all (fun x => x.1.isSome) = true := by simp [keywordEach, backToKw]
  rw [h1, h2]
  simp
  omega
def calls0 : Expr → Bool
  | .Call (.Name _ _) [] [] _ => false
  | _ => true
theorem base_of {o : Expr} {attr : Str} {env : PySem.Env} {whole : PySem.Sem Value} (h : calls0 o = true) : attributeBase o attr env whole = whole := by
  unfold attributeBase
  split
  · simp [calls0] at h
  · rfl
theorem asg_of {e : Expr} {es : List Expr} {env : PySem.Env} (h : plainE e = true) : (assignEach (e :: es) env).map (·.2) = assign e env :: (assignEach es env).map (·.2) := by
  cases e <;> first | (simp only [assignEach, List.map_cons]; done) | (simp [plainE] at h)
theorem asg_one {e : Expr} {env : PySem.Env} (h : plainE e = true) : (assignEach [e] env).map (·.2) = [assign e env] := by rw [asg_of h]; simp [assignEach]
theorem asg_len {env : PySem.Env} : ∀ {es : List Expr}, (assignEach es env).length = es.length
  | [] => by simp [assignEach]
  | e :: es => by
    have ih := asg_len (env := env) (es := es)
    cases e <;> simp [assignEach, ih]
theorem asg_none {env : PySem.Env} : ∀ {es : List Expr}, plainEs es = true → (assignEach es env).findIdx? (·.1) = none
  | [], _ => by simp [assignEach]
  | e :: es, h => by
    unfold plainEs at h
    rw [Bool.and_eq_true] at h
    have ih := asg_none (env := env) h.2
    cases e <;> first | (simp [plainE] at h; done) | (simp [assignEach, ih, List.findIdx?_cons])
def plainIxE : Expr → Bool
  | .Slice _ _ _ _ => false
  | _ => true
theorem plainIx_of {b : Expr} (h : plainIxE b = true) : ∀ o i, subscripted b false o i = operate [o, i] (getItem o i) := fun o i => by
  cases b <;> first | rfl | (simp [plainIxE] at h)
theorem asg_sub {o i : Expr} {p : Pos} {env : PySem.Env} (h : plainIxE i = true) : ∀ v, assign (.Subscript o i p) env v = (do
      let ov ← holding [v] (eval o env)
      let iv ← holding [v, ov] (eval i env)
      standAt p
      holding [v, ov, iv] (setItem ov iv v)
      release [v, ov, iv] []) := fun v => by
  cases i <;> first | (simp only [assign]; done) | (simp [plainIxE] at h)
def plainV : Expr → Bool
  | .ListComp _ _ _ _ => false
  | .SetComp _ _ _ _ => false
  | .DictComp _ _ _ _ _ => false
  | _ => true
theorem sw_of {e : Expr} {t : Option Expr} {l : Nat} {env : PySem.Env} (h : plainV e = true) : swapsWith e t l env = pure false := by
  unfold swapsWith
  cases e <;> first | rfl | (simp [plainV] at h)
theorem sws_of {e t : Expr} {l : Nat} {env : PySem.Env} (h : plainV e = true) : swapsWithSole [t] e l env = pure false := sw_of h
def notTup : Expr → Bool
  | .Tuple _ _ _ => false
  | _ => true
theorem sst_of {e t : Expr} {env : PySem.Env} (h : notTup e = true) : swappedStores [t] e env = pure none := by
  unfold swappedStores
  cases e <;> first | (simp [notTup] at h; done) | (cases t <;> rfl)
theorem sst_of1 {e t : Expr} {env : PySem.Env} (h : notTup t = true) (h2 : (match t with | .List _ _ => false | _ => true) = true) : swappedStores [t] e env = pure none := by
  unfold swappedStores
  cases t <;> first | (simp [notTup] at h; done) | (simp at h2; done) | (cases e <;> rfl)
def plainIt : Expr → Bool
  | .Set _ _ _ => false
  | _ => true
theorem fs_of {e : Expr} {env : PySem.Env} (h : plainIt e = true) : ∀ x, foldedSetIterable e env x = pure x := fun x => by
  unfold foldedSetIterable
  cases e <;> first | rfl | (simp [plainIt] at h)
def plainT : Expr → Bool
  | .Name _ _ => true
  | .Call _ _ _ _ => true
  | .Subscript _ _ _ => true
  | .Attribute _ _ _ => true
  | .Constant _ _ _ => true
  | _ => false
theorem tr_of {e : Expr} {env : PySem.Env} (h : plainT e = true) : ∀ whole, isTrue e env whole = (do let v ← whole; standAt e.pos; holding [v] (truthy v)) := fun whole => by
  cases e <;> first | (rfl) | (simp only [PySem.isTrue]; done) | (simp [plainT] at h; done)
end Wk

/-! Wk: expressions. -/
namespace Wk
open PySem PySem.Spec PyProof.Rows L2 Evl

def Sem (X : Cx) (e : Expr) : TE := fun σ H Q => ∀ (pins : List (Addr × Obj)) (s : Shared), Inv X pins σ H s → wpAny (model X.prog X.w) X.A (eval e X.env) (EP X pins σ Q) X.xe s
def SemT (X : Cx) (e : Expr) : TT := fun σ H Q => ∀ (pins : List (Addr × Obj)) (s : Shared), Inv X pins σ H s → wpAny (model X.prog X.w) X.A (isTrue e X.env (eval e X.env)) (TP X pins σ Q) X.xe s
def SemW (X : Cx) (e : Expr) : TT := fun σ H Q => ∀ (whole : PySem.Sem Value) (pins : List (Addr × Obj)) (s : Shared), Inv X pins σ H s → wpAny (model X.prog X.w) X.A (isTrue e X.env whole) (TP X pins σ Q) X.xe s
def SemA (X : Cx) (es : List Expr) : TA := fun σ H Q => ∀ (pos : Pos) (pins : List (Addr × Obj)) (s : Shared), Inv X pins σ H s → wpAny (model X.prog X.w) X.A (spliced (backTo pos (starEach es X.env))) (AP X pins σ Q) X.xe s
def SemC (X : Cx) (op : CmpOp) (a b : Expr) : TE := fun σ H Q => ∀ (pins : List (Addr × Obj)) (s : Shared), Inv X pins σ H s →
    wpAny (model X.prog X.w) X.A (eval a X.env) (fun v s₁ => wpAny (model X.prog X.w) X.A (eval b X.env) (fun u s₂ => wpAny (model X.prog X.w) X.A (compareOp op v u) (EP X pins σ Q) X.xe s₂) X.xe s₁) X.xe s
section
variable {X : Cx} {e a b : Expr} {es : List Expr} {σ : L2.St} {H : Hp} {op : CmpOp}
theorem pe_sem : PE X e (Sem X e) := ⟨fun pins s _ _ _ I h => h pins s I⟩
theorem pt_sem : PT X e (SemT X e) := ⟨fun pins s _ _ _ I h => h pins s I⟩
theorem pw_sem : PW X e (SemW X e) := ⟨fun wh pins s _ _ _ I h => h wh pins s I⟩
theorem pa_sem : PA X es (SemA X es) := ⟨fun pos pins s _ _ _ I h => h pos pins s I⟩
theorem pc_sem : PC X op a b (SemC X op a b) := ⟨fun pins s _ _ _ I h => h pins s I⟩
theorem Sem.of {t : TE} {Q : VK} (h : PE X e t) (r : t σ H Q) : Sem X e σ H Q := fun pins s I => h.run pins s σ H Q I r
theorem SemT.of {t : TT} {Q : Bool → Hp → Prop} (h : PT X e t) (r : t σ H Q) : SemT X e σ H Q := fun pins s I => h.run pins s σ H Q I r
theorem SemW.of {t : TT} {Q : Bool → Hp → Prop} (h : PW X e t) (r : t σ H Q) : SemW X e σ H Q := fun wh pins s I => h.run wh pins s σ H Q I r
theorem SemA.of {t : TA} {Q : List V → Hp → Prop} (h : PA X es t) (r : t σ H Q) : SemA X es σ H Q := fun pos pins s I => h.run pos pins s σ H Q I r
theorem SemC.of {t : TE} {Q : VK} (h : PC X op a b t) (r : t σ H Q) : SemC X op a b σ H Q := fun pins s I => h.run pins s σ H Q I r
end

/-- what is wanted of a value d, left M -/
def Wish (K : PySem.W.Frag) (G : Hp) (M : Mem) (d : D) (Q : VK) : Prop := ∀ v G' H', Ex G G' → Wd K G' M H' → Rep K G' d v → Q v H'
structure XE (X : Cx) (e : Expr) (ρ : Env) (M : Mem) (d : D) (M' : Mem) : Prop where
  run : ∀ (G : Hp) (σ : L2.St) (H : Hp) (Q : VK), Sl X.K G ρ σ → Wd X.K G M H → Wish X.K G M' d Q → Sem X e σ H Q
/-- a new object, owned -/
structure XN (X : Cx) (e : Expr) (ρ : Env) (M : Mem) (o : MO) (M' : Mem) : Prop where
  run : ∀ (G : Hp) (σ : L2.St) (H : Hp) (Q : VK), Sl X.K G ρ σ → Wd X.K G M H → (∀ p G' H', Ex G G' → Wd X.K G' ((p, o) :: M') H' → Q (.ref p) H') → Sem X e σ H Q
structure XT (X : Cx) (e : Expr) (ρ : Env) (M : Mem) (c : Bool) (M' : Mem) : Prop where
  run : ∀ (G : Hp) (σ : L2.St) (H : Hp) (Q : Bool → Hp → Prop), Sl X.K G ρ σ → Wd X.K G M H → (∀ G' H', Ex G G' → Wd X.K G' M' H' → Q c H') → SemT X e σ H Q
structure XW (X : Cx) (e : Expr) (ρ : Env) (M : Mem) (c : Bool) (M' : Mem) : Prop where
  run : ∀ (G : Hp) (σ : L2.St) (H : Hp) (Q : Bool → Hp → Prop), Sl X.K G ρ σ → Wd X.K G M H → (∀ G' H', Ex G G' → Wd X.K G' M' H' → Q c H') → SemW X e σ H Q
structure XA (X : Cx) (es : List Expr) (ρ : Env) (M : Mem) (ds : List D) (M' : Mem) : Prop where
  run : ∀ (G : Hp) (σ : L2.St) (H : Hp) (Q : List V → Hp → Prop), Sl X.K G ρ σ → Wd X.K G M H → (∀ vs G' H', Ex G G' → Wd X.K G' M' H' → RepL X.K G' ds vs → Q vs H') → SemA X es σ H Q
structure XC (X : Cx) (op : CmpOp) (a b : Expr) (ρ : Env) (M : Mem) (d : D) (M' : Mem) : Prop where
  run : ∀ (G : Hp) (σ : L2.St) (H : Hp) (Q : VK), Sl X.K G ρ σ → Wd X.K G M H → Wish X.K G M' d Q → SemC X op a b σ H Q

section
variable {X : Cx} {e a b c : Expr} {es : List Expr} {ρ : Env} {M M1 M2 M3 : Mem} {d d1 d2 d3 : D} {ds ds1 ds2 : List D} {pos : Pos} {i j : Int} {r : R2}

theorem Wish.use {K : PySem.W.Frag} {G G1 H : Hp} {Q : VK} (q : Wish K G M d Q) (e : Ex G G1) (w : Wd K G1 M H) {v : V} (r : Rep K G1 d v) : Q v H := q v G1 H e w r
theorem Wish.up {K : PySem.W.Frag} {G G1 : Hp} {Q : VK} (q : Wish K G M d Q) (e : Ex G G1) : Wish K G1 M d Q := fun v G' H' e' w r => q v G' H' (e.trans e') w r

/-- from a rule of two operands -/
theorem XE.bin {e : Expr} (ho : PE X e (tOp r (Sem X a) (Sem X b))) (ha : XE X a ρ M d1 M1) (hb : XE X b ρ M1 d2 M2)
    (k : ∀ G H x y Q, Wd X.K G M2 H → Rep X.K G d1 x → Rep X.K G d2 y → Wish X.K G M3 d Q → r x y H Q) : XE X e ρ M d M3 := .mk fun G σ H Q sl w q =>
  Sem.of ho (ha.run G σ H _ sl w fun x G1 H1 e1 w1 r1 => hb.run G1 σ H1 _ (sl.mono e1) w1 fun y G2 H2 e2 w2 r2 => k G2 H2 x y Q w2 (r1.mono e2) r2 (q.up (e1.trans e2)))
theorem XN.bin {e : Expr} {o : MO} (ho : PE X e (tOp r (Sem X a) (Sem X b))) (ha : XE X a ρ M d1 M1) (hb : XE X b ρ M1 d2 M2)
    (k : ∀ G H x y Q, Wd X.K G M2 H → Rep X.K G d1 x → Rep X.K G d2 y → (∀ p G' H', Ex G G' → Wd X.K G' ((p, o) :: M3) H' → Q (.ref p) H') → r x y H Q) : XN X e ρ M o M3 := .mk fun G σ H Q sl w q =>
  Sem.of ho (ha.run G σ H _ sl w fun x G1 H1 e1 w1 r1 => hb.run G1 σ H1 _ (sl.mono e1) w1 fun y G2 H2 e2 w2 r2 => k G2 H2 x y Q w2 (r1.mono e2) r2 (fun p G' H' e3 w3 => q p G' H' ((e1.trans e2).trans e3) w3))
theorem XC.bin {op : CmpOp} (ho : OpR X (compareOp op) r) (ha : XE X a ρ M d1 M1) (hb : XE X b ρ M1 d2 M2)
    (k : ∀ G H x y Q, Wd X.K G M2 H → Rep X.K G d1 x → Rep X.K G d2 y → Wish X.K G M3 d Q → r x y H Q) : XC X op a b ρ M d M3 := .mk fun G σ H Q sl w q => by
  refine SemC.of (t := tOp r (Sem X a) (Sem X b)) ⟨fun pins s σ H Q I h => ?_⟩ (ha.run G σ H _ sl w fun x G1 H1 e1 w1 r1 => hb.run G1 σ H1 _ (sl.mono e1) w1 fun y G2 H2 e2 w2 r2 => k G2 H2 x y Q w2 (r1.mono e2) r2 (q.up (e1.trans e2)))
  exact binT pe_sem pe_sem I h fun v u s2 x y H2 I2 rx ry q => ho pins s2 σ H2 x y v u Q I2 rx ry q
theorem XE.un {e : Expr} {r : V → Hp → VK → Prop} (ho : PE X e (tUn r (Sem X a))) (ha : XE X a ρ M d1 M1)
    (k : ∀ G H x Q, Wd X.K G M1 H → Rep X.K G d1 x → Wish X.K G M2 d Q → r x H Q) : XE X e ρ M d M2 := .mk fun G σ H Q sl w q =>
  Sem.of ho (ha.run G σ H _ sl w fun x G1 H1 e1 w1 r1 => k G1 H1 x Q w1 r1 (q.up e1))

theorem of_int {K : PySem.W.Frag} {G : Hp} {x : V} (h : Rep K G (.int i) x) : x = .int i := by unfold Rep at h; exact h
theorem of_str {K : PySem.W.Frag} {G : Hp} {x : V} {s : Str} (h : Rep K G (.str s) x) : x = .str s := by unfold Rep at h; exact h
theorem of_bl {K : PySem.W.Frag} {G : Hp} {x : V} {s : Bool} (h : Rep K G (.bl s) x) : x = .bl s := by unfold Rep at h; exact h
theorem of_non {K : PySem.W.Frag} {G : Hp} {x : V} (h : Rep K G .non x) : x = .non := by unfold Rep at h; exact h
theorem of_adr {K : PySem.W.Frag} {G : Hp} {x : V} {p : Addr} (h : Rep K G (.adr p) x) : x = .ref p := by unfold Rep at h; exact h
theorem of_ty {K : PySem.W.Frag} {G : Hp} {x : V} {p : String} (h : Rep K G (.ty p) x) : x = .ty p := by unfold Rep at h; exact h
theorem of_tup {K : PySem.W.Frag} {G : Hp} {x : V} (h : Rep K G (.tup ds) x) : ∃ a vs, x = .ref a ∧ PTu G a vs ∧ RepL K G ds vs := by unfold Rep at h; exact h
theorem of_ktup {K : PySem.W.Frag} {G : Hp} {x : V} (h : Rep K G (.ktup ds) x) : ∃ a vs, x = .ref a ∧ G a = some (.tup vs) ∧ RepL K G ds vs := by unfold Rep at h; exact h
theorem pt_new {G : Hp} {p : Addr} {o : Obj} {vs : List V} (h1 : o.cls = .type "tuple") (h2 : o.dict = none) : PTu (upd G p (.frz o (.tup vs))) p vs := ⟨o, upd_same, h1, h2⟩
theorem of_lst {K : PySem.W.Frag} {G : Hp} {x : V} (h : Rep K G (.lst ds) x) : ∃ a vs, x = .ref a ∧ G a = some (.lst vs) ∧ RepL K G ds vs := by unfold Rep at h; exact h
theorem of_rlst {K : PySem.W.Frag} {G : Hp} {x : V} (h : Rep K G (.rlst ds) x) : ∃ a vs, x = .ref a ∧ SqL K G a vs ∧ RepL K G ds vs := by unfold Rep at h; exact h
theorem of_dK {K : PySem.W.Frag} {G : Hp} {x : V} {ks : List Key} (h : Rep K G (.dK ks ds) x) : ∃ a kvs, x = .ref a ∧ G a = some (.dK kvs) ∧ kvs.map (·.1) = ks ∧ RepL K G ds (kvs.map (·.2)) := by unfold Rep at h; exact h
theorem of_dT {K : PySem.W.Frag} {G : Hp} {x : V} {ks : List (List Key)} (h : Rep K G (.dT ks ds) x) : ∃ a kvs, x = .ref a ∧ G a = some (.dT kvs) ∧ kvs.map (·.1) = ks ∧ RepL K G ds (kvs.map (·.2)) := by unfold Rep at h; exact h

/-! names, constants -/
theorem x_var (n : Nat) {x : Str} (h : ρ[n]? = some (some d)) (hN : X.N[n]? = some x := by rfl) (hv : Vis X.env.scope x := by first | exact Or.inl rfl | exact Or.inr (Or.inl rfl) | exact Or.inr (Or.inr rfl)) (hd : (x == ("__debug__" : Str)) = false := by decide)
    (hcd : (x == ("__classdict__" : Str)) = false := by decide) : XE X (.Name x pos) ρ M d M := .mk fun G σ H Q sl w q => by
  obtain ⟨v, hv', r⟩ := sl.get n d h
  exact Sem.of (pe_var hN hv hd hcd) ⟨v, hv', q.use (Ex.refl G) w r⟩
theorem x_c {e : Expr} {v : V} (h : PE X e (tC v)) (hd : ∀ G, Rep X.K G d v) : XE X e ρ M d M := .mk fun G σ H Q sl w q => Sem.of h (q.use (Ex.refl G) w (hd G))
theorem x_int {k} : XE X (.Constant (.int i) k pos) ρ M (.int i) M := x_c pe_int fun _ => rep_int
theorem x_bl {k c} : XE X (.Constant (.bool c) k pos) ρ M (.bl c) M := x_c pe_bl fun _ => rep_bl
theorem x_non {k} : XE X (.Constant .none k pos) ρ M .non M := x_c pe_non fun _ => rep_non
theorem x_str {k s} : XE X (.Constant (.str s) k pos) ρ M (.str s) M := x_c pe_str fun _ => rep_str
/-- a module's constant, a text or a number -/
theorem x_gS {x s : Str} {t : Tok} (hm : X.mg x = some (.str s t)) (hg : Gl X x := by rfl) (hd : (x == ("__debug__" : Str)) = false := by decide) : XE X (.Name x pos) ρ M (.str s) M := x_c (v := .str s) (pe_glob hg hm ⟨t, rfl⟩ hd) fun _ => rep_str
theorem x_gI {x : Str} {t : Tok} (hm : X.mg x = some (.int i t)) (hg : Gl X x := by rfl) (hd : (x == ("__debug__" : Str)) = false := by decide) : XE X (.Name x pos) ρ M (.int i) M := x_c (v := .int i) (pe_glob hg hm ⟨t, rfl⟩ hd) fun _ => rep_int

/-! numbers -/
theorem x_add (ha : XE X a ρ M (.int i) M1) (hb : XE X b ρ M1 (.int j) M2) : XE X (.BinOp a .Add b pos) ρ M (.int (i + j)) M2 :=
  XE.bin (pe_op op_add pe_sem pe_sem) ha hb fun _ _ _ _ _ w r1 r2 q => ⟨i, j, of_int r1, of_int r2, q.use (Ex.refl _) w rep_int⟩
theorem x_sub (ha : XE X a ρ M (.int i) M1) (hb : XE X b ρ M1 (.int j) M2) : XE X (.BinOp a .Sub b pos) ρ M (.int (i - j)) M2 :=
  XE.bin (pe_op op_sub pe_sem pe_sem) ha hb fun _ _ _ _ _ w r1 r2 q => ⟨i, j, of_int r1, of_int r2, q.use (Ex.refl _) w rep_int⟩
theorem x_mul (ha : XE X a ρ M (.int i) M1) (hb : XE X b ρ M1 (.int j) M2) (h : CMul i j ∨ CMulW i j) : XE X (.BinOp a .Mult b pos) ρ M (.int (i * j)) M2 :=
  XE.bin (pe_op (OpR.or op_mul op_mulW) pe_sem pe_sem) ha hb fun _ _ _ _ _ w r1 r2 q => h.elim (fun h => .inl ⟨i, j, of_int r1, of_int r2, h, q.use (Ex.refl _) w rep_int⟩) fun h => .inr ⟨i, j, of_int r1, of_int r2, h, q.use (Ex.refl _) w rep_int⟩
theorem x_mod (ha : XE X a ρ M (.int i) M1) (hb : XE X b ρ M1 (.int j) M2) (h : 0 < j) : XE X (.BinOp a .Mod b pos) ρ M (.int (i % j)) M2 :=
  XE.bin (pe_op op_mod pe_sem pe_sem) ha hb fun _ _ _ _ _ w r1 r2 q => ⟨i, j, of_int r1, of_int r2, h, q.use (Ex.refl _) w rep_int⟩
theorem x_fdiv (ha : XE X a ρ M (.int i) M1) (hb : XE X b ρ M1 (.int j) M2) (h : CDiv i j ∨ CDivW i j) : XE X (.BinOp a .FloorDiv b pos) ρ M (.int (i / j)) M2 :=
  XE.bin (pe_op (OpR.or op_fdiv op_fdivW) pe_sem pe_sem) ha hb fun _ _ _ _ _ w r1 r2 q => h.elim (fun h => .inl ⟨i, j, of_int r1, of_int r2, h, q.use (Ex.refl _) w rep_int⟩) fun h => .inr ⟨i, j, of_int r1, of_int r2, h, q.use (Ex.refl _) w rep_int⟩
theorem x_pow (ha : XE X a ρ M (.int i) M1) (hb : XE X b ρ M1 (.int j) M2) (h : CPow i j) : XE X (.BinOp a .Pow b pos) ρ M (.int (i ^ j.toNat)) M2 :=
  XE.bin (pe_op op_pow pe_sem pe_sem) ha hb fun _ _ _ _ _ w r1 r2 q => ⟨i, j, of_int r1, of_int r2, h, q.use (Ex.refl _) w rep_int⟩
theorem x_neg (ha : XE X a ρ M (.int i) M1) : XE X (.UnaryOp .USub a pos) ρ M (.int (-i)) M1 :=
  XE.un (pe_un un_neg pe_sem) ha fun _ _ _ _ w r1 q => ⟨i, of_int r1, q.use (Ex.refl _) w rep_int⟩
/-! texts, sequences -/
theorem x_addS {s t : Str} (ha : XE X a ρ M (.str s) M1) (hb : XE X b ρ M1 (.str t) M2) (h : s.length + t.length ≤ sizeLine) : XE X (.BinOp a .Add b pos) ρ M (.str (s ++ t)) M2 :=
  XE.bin (pe_op op_add_str pe_sem pe_sem) ha hb fun _ _ _ _ _ w r1 r2 q => ⟨s, t, of_str r1, of_str r2, h, q.use (Ex.refl _) w rep_str⟩
theorem wd_newL {K : PySem.W.Frag} {G H : Hp} {p : Addr} {vs : List V} (w : Wd K G M H) (hp : H p = none) (r : RepL K G ds vs) : Wd K G ((p, .lst ds) :: M) (upd H p (.lst vs)) := w.newO hp ⟨vs, upd_same, r⟩
theorem n_cat (ha : XE X a ρ M (.lst ds1) M1) (hb : XE X b ρ M1 (.lst ds2) M2) (h : ds1.length + ds2.length ≤ sizeLine) : XN X (.BinOp a .Add b pos) ρ M (.lst (ds1 ++ ds2)) M2 :=
  XN.bin (pe_op op_cat pe_sem pe_sem) ha hb fun G H x y Q w r1 r2 q => by
    obtain ⟨p, vs, rfl, hp, rv⟩ := of_lst r1
    obtain ⟨p2, vs2, rfl, hp2, rv2⟩ := of_lst r2
    exact ⟨p, p2, vs, vs2, rfl, rfl, w.ex _ _ hp, w.ex _ _ hp2, by rw [rv.length, rv2.length]; exact h, fun z hz => q z G _ (Ex.refl G) (wd_newL w hz (rv.append rv2))⟩
theorem x_catT (ha : XE X a ρ M (.tup ds1) M1) (hb : XE X b ρ M1 (.tup ds2) M2) (h : ds1.length + ds2.length ≤ sizeLine) : XE X (.BinOp a .Add b pos) ρ M (.tup (ds1 ++ ds2)) M2 :=
  XE.bin (pe_op op_catF pe_sem pe_sem) ha hb fun G H x y Q w r1 r2 q => by
    obtain ⟨p, vs, rfl, hp, rv⟩ := of_tup r1
    obtain ⟨p2, vs2, rfl, hp2, rv2⟩ := of_tup r2
    refine ⟨p, p2, vs, vs2, rfl, rfl, (hp.mono w.ex).sq, (hp2.mono w.ex).sq, by rw [rv.length, rv2.length]; exact h, fun e => ?_, fun _ e => ?_, fun _ _ z o h1 h2 hz => ?_⟩
    · subst e
      have : ds1 = [] := List.length_eq_zero_iff.mp (by rw [← rv.length]; rfl)
      subst this
      exact q.use (Ex.refl G) w (rep_tup hp2 rv2)
    · subst e
      have : ds2 = [] := List.length_eq_zero_iff.mp (by rw [← rv2.length]; rfl)
      subst this
      exact q.use (Ex.refl G) w (by rw [List.append_nil]; exact rep_tup hp rv)
    · exact q.use (w.exF hz _) (w.newF hz _) (rep_tup (pt_new h1 h2) ((rv.append rv2).mono (w.exF hz _) _))
theorem n_rep {k : Int} (ha : XE X a ρ M (.lst ds) M1) (hb : XE X b ρ M1 (.int k) M2) (h1 : -(2 ^ 63) ≤ k) (h2 : k < 2 ^ 63) (h : ds.length * k.toNat ≤ sizeLine) : XN X (.BinOp a .Mult b pos) ρ M (.lst (List.replicate k.toNat ds).flatten) M2 :=
  XN.bin (pe_op op_rep pe_sem pe_sem) ha hb fun G H x y Q w r1 r2 q => by
    obtain ⟨p, vs, rfl, hp, rv⟩ := of_lst r1
    have rr : ∀ n : Nat, RepL X.K G (List.replicate n ds).flatten (List.replicate n vs).flatten := fun n => by
      induction n with
      | zero => exact RepL.nil
      | succ n ih => rw [List.replicate_succ, List.replicate_succ, List.flatten_cons, List.flatten_cons]; exact rv.append ih
    exact ⟨p, k, vs, rfl, of_int r2, w.ex _ _ hp, h1, h2, by rw [rv.length]; exact h, fun z hz => q z G _ (Ex.refl G) (wd_newL w hz (rr _))⟩
/-- a new list is frozen -/
theorem x_frz (h : XN X e ρ M (.lst ds) M1) : XE X e ρ M (.lst ds) M1 := .mk fun G σ H Q sl w q =>
  h.run G σ H Q sl w fun p G' H' e' w' => by
    obtain ⟨vs, hv, r⟩ := (w'.at (i := 0) rfl).2
    have e2 := w'.exFreeze (i := 0) (o := .lst vs) rfl
    exact q.use (e'.trans e2) (w'.freeze (i := 0) rfl hv) (rep_lst upd_same (r.mono e2 _))
theorem x_frzK {ks : List Key} (h : XN X e ρ M (.dK ks ds) M1) : XE X e ρ M (.dK ks ds) M1 := .mk fun G σ H Q sl w q =>
  h.run G σ H Q sl w fun p G' H' e' w' => by
    obtain ⟨kvs, hv, hk, r⟩ := (w'.at (i := 0) rfl).2
    have e2 := w'.exFreeze (i := 0) (o := .dK kvs) rfl
    exact q.use (e'.trans e2) (w'.freeze (i := 0) rfl hv) (by unfold Rep; exact ⟨p, kvs, rfl, upd_same, hk, r.mono e2 _⟩)

/-! arguments, displays -/
theorem a_nil : XA X [] ρ M [] M := .mk fun G σ H Q sl w q => SemA.of pa_nil (q [] G H (Ex.refl G) w RepL.nil)
theorem a_cons (ha : XE X e ρ M d M1) (hr : XA X es ρ M1 ds M2) (hs : starEach (e :: es) X.env = (false, eval e X.env) :: starEach es X.env := by exact star_of rfl) : XA X (e :: es) ρ M (d :: ds) M2 := .mk fun G σ H Q sl w q =>
  SemA.of (pa_cons pe_sem pa_sem hs) (ha.run G σ H _ sl w fun v G1 H1 e1 w1 r1 => hr.run G1 σ H1 _ (sl.mono e1) w1 fun vs G2 H2 e2 w2 r2 => q _ G2 H2 (e1.trans e2) w2 (RepL.cons (r1.mono e2) r2))
theorem x_tup {k} (h : XA X es ρ M ds M1) (hl : ds.length ≤ sizeLine) : XE X (.Tuple es k pos) ρ M (.tup ds) M1 := .mk fun G σ H Q sl w q =>
  Sem.of (pe_tupF pa_sem) (h.run G σ H _ sl w fun vs G1 H1 e1 w1 r1 => ⟨by rw [r1.length]; exact hl, fun p o h1 h2 hp => q.use (e1.trans (w1.exF hp _)) (w1.newF hp _) (rep_tup (pt_new h1 h2) (r1.mono (w1.exF hp _) _))⟩)
/-- a tuple that is asked as a key -/
theorem x_ktup {k} (h : XA X es ρ M ds M1) (hl : ds.length ≤ sizeLine) : XE X (.Tuple es k pos) ρ M (.ktup ds) M1 := .mk fun G σ H Q sl w q =>
  Sem.of (pe_tup pa_sem) (h.run G σ H _ sl w fun vs G1 H1 e1 w1 r1 => ⟨by rw [r1.length]; exact hl, fun p hp => q.use (e1.trans (w1.exF hp _)) (w1.newF hp _) (by unfold Rep; exact ⟨p, vs, rfl, upd_same, r1.mono (w1.exF hp _) _⟩)⟩)
theorem n_lst (h : XA X es ρ M ds M1) (hl : ds.length ≤ sizeLine) : XN X (.List es pos) ρ M (.lst ds) M1 := .mk fun G σ H Q sl w q =>
  Sem.of (pe_lst pa_sem) (h.run G σ H _ sl w fun vs G1 H1 e1 w1 r1 => ⟨by rw [r1.length]; exact hl, fun p hp => q p G1 _ e1 (wd_newL w1 hp r1)⟩)
end
end Wk

/-! Wk: subscripts, comparisons, tests, calls of builtins. -/
namespace Wk
open PySem PySem.Spec PyProof.Rows L2 Evl

section
variable {X : Cx} {e a b c : Expr} {es : List Expr} {ρ : Env} {M M1 M2 M3 : Mem} {d d1 d2 d3 : D} {ds ds1 ds2 : List D} {pos : Pos} {i j : Int} {r : R2} {p : Addr}

theorem atI_len {α β : Type} {xs : List α} {ys : List β} {d : β} (hl : xs.length = ys.length) (f : ∀ (k : Nat) (v : β), ys[k]? = some v → ∃ u, xs[k]? = some u) (h : atI ys i = some d) : ∃ (k : Nat) (u : α), ys[k]? = some d ∧ xs[k]? = some u ∧ atI xs i = some u := by
  unfold atI at h ⊢
  rw [hl]
  cases e : ixN ys.length i with
  | none => rw [e] at h; cases h
  | some k =>
    rw [e] at h
    obtain ⟨u, hu⟩ := f k d h
    exact ⟨k, u, h, hu, hu⟩
theorem RepL.atI {K : PySem.W.Frag} {G : Hp} {vs : List V} (r : RepL K G ds vs) (h : atI ds i = some d) : ∃ v, L2.atI vs i = some v ∧ Rep K G d v := by
  obtain ⟨k, u, h1, h2, h3⟩ := atI_len (i := i) r.length (fun k v hv => let ⟨w, a, _⟩ := r.get hv; ⟨w, a⟩) h
  obtain ⟨w, hw, rw'⟩ := r.get h1
  rw [h2] at hw; cases hw
  exact ⟨u, h3, rw'⟩
/-! subscripts -/
theorem x_ixL (ha : XE X a ρ M (.lst ds) M1) (hb : XE X b ρ M1 (.int i) M2) (h : L2.atI ds i = some d) (hs : PlainIx b := by exact plainIx_of rfl) : XE X (.Subscript a b pos) ρ M d M2 :=
  XE.bin (pe_ix ix_list pe_sem pe_sem hs) ha hb fun G H x y Q w r1 r2 q => by
    obtain ⟨p, vs, rfl, hp, rv⟩ := of_lst r1
    obtain ⟨v, hv, rv'⟩ := rv.atI h
    exact ⟨p, vs, i, v, rfl, of_int r2, SqL.of (w.ex _ _ hp), hv, q.use (Ex.refl G) w rv'⟩
theorem x_ixR (ha : XE X a ρ M (.rlst ds) M1) (hb : XE X b ρ M1 (.int i) M2) (h : L2.atI ds i = some d) (hs : PlainIx b := by exact plainIx_of rfl) : XE X (.Subscript a b pos) ρ M d M2 :=
  XE.bin (pe_ix ix_list pe_sem pe_sem hs) ha hb fun G H x y Q w r1 r2 q => by
    obtain ⟨p, vs, rfl, hp, rv⟩ := of_rlst r1
    obtain ⟨v, hv, rv'⟩ := rv.atI h
    exact ⟨p, vs, i, v, rfl, of_int r2, ex_l w.ex hp, hv, q.use (Ex.refl G) w rv'⟩
theorem x_ixT (ha : XE X a ρ M (.tup ds) M1) (hb : XE X b ρ M1 (.int i) M2) (h : L2.atI ds i = some d) (hs : PlainIx b := by exact plainIx_of rfl) : XE X (.Subscript a b pos) ρ M d M2 :=
  XE.bin (pe_ix ix_tup pe_sem pe_sem hs) ha hb fun G H x y Q w r1 r2 q => by
    obtain ⟨p, vs, rfl, hp, rv⟩ := of_tup r1
    obtain ⟨v, hv, rv'⟩ := rv.atI h
    exact ⟨p, vs, i, v, rfl, of_int r2, (hp.mono w.ex).sq, hv, q.use (Ex.refl G) w rv'⟩
/-- of an owned list at place k -/
theorem x_ixO (k : Nat) (ha : XE X a ρ M (.adr p) M1) (hb : XE X b ρ M1 (.int i) M2) (hk : M2[k]? = some (p, .lst ds)) (h : L2.atI ds i = some d) (hs : PlainIx b := by exact plainIx_of rfl) : XE X (.Subscript a b pos) ρ M d M2 :=
  XE.bin (pe_ix ix_list pe_sem pe_sem hs) ha hb fun G H x y Q w r1 r2 q => by
    obtain ⟨vs, hv, rv⟩ := (w.at hk).2
    obtain ⟨v, hv', rv'⟩ := rv.atI h
    exact ⟨p, vs, i, v, of_adr r1, of_int r2, SqL.of hv, hv', q.use (Ex.refl G) w rv'⟩
theorem x_ixS {s : Str} {n : Nat} (ha : XE X a ρ M (.str s) M1) (hb : XE X b ρ M1 (.int i) M2) (h : L2.atI s.cps.toList i = some n) (hl : s.length ≤ sizeLine) (hs : PlainIx b := by exact plainIx_of rfl) : XE X (.Subscript a b pos) ρ M (.str ⟨#[n]⟩) M2 :=
  XE.bin (pe_ix ix_str pe_sem pe_sem hs) ha hb fun G H x y Q w r1 r2 q => ⟨s, i, n, of_str r1, of_int r2, hl, h, q.use (Ex.refl G) w rep_str⟩

/-! slices -/
def SemO (X : Cx) (e : Option Expr) : TO := fun σ H Q => ∀ (pins : List (Addr × Obj)) (s : Shared), Inv X pins σ H s →
    wpAny (model X.prog X.w) X.A (evalPart e X.env) (fun u s' => ∃ o H', Inv X pins σ H' s' ∧ IsPart u o ∧ Q o H') X.xe s
theorem po_sem {e : Option Expr} : PO X e (SemO X e) := ⟨fun pins s _ _ _ I h => h pins s I⟩
structure XO (X : Cx) (e : Option Expr) (ρ : Env) (M : Mem) (o : Option Int) (M' : Mem) : Prop where
  run : ∀ (G : Hp) (σ : L2.St) (H : Hp) (Q : Option Int → Hp → Prop), Sl X.K G ρ σ → Wd X.K G M H → (∀ G' H', Ex G G' → Wd X.K G' M' H' → Q o H') → SemO X e σ H Q
theorem o_none : XO X none ρ M none M := .mk fun G σ H Q sl w q pins s I => po_none.run pins s σ H Q I (q G H (Ex.refl G) w)
theorem o_some (h : XE X e ρ M (.int i) M1) : XO X (some e) ρ M (some i) M1 := .mk fun G σ H Q sl w q pins s I =>
  (po_some pe_sem).run pins s σ H Q I (h.run G σ H _ sl w fun v G' H' e' w' r' => ⟨i, of_int r', q G' H' e' w'⟩)
variable {lo hi : Option Expr} {l u : Option Int} {p2 : Pos}
theorem sl_gen {r : V → Option Int → Option Int → Hp → VK → Prop} {W : Hp → VK → Prop} (hr : SlR X r) (ha : XE X a ρ M d1 M1) (hlo : XO X lo ρ M1 l M2) (hhi : XO X hi ρ M2 u M3)
    (k : ∀ G G0 H x Q, Ex G0 G → Wd X.K G M3 H → Rep X.K G d1 x → W G0 Q → r x l u H Q) : ∀ (G : Hp) (σ : L2.St) (H : Hp) (Q : VK), Sl X.K G ρ σ → Wd X.K G M H → W G Q → Sem X (.Subscript a (.Slice lo hi none p2) pos) σ H Q := fun G σ H Q sl w q =>
  Sem.of (pe_slice hr pe_sem po_sem po_sem) (ha.run G σ H _ sl w fun x G1 H1 e1 w1 r1 => hlo.run G1 σ H1 _ (sl.mono e1) w1 fun G2 H2 e2 w2 => hhi.run G2 σ H2 _ (sl.mono (e1.trans e2)) w2 fun G3 H3 e3 w3 =>
    k G3 G H3 x Q ((e1.trans e2).trans e3) w3 (r1.mono (e2.trans e3)) q)
def cutD {α : Type} (xs : List α) (lo hi : Option Int) : List α := (xs.drop (HT.sIx xs.length 0 lo)).take (HT.sIx xs.length xs.length hi - HT.sIx xs.length 0 lo)
theorem RepL.cut {K : PySem.W.Frag} {G : Hp} {vs : List V} (r : RepL K G ds vs) (l u : Option Int) : RepL K G (cutD ds l u) (cutV vs l u) := by
  unfold cutD cutV
  rw [r.length]
  exact (r.drop _).take _
theorem n_slL (ha : XE X a ρ M (.lst ds) M1) (hlo : XO X lo ρ M1 l M2) (hhi : XO X hi ρ M2 u M3) : XN X (.Subscript a (.Slice lo hi none p2) pos) ρ M (.lst (cutD ds l u)) M3 := .mk <|
  sl_gen (W := fun G Q => ∀ p G' H', Ex G G' → Wd X.K G' ((p, .lst (cutD ds l u)) :: M3) H' → Q (.ref p) H') sl_list ha hlo hhi fun G G0 H x Q e w r1 q => by
    obtain ⟨p, vs, rfl, hp, rv⟩ := of_lst r1
    exact ⟨p, vs, rfl, SqL.of (w.ex _ _ hp), fun z hz => q z G _ e (wd_newL w hz (rv.cut l u))⟩
theorem n_slR (ha : XE X a ρ M (.rlst ds) M1) (hlo : XO X lo ρ M1 l M2) (hhi : XO X hi ρ M2 u M3) : XN X (.Subscript a (.Slice lo hi none p2) pos) ρ M (.lst (cutD ds l u)) M3 := .mk <|
  sl_gen (W := fun G Q => ∀ p G' H', Ex G G' → Wd X.K G' ((p, .lst (cutD ds l u)) :: M3) H' → Q (.ref p) H') sl_list ha hlo hhi fun G G0 H x Q e w r1 q => by
    obtain ⟨p, vs, rfl, hp, rv⟩ := of_rlst r1
    exact ⟨p, vs, rfl, ex_l w.ex hp, fun z hz => q z G _ e (wd_newL w hz (rv.cut l u))⟩
theorem n_slO (k : Nat) (ha : XE X a ρ M (.adr p) M1) (hlo : XO X lo ρ M1 l M2) (hhi : XO X hi ρ M2 u M3) (hk : M3[k]? = some (p, .lst ds)) : XN X (.Subscript a (.Slice lo hi none p2) pos) ρ M (.lst (cutD ds l u)) M3 := .mk <|
  sl_gen (W := fun G Q => ∀ p G' H', Ex G G' → Wd X.K G' ((p, .lst (cutD ds l u)) :: M3) H' → Q (.ref p) H') sl_list ha hlo hhi fun G G0 H x Q e w r1 q => by
    obtain ⟨vs, hv, rv⟩ := (w.at hk).2
    exact ⟨p, vs, of_adr r1, SqL.of hv, fun z hz => q z G _ e (wd_newL w hz (rv.cut l u))⟩
theorem cutD_whole {α : Type} {xs : List α} (h : HT.sIx xs.length 0 l = 0 ∧ HT.sIx xs.length xs.length u = xs.length) : cutD xs l u = xs := by
  unfold cutD
  rw [h.1, h.2]
  simp
theorem x_slT (ha : XE X a ρ M (.tup ds) M1) (hlo : XO X lo ρ M1 l M2) (hhi : XO X hi ρ M2 u M3) : XE X (.Subscript a (.Slice lo hi none p2) pos) ρ M (.tup (cutD ds l u)) M3 := .mk <|
  sl_gen (W := fun G Q => Wish X.K G M3 (.tup (cutD ds l u)) Q) sl_tupF ha hlo hhi fun G G0 H x Q e w r1 q => by
    obtain ⟨p, vs, rfl, hp, rv⟩ := of_tup r1
    refine ⟨p, vs, rfl, (hp.mono w.ex).sq, fun hw => ?_, fun _ z o h1 h2 hz => ?_⟩
    · rw [rv.length] at hw
      exact q.use e w (by rw [cutD_whole hw]; exact rep_tup hp rv)
    · exact q.use (e.trans (w.exF hz _)) (w.newF hz _) (rep_tup (pt_new h1 h2) ((rv.cut l u).mono (w.exF hz _) _))
theorem x_slS {s : Str} (ha : XE X a ρ M (.str s) M1) (hlo : XO X lo ρ M1 l M2) (hhi : XO X hi ρ M2 u M3) (hl : s.length ≤ sizeLine) : XE X (.Subscript a (.Slice lo hi none p2) pos) ρ M (.str (cutS s l u)) M3 := .mk <|
  sl_gen (W := fun G Q => Wish X.K G M3 (.str (cutS s l u)) Q) sl_str ha hlo hhi fun G G0 H x Q e w r1 q => ⟨s, of_str r1, hl, q.use e w rep_str⟩

/-! comparisons -/
theorem c_lt (ha : XE X a ρ M (.int i) M1) (hb : XE X b ρ M1 (.int j) M2) : XC X .Lt a b ρ M (.bl (decide (i < j))) M2 := XC.bin op_lt ha hb fun _ _ _ _ _ w r1 r2 q => ⟨i, j, of_int r1, of_int r2, q.use (Ex.refl _) w rep_bl⟩
theorem c_le (ha : XE X a ρ M (.int i) M1) (hb : XE X b ρ M1 (.int j) M2) : XC X .LtE a b ρ M (.bl (decide (i ≤ j))) M2 := XC.bin op_le ha hb fun _ _ _ _ _ w r1 r2 q => ⟨i, j, of_int r1, of_int r2, q.use (Ex.refl _) w rep_bl⟩
theorem c_gt (ha : XE X a ρ M (.int i) M1) (hb : XE X b ρ M1 (.int j) M2) : XC X .Gt a b ρ M (.bl (decide (j < i))) M2 := XC.bin op_gt ha hb fun _ _ _ _ _ w r1 r2 q => ⟨i, j, of_int r1, of_int r2, q.use (Ex.refl _) w rep_bl⟩
theorem c_ge (ha : XE X a ρ M (.int i) M1) (hb : XE X b ρ M1 (.int j) M2) : XC X .GtE a b ρ M (.bl (decide (j ≤ i))) M2 := XC.bin op_ge ha hb fun _ _ _ _ _ w r1 r2 q => ⟨i, j, of_int r1, of_int r2, q.use (Ex.refl _) w rep_bl⟩
theorem dV_int {i j : Int} : decide (V.int i = V.int j) = decide (i = j) := by
  by_cases h : i = j
  · rw [decide_eq_true h, h]; simp
  · rw [decide_eq_false h]; simp [h]
theorem dV_str {i j : Str} : decide (V.str i = V.str j) = decide (i = j) := by
  by_cases h : i = j
  · rw [decide_eq_true h, h]; simp
  · rw [decide_eq_false h]; simp [h]
theorem dV_bl {i j : Bool} : decide (V.bl i = V.bl j) = decide (i = j) := by cases i <;> cases j <;> decide
theorem c_eqI (ha : XE X a ρ M (.int i) M1) (hb : XE X b ρ M1 (.int j) M2) : XC X .Eq a b ρ M (.bl (decide (i = j))) M2 := XC.bin op_eq ha hb fun _ _ _ _ _ w r1 r2 q => by
  rw [of_int r1, of_int r2]; exact ⟨rfl, by rw [dV_int]; exact q.use (Ex.refl _) w rep_bl⟩
theorem c_neI (ha : XE X a ρ M (.int i) M1) (hb : XE X b ρ M1 (.int j) M2) : XC X .NotEq a b ρ M (.bl (!decide (i = j))) M2 := XC.bin op_ne ha hb fun _ _ _ _ _ w r1 r2 q => by
  rw [of_int r1, of_int r2]; exact ⟨rfl, by rw [dV_int]; exact q.use (Ex.refl _) w rep_bl⟩
variable {s t : Str} {f g : Bool}
theorem c_eqS (ha : XE X a ρ M (.str s) M1) (hb : XE X b ρ M1 (.str t) M2) : XC X .Eq a b ρ M (.bl (decide (s = t))) M2 := XC.bin op_eq ha hb fun _ _ _ _ _ w r1 r2 q => by
  rw [of_str r1, of_str r2]; exact ⟨rfl, by rw [dV_str]; exact q.use (Ex.refl _) w rep_bl⟩
theorem c_neS (ha : XE X a ρ M (.str s) M1) (hb : XE X b ρ M1 (.str t) M2) : XC X .NotEq a b ρ M (.bl (!decide (s = t))) M2 := XC.bin op_ne ha hb fun _ _ _ _ _ w r1 r2 q => by
  rw [of_str r1, of_str r2]; exact ⟨rfl, by rw [dV_str]; exact q.use (Ex.refl _) w rep_bl⟩
theorem c_eqB (ha : XE X a ρ M (.bl f) M1) (hb : XE X b ρ M1 (.bl g) M2) : XC X .Eq a b ρ M (.bl (decide (f = g))) M2 := XC.bin op_eq ha hb fun _ _ _ _ _ w r1 r2 q => by
  rw [of_bl r1, of_bl r2]; exact ⟨rfl, by rw [dV_bl]; exact q.use (Ex.refl _) w rep_bl⟩
theorem c_neB (ha : XE X a ρ M (.bl f) M1) (hb : XE X b ρ M1 (.bl g) M2) : XC X .NotEq a b ρ M (.bl (!decide (f = g))) M2 := XC.bin op_ne ha hb fun _ _ _ _ _ w r1 r2 q => by
  rw [of_bl r1, of_bl r2]; exact ⟨rfl, by rw [dV_bl]; exact q.use (Ex.refl _) w rep_bl⟩
def D.isNon : D → Bool
  | .non => true
  | _ => false
theorem rep_isNon {K : PySem.W.Frag} {G : Hp} {x : V} (h : Rep K G d x) : decide (x = .non) = d.isNon := by
  cases d <;> unfold Rep at h
  case non => subst h; rfl
  case bl => subst h; rfl
  case int => subst h; rfl
  case str => subst h; rfl
  case adr => subst h; rfl
  case ty => subst h; rfl
  all_goals (obtain ⟨a, vs, rfl, _⟩ := h; rfl)
theorem c_isN (ha : XE X a ρ M d M1) (hb : XE X b ρ M1 .non M2) : XC X .Is a b ρ M (.bl d.isNon) M2 := XC.bin op_isN ha hb fun _ _ _ _ _ w r1 r2 q => ⟨of_non r2, by rw [rep_isNon r1]; exact q.use (Ex.refl _) w rep_bl⟩
theorem c_notN (ha : XE X a ρ M d M1) (hb : XE X b ρ M1 .non M2) : XC X .IsNot a b ρ M (.bl (!d.isNon)) M2 := XC.bin op_notN ha hb fun _ _ _ _ _ w r1 r2 q => ⟨of_non r2, by rw [rep_isNon r1]; exact q.use (Ex.refl _) w rep_bl⟩
/-- a sign in a text -/
theorem c_inS {n : Nat} (ha : XE X a ρ M (.str ⟨#[n]⟩) M1) (hb : XE X b ρ M1 (.str t) M2) : XC X .In a b ρ M (.bl (decide (n ∈ t.cps.toList))) M2 := XC.bin op_in_sign ha hb fun _ _ _ _ _ w r1 r2 q => ⟨n, t, of_str r1, of_str r2, q.use (Ex.refl _) w rep_bl⟩
theorem c_notInS {n : Nat} (ha : XE X a ρ M (.str ⟨#[n]⟩) M1) (hb : XE X b ρ M1 (.str t) M2) : XC X .NotIn a b ρ M (.bl (!decide (n ∈ t.cps.toList))) M2 := XC.bin op_notIn_sign ha hb fun _ _ _ _ _ w r1 r2 q => ⟨n, t, of_str r1, of_str r2, q.use (Ex.refl _) w rep_bl⟩
/-- in a sequence of texts, of numbers -/
theorem inV_strs {s : Str} : ∀ {ns : List Str}, inV (.str s) (ns.map V.str) = decide (s ∈ ns)
  | [] => by simp [inV]
  | n :: ns => by
    have ih := inV_strs (s := s) (ns := ns)
    unfold inV at ih ⊢
    rw [List.map_cons, List.any_cons, ih]
    by_cases h : n = s
    · subst h; simp [eqV]
    · have : s ≠ n := fun e => h e.symm
      simp [eqV, h, this]
theorem inV_ints {s : Int} : ∀ {ns : List Int}, inV (.int s) (ns.map V.int) = decide (s ∈ ns)
  | [] => by simp [inV]
  | n :: ns => by
    have ih := inV_ints (s := s) (ns := ns)
    unfold inV at ih ⊢
    rw [List.map_cons, List.any_cons, ih]
    by_cases h : n = s
    · subst h; simp [eqV]
    · have : s ≠ n := fun e => h e.symm
      simp [eqV, h, this]
theorem flat_strs : ∀ {ns : List Str}, (ns.map V.str).all flatV = true
  | [] => rfl
  | n :: ns => by rw [List.map_cons, List.all_cons, flat_strs]; rfl
theorem flat_ints : ∀ {ns : List Int}, (ns.map V.int).all flatV = true
  | [] => rfl
  | n :: ns => by rw [List.map_cons, List.all_cons, flat_ints]; rfl
/-- what may be read as a list or tuple of ds, under M -/
inductive SeqD (M : Mem) : D → List D → Prop where
  | tup (ds : List D) : SeqD M (.tup ds) ds
  | lst (ds : List D) : SeqD M (.lst ds) ds
  | rlst (ds : List D) : SeqD M (.rlst ds) ds
  | own (k : Nat) (p : Addr) (ds : List D) (h : M[k]? = some (p, .lst ds)) : SeqD M (.adr p) ds
theorem SeqD.get {K : PySem.W.Frag} {G H : Hp} {x : V} (h : SeqD M d ds) (w : Wd K G M H) (r : Rep K G d x) : ∃ a vs, x = .ref a ∧ (SqL K H a vs ∨ SqT K H a vs) ∧ RepL K G ds vs := by
  cases h with
  | tup => obtain ⟨a, vs, rfl, h, rv⟩ := of_tup r; exact ⟨a, vs, rfl, .inr (h.mono w.ex).sq, rv⟩
  | lst => obtain ⟨a, vs, rfl, h, rv⟩ := of_lst r; exact ⟨a, vs, rfl, .inl (SqL.of (w.ex _ _ h)), rv⟩
  | rlst => obtain ⟨a, vs, rfl, h, rv⟩ := of_rlst r; exact ⟨a, vs, rfl, .inl (ex_l w.ex h), rv⟩
  | own k p _ hk => obtain ⟨vs, hv, rv⟩ := (w.at hk).2; exact ⟨p, vs, of_adr r, .inl (SqL.of hv), rv⟩
theorem c_inStrs {ns : List Str} (ha : XE X a ρ M (.str s) M1) (hb : XE X b ρ M1 d M2) (hq : SeqD M2 d (ns.map D.str)) : XC X .In a b ρ M (.bl (decide (s ∈ ns))) M2 := XC.bin op_in_seq ha hb fun G H x y Q w r1 r2 q => by
  obtain ⟨a, vs, rfl, hv, rv⟩ := hq.get w r2
  rw [of_str r1]
  have := rv.strs; subst this
  exact ⟨a, _, rfl, hv, rfl, flat_strs, by rw [if_neg Bool.false_ne_true, inV_strs]; exact q.use (Ex.refl _) w rep_bl⟩
theorem c_notInStrs {ns : List Str} (ha : XE X a ρ M (.str s) M1) (hb : XE X b ρ M1 d M2) (hq : SeqD M2 d (ns.map D.str)) : XC X .NotIn a b ρ M (.bl (!decide (s ∈ ns))) M2 := XC.bin op_notIn_seq ha hb fun G H x y Q w r1 r2 q => by
  obtain ⟨a, vs, rfl, hv, rv⟩ := hq.get w r2
  rw [of_str r1]
  have := rv.strs; subst this
  exact ⟨a, _, rfl, hv, rfl, flat_strs, by rw [if_pos rfl, inV_strs]; exact q.use (Ex.refl _) w rep_bl⟩
theorem c_inInts {ns : List Int} (ha : XE X a ρ M (.int i) M1) (hb : XE X b ρ M1 d M2) (hq : SeqD M2 d (ns.map D.int)) : XC X .In a b ρ M (.bl (decide (i ∈ ns))) M2 := XC.bin op_in_seq ha hb fun G H x y Q w r1 r2 q => by
  obtain ⟨a, vs, rfl, hv, rv⟩ := hq.get w r2
  rw [of_int r1]
  have := rv.ints; subst this
  exact ⟨a, _, rfl, hv, rfl, flat_ints, by rw [if_neg Bool.false_ne_true, inV_ints]; exact q.use (Ex.refl _) w rep_bl⟩
theorem c_notInInts {ns : List Int} (ha : XE X a ρ M (.int i) M1) (hb : XE X b ρ M1 d M2) (hq : SeqD M2 d (ns.map D.int)) : XC X .NotIn a b ρ M (.bl (!decide (i ∈ ns))) M2 := XC.bin op_notIn_seq ha hb fun G H x y Q w r1 r2 q => by
  obtain ⟨a, vs, rfl, hv, rv⟩ := hq.get w r2
  rw [of_int r1]
  have := rv.ints; subst this
  exact ⟨a, _, rfl, hv, rfl, flat_ints, by rw [if_pos rfl, inV_ints]; exact q.use (Ex.refl _) w rep_bl⟩

/-! deep equality -/
mutual
def D.py : D → PyData
  | .non => .none
  | .bl b => .bool b
  | .int i => .int i
  | .str s => .str s
  | .tup xs => .tuple (D.pys xs)
  | .lst xs => .list (D.pys xs)
  | .rlst xs => .list (D.pys xs)
  | _ => .none
def D.pys : List D → List PyData
  | [] => []
  | d :: ds => D.py d :: D.pys ds
end
mutual
/-- may be compared -/
def D.ok : D → Bool
  | .non => true
  | .bl _ => true
  | .int _ => true
  | .str _ => true
  | .tup xs => D.oks xs
  | .lst xs => D.oks xs
  | .rlst xs => D.oks xs
  | _ => false
def D.oks : List D → Bool
  | [] => true
  | d :: ds => D.ok d && D.oks ds
end
mutual
theorem rep_dp {K : PySem.W.Frag} {G H : Hp} (e : Ex G H) : ∀ (d : D) (x : V), d.ok = true → Rep K G d x → Dp K H x d.py
  | .non, x, _, r => by unfold Rep at r; subst r; unfold D.py; exact .non
  | .bl b, x, _, r => by unfold Rep at r; subst r; unfold D.py; exact .bl b
  | .int i, x, _, r => by unfold Rep at r; subst r; unfold D.py; exact .int i
  | .str s, x, _, r => by unfold Rep at r; subst r; unfold D.py; exact .str s
  | .tup xs, x, k, r => by
    unfold D.ok at k; unfold D.py
    obtain ⟨a, vs, rfl, h, rv⟩ := of_tup r
    exact .tup (h.mono e).sq (rep_dps e xs vs k rv)
  | .lst xs, x, k, r => by
    unfold D.ok at k; unfold D.py
    obtain ⟨a, vs, rfl, h, rv⟩ := of_lst r
    exact .lst (SqL.of (e _ _ h)) (rep_dps e xs vs k rv)
  | .rlst xs, x, k, r => by
    unfold D.ok at k; unfold D.py
    obtain ⟨a, vs, rfl, h, rv⟩ := of_rlst r
    exact .lst (ex_l e h) (rep_dps e xs vs k rv)
  | .dK _ _, _, k, _ => by simp [D.ok] at k
  | .dT _ _, _, k, _ => by simp [D.ok] at k
  | .adr _, _, k, _ => by simp [D.ok] at k
  | .ty _, _, k, _ => by simp [D.ok] at k
theorem rep_dps {K : PySem.W.Frag} {G H : Hp} (e : Ex G H) : ∀ (ds : List D) (vs : List V), D.oks ds = true → RepL K G ds vs → DpAll K H vs (D.pys ds)
  | [], vs, _, r => by unfold RepL at r; subst r; unfold D.pys; exact .nil
  | d :: ds, vs, k, r => by
    unfold D.oks at k
    rw [Bool.and_eq_true] at k
    unfold RepL at r
    obtain ⟨v, rr, rfl, r1, r2⟩ := r
    unfold D.pys
    exact .cons (rep_dp e d v k.1 r1) (rep_dps e ds rr k.2 r2)
end
/-- of any kind, by what they are -/
def D.eqv (d e : D) : Bool := PyData.eqv d.py e.py
def D.fit (d : D) : Prop := d.ok = true ∧ SeqAt.shaped d.py = true
theorem c_eqD (hu : X.A.units + 64 < cLine) (ha : XE X a ρ M d1 M1) (hb : XE X b ρ M1 d2 M2) (h1 : d1.fit) (h2 : d2.fit) : XC X .Eq a b ρ M (.bl (d1.eqv d2)) M2 := XC.bin (op_eqD hu) ha hb fun G H x y Q w r1 r2 q =>
  ⟨d1.py, d2.py, rep_dp w.ex d1 x h1.1 r1, rep_dp w.ex d2 y h2.1 r2, h1.2, h2.2, q.use (Ex.refl _) w rep_bl⟩
theorem c_neD (hu : X.A.units + 64 < cLine) (ha : XE X a ρ M d1 M1) (hb : XE X b ρ M1 d2 M2) (h1 : d1.fit) (h2 : d2.fit) : XC X .NotEq a b ρ M (.bl (!d1.eqv d2)) M2 := XC.bin (op_neD hu) ha hb fun G H x y Q w r1 r2 q =>
  ⟨d1.py, d2.py, rep_dp w.ex d1 x h1.1 r1, rep_dp w.ex d2 y h2.1 r2, h1.2, h2.2, q.use (Ex.refl _) w rep_bl⟩

/-! a comparison as a value, as a test -/
variable {op : CmpOp}
theorem x_cmp (h : XC X op a b ρ M d M1) (hb : behindInMarks op b = false := by first | exact nobehind _ (by decide) (by decide) | rfl) : XE X (.Compare a [op] [b] pos) ρ M d M1 := .mk fun G σ H Q sl w q => Sem.of (pe_cmp pc_sem hb) (h.run G σ H Q sl w q)
theorem t_cmp {k : Bool} (h : XC X op a b ρ M (.bl k) M1) (hb : behindInMarks op b = false := by first | exact nobehind _ (by decide) (by decide) | rfl) : XT X (.Compare a [op] [b] pos) ρ M k M1 := .mk fun G σ H Q sl w q =>
  SemT.of (pt_cmp pc_sem hb) (h.run G σ H _ sl w fun v G' H' e' w' r' => ⟨k, of_bl r', q G' H' e' w'⟩)
theorem t_val {k : Bool} (h : XE X e ρ M (.bl k) M1) (he : ∀ whole, isTrue e X.env whole = (do let v ← whole; standAt e.pos; holding [v] (truthy v)) := by exact tr_of rfl) : XT X e ρ M k M1 := .mk fun G σ H Q sl w q =>
  SemT.of (pt_val pe_sem he) (h.run G σ H _ sl w fun v G' H' e' w' r' => ⟨k, of_bl r', q G' H' e' w'⟩)
theorem t_not {k : Bool} (h : XT X a ρ M k M1) : XT X (.UnaryOp .Not a pos) ρ M (!k) M1 := .mk fun G σ H Q sl w q =>
  SemT.of (pt_not pt_sem) (h.run G σ H _ sl w q)
theorem t_w {k : Bool} (h : XW X a ρ M k M1) : XT X a ρ M k M1 := .mk fun G σ H Q sl w q => SemT.of (PW.pt pw_sem) (h.run G σ H Q sl w q)
theorem w_and1 {k : Bool} (h : XT X a ρ M k M1) : XW X (.BoolOp .And [a] pos) ρ M k M1 := .mk fun G σ H Q sl w q => SemW.of (pw_and1 pt_sem) (h.run G σ H Q sl w q)
theorem w_or1 {k : Bool} (h : XT X a ρ M k M1) : XW X (.BoolOp .Or [a] pos) ρ M k M1 := .mk fun G σ H Q sl w q => SemW.of (pw_or1 pt_sem) (h.run G σ H Q sl w q)
theorem w_and {k m : Bool} (h : XT X a ρ M k M1) (hr : k = true → XW X (.BoolOp .And (b :: es) pos) ρ M1 m M2) (hf : k = false → m = false ∧ M2 = M1) : XW X (.BoolOp .And (a :: b :: es) pos) ρ M m M2 := .mk fun G σ H Q sl w q =>
  SemW.of (pw_and pt_sem pw_sem) (h.run G σ H _ sl w fun G' H' e' w' => by
    cases k with
    | true => rw [if_pos rfl]; exact (hr rfl).run G' σ H' Q (sl.mono e') w' fun G2 H2 e2 w2 => q G2 H2 (e'.trans e2) w2
    | false =>
      obtain ⟨rfl, rfl⟩ := hf rfl
      rw [if_neg Bool.false_ne_true]; exact q G' H' e' w')
theorem w_or {k m : Bool} (h : XT X a ρ M k M1) (hr : k = false → XW X (.BoolOp .Or (b :: es) pos) ρ M1 m M2) (hf : k = true → m = true ∧ M2 = M1) : XW X (.BoolOp .Or (a :: b :: es) pos) ρ M m M2 := .mk fun G σ H Q sl w q =>
  SemW.of (pw_or pt_sem pw_sem) (h.run G σ H _ sl w fun G' H' e' w' => by
    cases k with
    | false => rw [if_neg Bool.false_ne_true]; exact (hr rfl).run G' σ H' Q (sl.mono e') w' fun G2 H2 e2 w2 => q G2 H2 (e'.trans e2) w2
    | true =>
      obtain ⟨rfl, rfl⟩ := hf rfl
      rw [if_pos rfl]; exact q G' H' e' w')
/-- pure second parts -/
theorem w_andP {k m : Bool} (h : XT X a ρ M k M1) (hr : k = true → XW X (.BoolOp .And (b :: es) pos) ρ M1 m M1) : XW X (.BoolOp .And (a :: b :: es) pos) ρ M (k && m) M1 := by
  cases k with
  | true => exact w_and h (fun _ => by simpa using hr rfl) (fun e => by cases e)
  | false => exact w_and h (fun e => by cases e) (fun _ => ⟨rfl, rfl⟩)
theorem w_orP {k m : Bool} (h : XT X a ρ M k M1) (hr : k = false → XW X (.BoolOp .Or (b :: es) pos) ρ M1 m M1) : XW X (.BoolOp .Or (a :: b :: es) pos) ρ M (k || m) M1 := by
  cases k with
  | false => exact w_or h (fun _ => by simpa using hr rfl) (fun e => by cases e)
  | true => exact w_or h (fun e => by cases e) (fun _ => ⟨rfl, rfl⟩)
/-! and, or, not of truths as values -/
theorem x_one {o : BoolOp} (h : XE X a ρ M d M1) : XE X (.BoolOp o [a] pos) ρ M d M1 := .mk fun G σ H Q sl w q => Sem.of (pe_one pe_sem) (h.run G σ H Q sl w q)
theorem x_and {k m : Bool} (h : XE X a ρ M (.bl k) M1) (hr : k = true → XE X (.BoolOp .And (b :: es) pos) ρ M1 (.bl m) M2) (hf : k = false → m = false ∧ M2 = M1) : XE X (.BoolOp .And (a :: b :: es) pos) ρ M (.bl m) M2 := .mk fun G σ H Q sl w q =>
  Sem.of (pe_and pe_sem pe_sem) (h.run G σ H _ sl w fun v G' H' e' w' r' => ⟨k, of_bl r', by
    cases k with
    | true => rw [if_pos rfl]; exact (hr rfl).run G' σ H' Q (sl.mono e') w' (q.up e')
    | false =>
      obtain ⟨rfl, rfl⟩ := hf rfl
      rw [if_neg Bool.false_ne_true]; exact q.use e' w' rep_bl⟩)
theorem x_or {k m : Bool} (h : XE X a ρ M (.bl k) M1) (hr : k = false → XE X (.BoolOp .Or (b :: es) pos) ρ M1 (.bl m) M2) (hf : k = true → m = true ∧ M2 = M1) : XE X (.BoolOp .Or (a :: b :: es) pos) ρ M (.bl m) M2 := .mk fun G σ H Q sl w q =>
  Sem.of (pe_or pe_sem pe_sem) (h.run G σ H _ sl w fun v G' H' e' w' r' => ⟨k, of_bl r', by
    cases k with
    | false => rw [if_neg Bool.false_ne_true]; exact (hr rfl).run G' σ H' Q (sl.mono e') w' (q.up e')
    | true =>
      obtain ⟨rfl, rfl⟩ := hf rfl
      rw [if_pos rfl]; exact q.use e' w' rep_bl⟩)
theorem x_andP {k m : Bool} (h : XE X a ρ M (.bl k) M1) (hr : k = true → XE X (.BoolOp .And (b :: es) pos) ρ M1 (.bl m) M1) : XE X (.BoolOp .And (a :: b :: es) pos) ρ M (.bl (k && m)) M1 := by
  cases k with
  | true => exact x_and h (fun _ => by simpa using hr rfl) (fun e => by cases e)
  | false => exact x_and h (fun e => by cases e) (fun _ => ⟨rfl, rfl⟩)
theorem x_orP {k m : Bool} (h : XE X a ρ M (.bl k) M1) (hr : k = false → XE X (.BoolOp .Or (b :: es) pos) ρ M1 (.bl m) M1) : XE X (.BoolOp .Or (a :: b :: es) pos) ρ M (.bl (k || m)) M1 := by
  cases k with
  | false => exact x_or h (fun _ => by simpa using hr rfl) (fun e => by cases e)
  | true => exact x_or h (fun e => by cases e) (fun _ => ⟨rfl, rfl⟩)
theorem x_not {k : Bool} (h : XE X a ρ M (.bl k) M1) : XE X (.UnaryOp .Not a pos) ρ M (.bl (!k)) M1 := .mk fun G σ H Q sl w q =>
  Sem.of (pe_not pe_sem) (h.run G σ H _ sl w fun v G' H' e' w' r' => ⟨k, of_bl r', q.use e' w' rep_bl⟩)
theorem x_if {k : Bool} (hc : XT X c ρ M k M1) (h1 : k = true → XE X a ρ M1 d M2) (h2 : k = false → XE X b ρ M1 d M2) : XE X (.IfExp c a b pos) ρ M d M2 := .mk fun G σ H Q sl w q =>
  Sem.of (pe_ifExp pt_sem pe_sem pe_sem) (hc.run G σ H _ sl w fun G' H' e' w' => by
    cases k with
    | true => rw [if_pos rfl]; exact (h1 rfl).run G' σ H' Q (sl.mono e') w' (q.up e')
    | false => rw [if_neg Bool.false_ne_true]; exact (h2 rfl).run G' σ H' Q (sl.mono e') w' (q.up e'))
end
end Wk

/-! Wk: calls of builtins and of methods of built-in types. -/
namespace Wk
open PySem PySem.Spec PyProof.Rows L2 Evl

theorem boot_len' : bootBuiltins "len" = some (.builtin "len") := PySem.boot_len
theorem boot_sum' : bootBuiltins "sum" = some (.builtin "sum") := by decide +kernel
theorem boot_max' : bootBuiltins "max" = some (.builtin "max") := by decide +kernel
theorem boot_min' : bootBuiltins "min" = some (.builtin "min") := by decide +kernel
theorem boot_all' : bootBuiltins "all" = some (.builtin "all") := by decide +kernel
theorem boot_range' : bootBuiltins "range" = some (.type "range") := by decide +kernel

section
variable {X : Cx} {e a b c : Expr} {es : List Expr} {ρ : Env} {M M1 M2 M3 : Mem} {d d1 d2 d3 : D} {ds ds1 ds2 : List D} {pos p apos : Pos} {i j : Int} {q : Addr} {x : Str} {fid T : String} {o : MO} {r : List V → Hp → VK → Prop}

theorem XE.callB (hc : CallR X (.builtin fid) r) (hv : bootBuiltins x = some (.builtin fid)) (ha : XA X (e :: es) ρ M ds M1)
    (k : ∀ G H vs Q, Wd X.K G M1 H → RepL X.K G ds vs → Wish X.K G M2 d Q → r vs H Q) (hm : X.mg x = none) (hg : Gl X x) (hn : x ≠ "__name__") (hdb : (x == ("__debug__" : Str)) = false)
    (he : starEach (e :: es) X.env = (false, eval e X.env) :: starEach es X.env) (hpl : (backTo pos (starEach es X.env)).any (·.1) = false) : XE X (.Call (.Name x p) (e :: es) [] pos) ρ M d M2 := .mk fun G σ H Q sl w q =>
  Sem.of (pe_callB hc hg hm hv pa_sem hn hdb he hpl) (ha.run G σ H _ sl w fun vs G1 H1 e1 w1 r1 => k G1 H1 vs Q w1 r1 (q.up e1))
theorem XN.callB (hc : CallR X (.builtin fid) r) (hv : bootBuiltins x = some (.builtin fid)) (ha : XA X (e :: es) ρ M ds M1)
    (k : ∀ G H vs Q, Wd X.K G M1 H → RepL X.K G ds vs → (∀ p G' H', Ex G G' → Wd X.K G' ((p, o) :: M2) H' → Q (.ref p) H') → r vs H Q) (hm : X.mg x = none) (hg : Gl X x) (hn : x ≠ "__name__") (hdb : (x == ("__debug__" : Str)) = false)
    (he : starEach (e :: es) X.env = (false, eval e X.env) :: starEach es X.env) (hpl : (backTo pos (starEach es X.env)).any (·.1) = false) : XN X (.Call (.Name x p) (e :: es) [] pos) ρ M o M2 := .mk fun G σ H Q sl w q =>
  Sem.of (pe_callB hc hg hm hv pa_sem hn hdb he hpl) (ha.run G σ H _ sl w fun vs G1 H1 e1 w1 r1 => k G1 H1 vs Q w1 r1 fun p G' H' e2 w2 => q p G' H' (e1.trans e2) w2)
theorem XE.callTy (hc : CallR X (.type T) r) (hv : bootBuiltins x = some (.type T)) (ha : XA X (e :: es) ρ M ds M1)
    (k : ∀ G H vs Q, Wd X.K G M1 H → RepL X.K G ds vs → Wish X.K G M2 d Q → r vs H Q) (hm : X.mg x = none) (hg : Gl X x) (hn : x ≠ "__name__") (hdb : (x == ("__debug__" : Str)) = false)
    (he : starEach (e :: es) X.env = (false, eval e X.env) :: starEach es X.env) (hpl : (backTo pos (starEach es X.env)).any (·.1) = false) : XE X (.Call (.Name x p) (e :: es) [] pos) ρ M d M2 := .mk fun G σ H Q sl w q =>
  Sem.of (pe_callTy hc hg hm hv pa_sem hn hdb he hpl) (ha.run G σ H _ sl w fun vs G1 H1 e1 w1 r1 => k G1 H1 vs Q w1 r1 (q.up e1))
theorem XN.callTy (hc : CallR X (.type T) r) (hv : bootBuiltins x = some (.type T)) (ha : XA X (e :: es) ρ M ds M1)
    (k : ∀ G H vs Q, Wd X.K G M1 H → RepL X.K G ds vs → (∀ p G' H', Ex G G' → Wd X.K G' ((p, o) :: M2) H' → Q (.ref p) H') → r vs H Q) (hm : X.mg x = none) (hg : Gl X x) (hn : x ≠ "__name__") (hdb : (x == ("__debug__" : Str)) = false)
    (he : starEach (e :: es) X.env = (false, eval e X.env) :: starEach es X.env) (hpl : (backTo pos (starEach es X.env)).any (·.1) = false) : XN X (.Call (.Name x p) (e :: es) [] pos) ρ M o M2 := .mk fun G σ H Q sl w q =>
  Sem.of (pe_callTy hc hg hm hv pa_sem hn hdb he hpl) (ha.run G σ H _ sl w fun vs G1 H1 e1 w1 r1 => k G1 H1 vs Q w1 r1 fun p G' H' e2 w2 => q p G' H' (e1.trans e2) w2)
theorem RepL.one {K : PySem.W.Frag} {G : Hp} {vs : List V} (h : RepL K G [d] vs) : ∃ v, vs = [v] ∧ Rep K G d v := by
  unfold RepL at h
  obtain ⟨v, r, rfl, h1, h2⟩ := h
  unfold RepL at h2
  subst h2
  exact ⟨v, rfl, h1⟩
theorem RepL.two {K : PySem.W.Frag} {G : Hp} {vs : List V} (h : RepL K G [d1, d2] vs) : ∃ v w, vs = [v, w] ∧ Rep K G d1 v ∧ Rep K G d2 w := by
  unfold RepL at h
  obtain ⟨v, r, rfl, h1, h2⟩ := h
  obtain ⟨w, rfl, h3⟩ := h2.one
  exact ⟨v, w, rfl, h1, h3⟩

/-! len -/
theorem x_len (ha : XA X [a] ρ M [d] M1) (hq : SeqD M1 d ds) (hm : X.mg "len" = none) (hg : Gl X "len" := by rfl) (he : starEach [a] X.env = (false, eval a X.env) :: starEach [] X.env := by exact star_of rfl) :
    XE X (.Call (.Name "len" p) [a] [] pos) ρ M (.int (ds.length : Nat)) M1 := XE.callB call_len_seq boot_len' ha (fun G H vs Q w rs q => by
  obtain ⟨v, rfl, r⟩ := rs.one
  obtain ⟨a, us, rfl, hs, rv⟩ := hq.get w r
  exact ⟨a, us, rfl, hs, q.use (Ex.refl G) w (by rw [rv.length]; exact rep_int)⟩) hm hg (by decide) (by decide) he (by rfl)
theorem x_lenS {s : Str} (ha : XA X [a] ρ M [.str s] M1) (hl : s.length ≤ sizeLine) (hm : X.mg "len" = none) (hg : Gl X "len" := by rfl) (he : starEach [a] X.env = (false, eval a X.env) :: starEach [] X.env := by exact star_of rfl) :
    XE X (.Call (.Name "len" p) [a] [] pos) ρ M (.int (s.length : Nat)) M1 := XE.callB call_len_str boot_len' ha (fun G H vs Q w rs q => by
  obtain ⟨v, rfl, r⟩ := rs.one
  exact ⟨s, by rw [of_str r], hl, q.use (Ex.refl G) w rep_int⟩) hm hg (by decide) (by decide) he (by rfl)
/-! numbers -/
theorem x_max2 (hc : X.calm = true) (ha : XA X [a, b] ρ M [.int i, .int j] M1) (hm : X.mg "max" = none) (hg : Gl X "max" := by rfl) (he : starEach [a, b] X.env = (false, eval a X.env) :: starEach [b] X.env := by exact star_of rfl) (hpl : (backTo pos (starEach [b] X.env)).any (·.1) = false := by exact nostars rfl) :
    XE X (.Call (.Name "max" p) [a, b] [] pos) ρ M (.int (max i j)) M1 := XE.callB (call_max2 hc) boot_max' ha (fun G H vs Q w rs q => by
  obtain ⟨v, u, rfl, r1, r2⟩ := rs.two
  refine ⟨i, j, by rw [of_int r1, of_int r2], q.use (Ex.refl G) w ?_⟩
  have : (if j > i then j else i) = max i j := by split <;> omega
  rw [this]; exact rep_int) hm hg (by decide) (by decide) he hpl
theorem x_min2 (hc : X.calm = true) (ha : XA X [a, b] ρ M [.int i, .int j] M1) (hm : X.mg "min" = none) (hg : Gl X "min" := by rfl) (he : starEach [a, b] X.env = (false, eval a X.env) :: starEach [b] X.env := by exact star_of rfl) (hpl : (backTo pos (starEach [b] X.env)).any (·.1) = false := by exact nostars rfl) :
    XE X (.Call (.Name "min" p) [a, b] [] pos) ρ M (.int (min i j)) M1 := XE.callB (call_min2 hc) boot_min' ha (fun G H vs Q w rs q => by
  obtain ⟨v, u, rfl, r1, r2⟩ := rs.two
  refine ⟨i, j, by rw [of_int r1, of_int r2], q.use (Ex.refl G) w ?_⟩
  have : (if j < i then j else i) = min i j := by split <;> omega
  rw [this]; exact rep_int) hm hg (by decide) (by decide) he hpl
theorem x_abs (ha : XA X [a] ρ M [.int i] M1) (hm : X.mg "abs" = none) (hg : Gl X "abs" := by rfl) (he : starEach [a] X.env = (false, eval a X.env) :: starEach [] X.env := by exact star_of rfl) :
    XE X (.Call (.Name "abs" p) [a] [] pos) ρ M (.int i.natAbs) M1 := XE.callB call_abs boot_abs ha (fun G H vs Q w rs q => by
  obtain ⟨v, rfl, r⟩ := rs.one
  refine ⟨i, by rw [of_int r], q.use (Ex.refl G) w ?_⟩
  have : (if i < 0 then -i else i) = (i.natAbs : Int) := by split <;> omega
  rw [this]; exact rep_int) hm hg (by decide) (by decide) he (by rfl)
/-- a list (frozen, owned, read) of ints -/
theorem x_sum {ns : List Int} (hc : X.calm = true) (ha : XA X [a] ρ M [d] M1) (hq : SeqD M1 d (ns.map D.int)) (ht : ∀ ds, d ≠ .tup ds := by intro _ h; cases h) (hm : X.mg "sum" = none) (hg : Gl X "sum" := by rfl) (he : starEach [a] X.env = (false, eval a X.env) :: starEach [] X.env := by exact star_of rfl) :
    XE X (.Call (.Name "sum" p) [a] [] pos) ρ M (.int ns.sum) M1 := XE.callB (cr_sum hc) boot_sum' ha (fun G H vs Q w rs q => by
  obtain ⟨v, rfl, r⟩ := rs.one
  have : ∃ a vs, v = .ref a ∧ SqL X.K H a vs ∧ RepL X.K G (ns.map D.int) vs := by
    generalize hd : ns.map D.int = ds at hq
    cases hq with
    | tup => exact absurd rfl (ht _)
    | lst => obtain ⟨a, vs, rfl, h, rv⟩ := of_lst r; exact ⟨a, vs, rfl, SqL.of (w.ex _ _ h), rv⟩
    | rlst => obtain ⟨a, vs, rfl, h, rv⟩ := of_rlst r; exact ⟨a, vs, rfl, ex_l w.ex h, rv⟩
    | own k p _ hk => obtain ⟨vs, hv, rv⟩ := (w.at hk).2; exact ⟨p, vs, of_adr r, SqL.of hv, rv⟩
  obtain ⟨a, us, rfl, hs, rv⟩ := this
  have := rv.ints; subst this
  exact ⟨a, ns, rfl, hs, q.use (Ex.refl G) w rep_int⟩) hm hg (by decide) (by decide) he (by rfl)
theorem x_maxL {ns : List Int} {m : Int} (hc : X.calm = true) (ha : XA X [a] ρ M [.lst (ns.map D.int)] M1) (h0 : m ∈ ns) (hx : ∀ y ∈ ns, y ≤ m) (hm : X.mg "max" = none) (hg : Gl X "max" := by rfl) (he : starEach [a] X.env = (false, eval a X.env) :: starEach [] X.env := by exact star_of rfl) :
    XE X (.Call (.Name "max" p) [a] [] pos) ρ M (.int m) M1 := XE.callB (cr_max hc) boot_max' ha (fun G H vs Q w rs q => by
  obtain ⟨v, rfl, r⟩ := rs.one
  obtain ⟨a, us, rfl, hs, rv⟩ := of_lst r
  have := rv.ints; subst this
  refine ⟨a, ns, rfl, SqL.of (w.ex _ _ hs), List.length_pos_of_mem h0, fun k hk hle => q.use (Ex.refl G) w ?_⟩
  have : k = m := Int.le_antisymm (hx k hk) (hle m h0)
  rw [this]; exact rep_int) hm hg (by decide) (by decide) he (by rfl)
theorem x_allL {bs : List Bool} (hc : X.calm = true) (ha : XA X [a] ρ M [.lst (bs.map D.bl)] M1) (hm : X.mg "all" = none) (hg : Gl X "all" := by rfl) (he : starEach [a] X.env = (false, eval a X.env) :: starEach [] X.env := by exact star_of rfl) :
    XE X (.Call (.Name "all" p) [a] [] pos) ρ M (.bl (bs.all id)) M1 := XE.callB (cr_all hc) boot_all' ha (fun G H vs Q w rs q => by
  obtain ⟨v, rfl, r⟩ := rs.one
  obtain ⟨a, us, rfl, hs, rv⟩ := of_lst r
  have := rv.bls; subst this
  exact ⟨a, bs, rfl, SqL.of (w.ex _ _ hs), q.use (Ex.refl G) w rep_bl⟩) hm hg (by decide) (by decide) he (by rfl)
theorem x_intB {k : Bool} (ha : XA X [a] ρ M [.bl k] M1) (hm : X.mg "int" = none) (hg : Gl X "int" := by rfl) (he : starEach [a] X.env = (false, eval a X.env) :: starEach [] X.env := by exact star_of rfl) :
    XE X (.Call (.Name "int" p) [a] [] pos) ρ M (.int (if k then 1 else 0)) M1 := XE.callTy call_int1 boot_int ha (fun G H vs Q w rs q => by
  obtain ⟨v, rfl, r⟩ := rs.one
  exact .inr ⟨k, by rw [of_bl r], q.use (Ex.refl G) w rep_int⟩) hm hg (by decide) (by decide) he (by rfl)
theorem x_intS {s : Str} {n : Int} (ha : XA X [a] ρ M [.str s] M1) (h1 : PySem.intText? s = some n) (h2 : s.length ≤ 640) (hm : X.mg "int" = none) (hg : Gl X "int" := by rfl) (he : starEach [a] X.env = (false, eval a X.env) :: starEach [] X.env := by exact star_of rfl) :
    XE X (.Call (.Name "int" p) [a] [] pos) ρ M (.int n) M1 := XE.callTy call_int_str boot_int ha (fun G H vs Q w rs q => by
  obtain ⟨v, rfl, r⟩ := rs.one
  exact ⟨s, n, by rw [of_str r], h1, h2, q.use (Ex.refl G) w rep_int⟩) hm hg (by decide) (by decide) he (by rfl)
theorem x_strI (ha : XA X [a] ρ M [.int i] M1) (h : i.natAbs.log2 < 1920) (hm : X.mg "str" = none) (hg : Gl X "str" := by rfl) (he : starEach [a] X.env = (false, eval a X.env) :: starEach [] X.env := by exact star_of rfl) :
    XE X (.Call (.Name "str" p) [a] [] pos) ρ M (.str (toString i)) M1 := XE.callTy call_str_int boot_str ha (fun G H vs Q w rs q => by
  obtain ⟨v, rfl, r⟩ := rs.one
  exact ⟨i, by rw [of_int r], h, q.use (Ex.refl G) w rep_str⟩) hm hg (by decide) (by decide) he (by rfl)
/-! lists and tuples of others -/
theorem n_listOf (ha : XA X [a] ρ M [d] M1) (hq : SeqD M1 d ds) (hm : X.mg "list" = none) (hg : Gl X "list" := by rfl) (he : starEach [a] X.env = (false, eval a X.env) :: starEach [] X.env := by exact star_of rfl) :
    XN X (.Call (.Name "list" p) [a] [] pos) ρ M (.lst ds) M1 := XN.callTy call_list_of boot_list ha (fun G H vs Q w rs q => by
  obtain ⟨v, rfl, r⟩ := rs.one
  obtain ⟨a, us, rfl, hs, rv⟩ := hq.get w r
  exact ⟨a, us, rfl, hs, fun l hl => q l G _ (Ex.refl G) (wd_newL w hl rv)⟩) hm hg (by decide) (by decide) he (by rfl)
theorem x_tupleOf (ha : XA X [a] ρ M [d] M1) (hq : SeqD M1 d ds) (hm : X.mg "tuple" = none) (hg : Gl X "tuple" := by rfl) (he : starEach [a] X.env = (false, eval a X.env) :: starEach [] X.env := by exact star_of rfl) :
    XE X (.Call (.Name "tuple" p) [a] [] pos) ρ M (.tup ds) M1 := XE.callTy call_tuple_ofF boot_tuple ha (fun G H vs Q w rs q => by
  obtain ⟨v, rfl, r⟩ := rs.one
  have hL : ∀ a us, v = .ref a → SqL X.K H a us → RepL X.K G ds us → (∃ p ys, [v] = [V.ref p] ∧ ((SqL X.K H p ys ∧ NewT H ys Q) ∨ (SqT X.K H p ys ∧ Q (.ref p) H))) := fun a us e hs rv =>
    ⟨a, us, by rw [e], .inl ⟨hs, fun l o h1 h2 hl => q.use (w.exF hl _) (w.newF hl _) (rep_tup (pt_new h1 h2) (rv.mono (w.exF hl _) _))⟩⟩
  cases hq with
  | tup => obtain ⟨a, us, rfl, h, rv⟩ := of_tup r; exact ⟨a, us, rfl, .inr ⟨(h.mono w.ex).sq, q.use (Ex.refl G) w (rep_tup h rv)⟩⟩
  | lst => obtain ⟨a, us, e, h, rv⟩ := of_lst r; exact hL a us e (SqL.of (w.ex _ _ h)) rv
  | rlst => obtain ⟨a, us, e, h, rv⟩ := of_rlst r; exact hL a us e (ex_l w.ex h) rv
  | own k p _ hk => obtain ⟨us, hv, rv⟩ := (w.at hk).2; exact hL p us (of_adr r) (SqL.of hv) rv) hm hg (by decide) (by decide) he (by rfl)
/-- range(n), range(a, b) as an argument -/
def SemR (X : Cx) (e : Expr) : L2.St → Hp → (Int → Int → Hp → Prop) → Prop := fun σ H Q => ∀ (pins : List (Addr × Obj)) (s : Shared), Inv X pins σ H s →
    wpAny (model X.prog X.w) X.A (eval e X.env) (fun x s' => ∃ r a b t u v H', x = .ref r ∧ IsRange s'.heap r a b 1 t u v ∧ Inv X pins σ H' s' ∧ Q a b H') X.xe s
theorem prg_sem : PRg X e (SemR X e) := fun pins s σ H Q I h => h pins s I
structure XR (X : Cx) (e : Expr) (ρ : Env) (M : Mem) (lo hi : Int) (M' : Mem) : Prop where
  run : ∀ (G : Hp) (σ : L2.St) (H : Hp) (Q : Int → Int → Hp → Prop), Sl X.K G ρ σ → Wd X.K G M H → (∀ G' H', Ex G G' → Wd X.K G' M' H' → Q lo hi H') → SemR X e σ H Q
theorem r_1 (ha : XE X a ρ M (.int i) M1) (hm : X.mg "range" = none) (hg : Gl X "range" := by rfl) (na : starEach [a] X.env = (false, eval a X.env) :: starEach [] X.env := by exact star_of rfl) : XR X (.Call (.Name "range" p) [a] [] pos) ρ M 0 i M1 := .mk fun G σ H Q sl w q pins s I =>
  prg_1 hg hm pe_sem na pins s σ H Q I (ha.run G σ H _ sl w fun x G' H' e' w' r' => ⟨i, of_int r', q G' H' e' w'⟩)
theorem r_2 (ha : XE X a ρ M (.int i) M1) (hb : XE X b ρ M1 (.int j) M2) (hm : X.mg "range" = none) (hg : Gl X "range" := by rfl) (na : starEach [a, b] X.env = (false, eval a X.env) :: starEach [b] X.env := by exact star_of rfl)
    (nb : starEach [b] X.env = (false, eval b X.env) :: starEach [] X.env := by exact star_of rfl) (hp : (backTo pos (starEach [b] X.env)).any (·.1) = false := by exact nostars rfl) : XR X (.Call (.Name "range" p) [a, b] [] pos) ρ M i j M2 := .mk fun G σ H Q sl w q pins s I =>
  prg_2 hg hm pe_sem pe_sem na nb hp pins s σ H Q I (ha.run G σ H _ sl w fun x G' H' e' w' r' => hb.run G' σ H' _ (sl.mono e') w' fun y G2 H2 e2 w2 r2 => ⟨i, j, of_int r', of_int r2, q G2 H2 (e'.trans e2) w2⟩)
/-- the ints lo .. hi - 1 -/
def rgI (lo hi : Int) : List Int := (List.range (hi - lo).toNat).map fun k => lo + (k : Nat)
theorem rgV_eq (lo hi : Int) : rgV lo hi = (rgI lo hi).map V.int := by unfold rgV rgI; rw [List.map_map]; rfl
theorem n_listRg {lo hi : Int} (hc : X.calm = true) (h : XR X e ρ M lo hi M1) (hk : RgOk lo hi) (hm : X.mg "list" = none) (hg : Gl X "list" := by rfl) (na : starEach [e] X.env = (false, eval e X.env) :: starEach [] X.env := by exact star_of rfl) :
    XN X (.Call (.Name "list" p) [e] [] pos) ρ M (.lst ((rgI lo hi).map D.int)) M1 := .mk fun G σ H Q sl w q =>
  Sem.of (pe_listRg hc hg hm prg_sem na) (h.run G σ H _ sl w fun G' H' e' w' => ⟨hk, fun z hz => q z G' _ e' (wd_newL w' hz (by rw [rgV_eq]; exact RepL.of_ints))⟩)
theorem x_tupRg {lo hi : Int} (hc : X.calm = true) (h : XR X e ρ M lo hi M1) (hk : RgOk lo hi) (hm : X.mg "tuple" = none) (hg : Gl X "tuple" := by rfl) (na : starEach [e] X.env = (false, eval e X.env) :: starEach [] X.env := by exact star_of rfl) :
    XE X (.Call (.Name "tuple" p) [e] [] pos) ρ M (.tup ((rgI lo hi).map D.int)) M1 := .mk fun G σ H Q sl w q =>
  Sem.of (pe_tupRgF hc hg hm prg_sem na) (h.run G σ H _ sl w fun G' H' e' w' => ⟨hk, fun z o h1 h2 hz => q.use (e'.trans (w'.exF hz _)) (w'.newF hz _) (rep_tup (pt_new h1 h2) (by rw [rgV_eq]; exact RepL.of_ints))⟩)
/-- sorted of ints: the list in order -/
theorem n_sortedI {ns : List Int} (ha : XA X [a] ρ M [d] M1) (hq : SeqD M1 d (ns.map D.int)) {ms : List Int} (hs : ∀ ns' : List Int, ns'.Perm ns → ns'.Pairwise (· ≤ ·) → ns' = ms) (ht : ∀ ds, d ≠ .tup ds := by intro _ h; cases h) (hm : X.mg "sorted" = none) (hg : Gl X "sorted" := by rfl) (he : starEach [a] X.env = (false, eval a X.env) :: starEach [] X.env := by exact star_of rfl) :
    XN X (.Call (.Name "sorted" p) [a] [] pos) ρ M (.lst (ms.map D.int)) M1 := XN.callB cr_sortedI boot_sorted ha (fun G H vs Q w rs q => by
  obtain ⟨v, rfl, r⟩ := rs.one
  have : ∃ a vs, v = .ref a ∧ SqL X.K H a vs ∧ RepL X.K G (ns.map D.int) vs := by
    generalize hd : ns.map D.int = ds at hq
    cases hq with
    | tup => exact absurd rfl (ht _)
    | lst => obtain ⟨a, vs, rfl, h, rv⟩ := of_lst r; exact ⟨a, vs, rfl, SqL.of (w.ex _ _ h), rv⟩
    | rlst => obtain ⟨a, vs, rfl, h, rv⟩ := of_rlst r; exact ⟨a, vs, rfl, ex_l w.ex h, rv⟩
    | own k p _ hk => obtain ⟨vs, hv, rv⟩ := (w.at hk).2; exact ⟨p, vs, of_adr r, SqL.of hv, rv⟩
  obtain ⟨a, us, rfl, hsq, rv⟩ := this
  have := rv.ints; subst this
  refine ⟨a, ns, rfl, hsq, fun ns' p h1 h2 hp => ?_⟩
  have := hs ns' h1 h2
  subst this
  exact q p G _ (Ex.refl G) (wd_newL w hp RepL.of_ints)) hm hg (by decide) (by decide) he (by rfl)

/-! methods of built-in types -/
variable {name : Str} {rm : V → List V → Hp → VK → Prop}
/-- o.name(e, ..): what the method does to an object d of M -/
theorem XE.meth (pa : PlainAttrs T) (slot : Slot T name fid) (hty : typeOf (.builtin fid) = pure (.type "method_descriptor")) (hm : MtR X fid rm) (ho : XE X a ρ M d1 M1) (ha : XA X (e :: es) ρ M1 ds M2)
    (ty : ∀ G H v, Wd X.K G M1 H → Rep X.K G d1 v → tyV X.K T v H) (k : ∀ G H v vs Q, Wd X.K G M2 H → Rep X.K G d1 v → RepL X.K G ds vs → Wish X.K G M3 d Q → rm v vs H Q)
    (hbase : attributeBase a name X.env (eval a X.env) = eval a X.env)
    (hfew : ((backTo pos (starEach (e :: es) X.env)).all (fun x => !x.1) && (backToKw pos (keywordEach [] X.env)).all (fun x => x.1.isSome)
      && decide ((e :: es).length + ([] : List Keyword).length + (if ([] : List Keyword).isEmpty then 0 else 1) < 30)) = true)
    (hline : (apos.endLine == pos.line) = true) (hs : starEach (e :: es) X.env = (false, eval e X.env) :: starEach es X.env) (hplain : (backTo pos (starEach es X.env)).any (·.1) = false) :
    XE X (.Call (.Attribute a name apos) (e :: es) [] pos) ρ M d M3 := .mk fun G σ H Q sl w q =>
  Sem.of (pe_bm pa slot hty hm pe_sem pa_sem hbase hfew hline hs hplain) (ho.run G σ H _ sl w fun v G1 H1 e1 w1 r1 => ⟨ty G1 H1 v w1 r1, ha.run G1 σ H1 _ (sl.mono e1) w1 fun vs G2 H2 e2 w2 r2 => k G2 H2 v vs Q w2 (r1.mono e2) r2 (q.up (e1.trans e2))⟩)
theorem XE.meth0 (pa : PlainAttrs T) (slot : Slot T name fid) (hty : typeOf (.builtin fid) = pure (.type "method_descriptor")) (hm : MtR X fid rm) (ho : XE X a ρ M d1 M1)
    (ty : ∀ G H v, Wd X.K G M1 H → Rep X.K G d1 v → tyV X.K T v H) (k : ∀ G H v Q, Wd X.K G M1 H → Rep X.K G d1 v → Wish X.K G M3 d Q → rm v [] H Q)
    (hbase : attributeBase a name X.env (eval a X.env) = eval a X.env) (hline : (apos.endLine == pos.line) = true) :
    XE X (.Call (.Attribute a name apos) [] [] pos) ρ M d M3 := .mk fun G σ H Q sl w q =>
  Sem.of (pe_bm0 pa slot hty hm pe_sem hbase hline) (ho.run G σ H _ sl w fun v G1 H1 e1 w1 r1 => ⟨ty G1 H1 v w1 r1, k G1 H1 v Q w1 r1 (q.up e1)⟩)
theorem ty_own {k : Nat} (hk : M1[k]? = some (q, .lst ds)) : ∀ G H v, Wd X.K G M1 H → Rep X.K G (.adr q) v → tyV X.K "list" v H := fun G H v w r => by
  obtain ⟨vs, hv, _⟩ := (w.at hk).2
  rw [of_adr r]
  exact Or.inl ⟨rfl, vs, SqL.of hv⟩
theorem ty_str {s : Str} : ∀ G H v, Wd X.K G M1 H → Rep X.K G (.str s) v → tyV X.K "str" v H := fun G H v w r => by
  rw [of_str r]; exact rfl
/-- p.append(e), p owned at place k -/
theorem x_append (k : Nat) (ho : XE X a ρ M (.adr q) M1) (ha : XA X [e] ρ M1 [d] M2) (hk1 : M1[k]? = some (q, .lst ds1)) (hk : M2[k]? = some (q, .lst ds)) (hl : ds.length < sizeLine)
    (hbase : attributeBase a "append" X.env (eval a X.env) = eval a X.env := by exact base_of rfl)
    (hfew : ((backTo pos (starEach [e] X.env)).all (fun x => !x.1) && (backToKw pos (keywordEach [] X.env)).all (fun x => x.1.isSome)
      && decide ([e].length + ([] : List Keyword).length + (if ([] : List Keyword).isEmpty then 0 else 1) < 30)) = true := by exact fewargs rfl (by decide))
    (hline : (apos.endLine == pos.line) = true := by rfl) (hs : starEach [e] X.env = (false, eval e X.env) :: starEach [] X.env := by exact star_of rfl) (hplain : (backTo pos (starEach [] X.env)).any (·.1) = false := by exact nostars rfl) :
    XE X (.Call (.Attribute a "append" apos) [e] [] pos) ρ M .non (M2.set k (q, .lst (ds ++ [d]))) :=
  XE.meth PySem.F.plainAttrs_list PySem.F.slot_list_append PySem.F.type_list_append mt_append ho ha (ty_own hk1) (fun G H v vs Q w r1 rs2 wq => by
    obtain ⟨u, rfl, r2⟩ := rs2.one
    obtain ⟨us, hv, rv⟩ := (w.at hk).2
    exact ⟨q, us, u, of_adr r1, rfl, hv, by rw [rv.length]; exact hl, wq.use (Ex.refl G) (w.set hk ⟨_, upd_same, rv.append (RepL.cons r2 RepL.nil)⟩) rep_non⟩) hbase hfew hline hs hplain
/-- p.extend(l), l a frozen list -/
theorem x_extend (k : Nat) (ho : XE X a ρ M (.adr q) M1) (ha : XA X [e] ρ M1 [.lst ds2] M2) (hk1 : M1[k]? = some (q, .lst ds1)) (hk : M2[k]? = some (q, .lst ds)) (hl : ds.length + ds2.length ≤ sizeLine)
    (hbase : attributeBase a "extend" X.env (eval a X.env) = eval a X.env := by exact base_of rfl)
    (hfew : ((backTo pos (starEach [e] X.env)).all (fun x => !x.1) && (backToKw pos (keywordEach [] X.env)).all (fun x => x.1.isSome)
      && decide ([e].length + ([] : List Keyword).length + (if ([] : List Keyword).isEmpty then 0 else 1) < 30)) = true := by exact fewargs rfl (by decide))
    (hline : (apos.endLine == pos.line) = true := by rfl) (hs : starEach [e] X.env = (false, eval e X.env) :: starEach [] X.env := by exact star_of rfl) (hplain : (backTo pos (starEach [] X.env)).any (·.1) = false := by exact nostars rfl) :
    XE X (.Call (.Attribute a "extend" apos) [e] [] pos) ρ M .non (M2.set k (q, .lst (ds ++ ds2))) :=
  XE.meth PySem.F.plainAttrs_list PySem.F.slot_list_extend PySem.F.type_list_extend mt_extend ho ha (ty_own hk1) (fun G H v vs Q w r1 rs2 wq => by
    obtain ⟨u, rfl, r2⟩ := rs2.one
    obtain ⟨us, hv, rv⟩ := (w.at hk).2
    obtain ⟨b, zs, rfl, hb, rz⟩ := of_lst r2
    exact ⟨q, b, us, zs, of_adr r1, rfl, hv, w.ex _ _ hb, by rw [rv.length, rz.length]; exact hl, wq.use (Ex.refl G) (w.set hk ⟨_, upd_same, rv.append rz⟩) rep_non⟩) hbase hfew hline hs hplain
/-- p.pop(i), p owned, 0 ≤ i -/
theorem x_popAt (k : Nat) {n : Nat} (ho : XE X a ρ M (.adr q) M1) (ha : XA X [e] ρ M1 [.int (n : Nat)] M2) (hk1 : M1[k]? = some (q, .lst ds1)) (hk : M2[k]? = some (q, .lst ds)) (hd : ds[n]? = some d)
    (hbase : attributeBase a "pop" X.env (eval a X.env) = eval a X.env := by exact base_of rfl)
    (hfew : ((backTo pos (starEach [e] X.env)).all (fun x => !x.1) && (backToKw pos (keywordEach [] X.env)).all (fun x => x.1.isSome)
      && decide ([e].length + ([] : List Keyword).length + (if ([] : List Keyword).isEmpty then 0 else 1) < 30)) = true := by exact fewargs rfl (by decide))
    (hline : (apos.endLine == pos.line) = true := by rfl) (hs : starEach [e] X.env = (false, eval e X.env) :: starEach [] X.env := by exact star_of rfl) (hplain : (backTo pos (starEach [] X.env)).any (·.1) = false := by exact nostars rfl) (hz : ds.length < 2 ^ 63) :
    XE X (.Call (.Attribute a "pop" apos) [e] [] pos) ρ M d (M2.set k (q, .lst (ds.eraseIdx n))) :=
  XE.meth PySem.F.plainAttrs_list PySem.F.slot_list_pop PySem.F.type_list_pop mt_popAt ho ha (ty_own hk1) (fun G H v vs Q w r1 rs2 wq => by
    obtain ⟨u, rfl, r2⟩ := rs2.one
    obtain ⟨us, hv, rv⟩ := (w.at hk).2
    obtain ⟨y, hy, ry⟩ := rv.get hd
    have hn : n < ds.length := (List.getElem?_eq_some_iff.mp hd).1
    refine ⟨q, us, n, n, y, of_adr r1, by rw [of_int r2], hv, by omega, by omega, (ixN_seq (n := us.length) (i := n) (j := n) ?_).1, hy, wq.use (Ex.refl G) (w.set hk ⟨_, upd_same, rv.eraseIdx n⟩) ry⟩
    unfold ixN
    rw [if_pos (by omega), if_pos (by rw [rv.length]; omega)]
    rfl) hbase hfew hline hs hplain
/-- p.pop() -/
theorem x_pop (k : Nat) (ho : XE X a ρ M (.adr q) M1) (hk : M1[k]? = some (q, .lst ds)) (hd : ds[ds.length - 1]? = some d) (hbase : attributeBase a "pop" X.env (eval a X.env) = eval a X.env := by exact base_of rfl) (hline : (apos.endLine == pos.line) = true := by rfl) :
    XE X (.Call (.Attribute a "pop" apos) [] [] pos) ρ M d (M1.set k (q, .lst ds.dropLast)) :=
  XE.meth0 PySem.F.plainAttrs_list PySem.F.slot_list_pop PySem.F.type_list_pop mt_pop ho (ty_own hk) (fun G H v Q w r1 wq => by
    obtain ⟨us, hv, rv⟩ := (w.at hk).2
    obtain ⟨y, hy, ry⟩ := rv.get hd
    refine ⟨q, us, y, of_adr r1, rfl, hv, by rw [rv.length]; exact hy, wq.use (Ex.refl G) (w.set hk ⟨_, upd_same, ?_⟩) ry⟩
    rw [List.dropLast_eq_take, List.dropLast_eq_take, rv.length]
    exact rv.take _) hbase hline
/-- sep.join(list or tuple of texts) -/
theorem x_join {s : Str} {ss : List Str} (ho : XE X a ρ M (.str s) M1) (ha : XA X [e] ρ M1 [d] M2) (hq : SeqD M2 d (ss.map D.str)) (hl : (ss.map (·.length)).sum + ss.length * s.length ≤ 16777216)
    (hbase : attributeBase a "join" X.env (eval a X.env) = eval a X.env := by exact base_of rfl)
    (hfew : ((backTo pos (starEach [e] X.env)).all (fun x => !x.1) && (backToKw pos (keywordEach [] X.env)).all (fun x => x.1.isSome)
      && decide ([e].length + ([] : List Keyword).length + (if ([] : List Keyword).isEmpty then 0 else 1) < 30)) = true := by exact fewargs rfl (by decide))
    (hline : (apos.endLine == pos.line) = true := by rfl) (hs : starEach [e] X.env = (false, eval e X.env) :: starEach [] X.env := by exact star_of rfl) (hplain : (backTo pos (starEach [] X.env)).any (·.1) = false := by exact nostars rfl) :
    XE X (.Call (.Attribute a "join" apos) [e] [] pos) ρ M (.str (Txt.join s ss)) M2 := by
  refine XE.meth PySem.F.plainAttrs_str PySem.F.slot_str_join PySem.F.type_str_join mt_join ho ha (ty_str) (fun G H v vs Q w r1 rs2 wq => ?_) hbase hfew hline hs hplain
  obtain ⟨u, rfl, r2⟩ := rs2.one
  obtain ⟨b, zs, rfl, hb, rz⟩ := hq.get w r2
  have := rz.strs; subst this
  exact ⟨s, b, ss, of_str r1, rfl, hb, hl, wq.use (Ex.refl G) w rep_str⟩
end
end Wk

/-! Wk: statements, loops, comprehensions, calls of defs. -/
namespace Wk
open PySem PySem.Spec PyProof.Rows L2 Evl

def SemS (X : Cx) (st : Stmt) : TS := fun Z σ H => ∀ (pins : List (Addr × Obj)) (s : Shared), Inv X pins σ H s → wpAny (model X.prog X.w) X.A (exec st X.env) (SP X pins Z) X.xe s
def SemSs (X : Cx) (sts : List Stmt) : TS := fun Z σ H => ∀ (pins : List (Addr × Obj)) (s : Shared), Inv X pins σ H s → wpAny (model X.prog X.w) X.A (execs sts X.env) (SP X pins Z) X.xe s
def SemG (X : Cx) (tg : Expr) : TG := fun v σ H Q => ∀ (pins : List (Addr × Obj)) (s : Shared) (u : Value), Inv X pins σ H s → RelV v u →
    wpAny (model X.prog X.w) X.A (assign tg X.env u) (fun _ s' => ∃ σ' H', Inv X pins σ' H' s' ∧ Q σ' H') X.xe s
def SemGs (X : Cx) (ts : List Expr) : TGs := fun vs σ H Q => ∀ (pins : List (Addr × Obj)) (s : Shared) (us : List Value), Inv X pins σ H s → Vals vs us →
    wpAny (model X.prog X.w) X.A (assignInOrder ((assignEach ts X.env).map (·.2)) us) (fun _ s' => ∃ σ' H', Inv X pins σ' H' s' ∧ Q σ' H') X.xe s
def SemI (X : Cx) (tg iter : Expr) : TI := fun σ H R => ∀ (pins : List (Addr × Obj)) (s : Shared), Inv X pins σ H s →
    wpAny (model X.prog X.w) X.A (eval iter X.env) (fun v s1 => wpAny (model X.prog X.w) X.A (pyIter v) (PIE X pins σ tg R) X.xe s1) X.xe s
def SemTs (X : Cx) (ifs : List Expr) : TT := fun σ H Q => ∀ (pins : List (Addr × Obj)) (s : Shared), Inv X pins σ H s →
    wpAny (model X.prog X.w) X.A (forIn ifs true fun c r => if r = true then do let ok ← isTrue c X.env (eval c X.env); pure (ForInStep.yield ok) else pure (ForInStep.yield r)) (TP X pins σ Q) X.xe s
section
variable {X : Cx} {st : Stmt} {sts : List Stmt} {tg iter : Expr} {ts ifs : List Expr} {σ : L2.St} {H : Hp} {Z : Ends}
theorem ps_sem : PS X st (SemS X st) := ⟨fun pins s _ _ _ I h => h pins s I⟩
theorem pss_sem : PSs X sts (SemSs X sts) := ⟨fun pins s _ _ _ I h => h pins s I⟩
theorem pg_sem : PG X tg (SemG X tg) := ⟨fun pins s _ _ _ u _ I r h => h pins s u I r⟩
theorem pgs_sem : PGs X ts (SemGs X ts) := ⟨fun pins s _ _ _ us _ I r h => h pins s us I r⟩
theorem pi_sem : PI X tg iter (SemI X tg iter) := ⟨fun pins s _ _ _ I h => h pins s I⟩
theorem pts_sem : PTs X ifs (SemTs X ifs) := ⟨fun pins s _ _ _ I h => h pins s I⟩
theorem SemS.of {t : TS} (h : PS X st t) (r : t Z σ H) : SemS X st Z σ H := fun pins s I => h.run pins s σ H Z I r
theorem SemSs.of {t : TS} (h : PSs X sts t) (r : t Z σ H) : SemSs X sts Z σ H := fun pins s I => h.run pins s σ H Z I r
theorem SemG.of {t : TG} {v : V} {Q : L2.St → Hp → Prop} (h : PG X tg t) (r : t v σ H Q) : SemG X tg v σ H Q := fun pins s u I rv => h.run pins s σ H v u Q I rv r
theorem SemGs.of {t : TGs} {vs : List V} {Q : L2.St → Hp → Prop} (h : PGs X ts t) (r : t vs σ H Q) : SemGs X ts vs σ H Q := fun pins s u I rv => h.run pins s σ H vs u Q I rv r
theorem SemI.of {t : TI} {R : It → Hp → Prop} (h : PI X tg iter t) (r : t σ H R) : SemI X tg iter σ H R := fun pins s I => h.run pins s σ H R I r
theorem SemTs.of {t : TT} {Q : Bool → Hp → Prop} (h : PTs X ifs t) (r : t σ H Q) : SemTs X ifs σ H Q := fun pins s I => h.run pins s σ H Q I r
end

/-- the data stand so -/
def At (K : PySem.W.Frag) (G0 : Hp) (ρ : Env) (M : Mem) : L2.St → Hp → Prop := fun σ H => ∃ G, Ex G0 G ∧ Sl K G ρ σ ∧ Wd K G M H
/-- statements, run from the data, do what Z wants -/
structure St (X : Cx) (sts : List Stmt) (Z : Ends) (G0 : Hp) (ρ : Env) (M : Mem) : Prop where
  go : ∀ σ H, At X.K G0 ρ M σ H → SemSs X sts Z σ H

section
variable {X : Cx} {st : Stmt} {rest body a b : List Stmt} {tg e c iter : Expr} {ρ ρ1 ρ2 : Env} {M M1 M2 M3 : Mem} {d : D} {ds its : List D} {pos pos' p2 : Pos} {Z : Ends} {G0 : Hp} {k : Bool} {o : MO}

theorem St.run {sts : List Stmt} (h : St X sts Z G0 ρ M) {G : Hp} {σ : L2.St} {H : Hp} (e : Ex G0 G) (sl : Sl X.K G ρ σ) (w : Wd X.K G M H) : SemSs X sts Z σ H := h.go σ H ⟨G, e, sl, w⟩
theorem St.mk' {sts : List Stmt} (h : ∀ G σ H, Ex G0 G → Sl X.K G ρ σ → Wd X.K G M H → SemSs X sts Z σ H) : St X sts Z G0 ρ M := .mk fun σ H ⟨G, e, sl, w⟩ => h G σ H e sl w
theorem cons_of {t : TS} (h1 : PS X st t) {σ : L2.St} {H : Hp} (r : t { Z with nx := SemSs X rest Z } σ H) : SemSs X (st :: rest) Z σ H := SemSs.of (pss_cons h1 pss_sem) r

/-- the block's end -/
theorem st_end (h : ∀ σ H, At X.K G0 ρ M σ H → Z.nx σ H) : St X [] Z G0 ρ M := .mk fun σ H a => SemSs.of pss_nil (h σ H a)
/-- names are forgotten -/
theorem At.weak {K : PySem.W.Frag} {σ : L2.St} {H : Hp} (h : At K G0 ρ M σ H) (ρ' : Env) (hl : ρ'.length = ρ.length) (w : ∀ (i : Nat) d, ρ'[i]? = some (some d) → ρ[i]? = some (some d)) : At K G0 ρ' M σ H :=
  let ⟨G, e, sl, wd⟩ := h; ⟨G, e, sl.weak hl w, wd⟩
theorem At.drop {K : PySem.W.Frag} {σ : L2.St} {H : Hp} (h : At K G0 ρ M σ H) (M' : Mem) (hs : M'.Sublist M) : At K G0 ρ M' σ H :=
  let ⟨G, e, sl, wd⟩ := h; ⟨G, e, sl, wd.sub hs⟩
theorem At.perm {K : PySem.W.Frag} {σ : L2.St} {H : Hp} (h : At K G0 ρ M σ H) (M' : Mem) (hs : M'.Perm M) : At K G0 ρ M' σ H :=
  let ⟨G, e, sl, wd⟩ := h; ⟨G, e, sl, wd.perm hs⟩
theorem St.pre {sts : List Stmt} (h : St X sts Z G0 ρ1 M1) (f : ∀ σ H, At X.K G0 ρ M σ H → At X.K G0 ρ1 M1 σ H) : St X sts Z G0 ρ M := .mk fun σ H a => h.go σ H (f σ H a)
/-- an owned list is frozen: at place k, held by name i -/
theorem st_frz {sts : List Stmt} {q : Addr} (i k : Nat) (hi : ρ[i]? = some (some (.adr q))) (hk : M[k]? = some (q, .lst ds)) (h : St X sts Z G0 (ρ.set i (some (.lst ds))) (M.eraseIdx k)) : St X sts Z G0 ρ M := .mk fun σ H ⟨G, e, sl, w⟩ => by
  obtain ⟨vs, hv, r⟩ := (w.at hk).2
  have e2 := w.exFreeze (o := .lst vs) hk
  obtain ⟨v, hv2, rv⟩ := sl.get i _ hi
  have sl2 := (sl.mono e2).set i (d := .lst ds) (v := v) (by rw [of_adr rv]; exact rep_lst upd_same (r.mono e2 _))
  have : σ.set i (some v) = σ := by
    refine List.ext_getElem? fun j => ?_
    by_cases hj : i = j
    · subst hj
      rw [List.getElem?_set_self (List.getElem?_eq_some_iff.mp hv2).1, hv2]
    · rw [List.getElem?_set_ne hj]
  rw [this] at sl2
  exact h.go σ H ⟨_, e.trans e2, sl2, w.freeze hk hv⟩

/-! statements -/
theorem st_asg {x : Str} (i : Nat) (he : XE X e ρ M d M1) (k : St X rest Z G0 (ρ.set i (some d)) M1) (hN : X.N.Nodup) (hi : X.N[i]? = some x := by rfl) (hx : Loc X.env.scope x := by first | exact Or.inl rfl | exact Or.inr rfl)
    (hs : swapsWith e (some (.Name x pos')) pos.line X.env = pure false := by first | exact sw_of rfl | rfl) (hf : X.fn x = true ∨ X.env.scope.names.lookup x = some .local := by first | exact .inl rfl | exact .inr rfl) :
    St X (.Assign [.Name x pos'] e pos :: rest) Z G0 ρ M := St.mk' fun G σ H e0 sl w =>
  cons_of (ps_set hN hi hx pe_sem hs hf) (he.run G σ H _ sl w fun v G' H' e' w' r' => k.run (e0.trans e') ((sl.mono e').set i r') w')
theorem st_new {x : Str} (i : Nat) (he : XN X e ρ M o M1) (k : ∀ q, St X rest Z G0 (ρ.set i (some (.adr q))) ((q, o) :: M1)) (hN : X.N.Nodup) (hi : X.N[i]? = some x := by rfl) (hx : Loc X.env.scope x := by first | exact Or.inl rfl | exact Or.inr rfl)
    (hs : swapsWith e (some (.Name x pos')) pos.line X.env = pure false := by first | exact sw_of rfl | rfl) (hf : X.fn x = true ∨ X.env.scope.names.lookup x = some .local := by first | exact .inl rfl | exact .inr rfl) :
    St X (.Assign [.Name x pos'] e pos :: rest) Z G0 ρ M := St.mk' fun G σ H e0 sl w =>
  cons_of (ps_set hN hi hx pe_sem hs hf) (he.run G σ H _ sl w fun q G' H' e' w' => (k q).run (e0.trans e') ((sl.mono e').set i rep_adr) w')
theorem st_expr (he : XE X e ρ M d M1) (k : St X rest Z G0 ρ M1) (hs : swapsWith e none pos.line X.env = pure false := by exact sw_of rfl) : St X (.Expr e pos :: rest) Z G0 ρ M := St.mk' fun G σ H e0 sl w =>
  cons_of (ps_expr pe_sem hs) (he.run G σ H _ sl w fun v G' H' e' w' _ => k.run (e0.trans e') (sl.mono e') w')
theorem st_ret (he : XE X e ρ M d M1) (h : ∀ v G H, Ex G0 G → Wd X.K G M1 H → Rep X.K G d v → Z.rt v H) : St X (.Return (some e) pos :: rest) Z G0 ρ M := St.mk' fun G σ H e0 sl w =>
  cons_of (ps_ret pe_sem) (he.run G σ H _ sl w fun v G' H' e' w' r' => h v G' H' (e0.trans e') w' r')
theorem st_retN (h : ∀ G H, Ex G0 G → Wd X.K G M H → Z.rt .non H) : St X (.Return none pos :: rest) Z G0 ρ M := St.mk' fun G σ H e0 sl w =>
  cons_of ps_retN (h G H e0 w)
/-- both ways go on by themselves -/
theorem st_if (hc : XT X c ρ M k M1) (h1 : k = true → St X a { Z with nx := SemSs X rest Z } G0 ρ M1) (h2 : k = false → St X b { Z with nx := SemSs X rest Z } G0 ρ M1) : St X (.If c a b pos :: rest) Z G0 ρ M := St.mk' fun G σ H e0 sl w =>
  cons_of (ps_if pt_sem pss_sem pss_sem) (hc.run G σ H _ sl w fun G' H' e' w' => by
    cases k with
    | true => rw [if_pos rfl]; exact (h1 rfl).run (e0.trans e') (sl.mono e') w'
    | false => rw [if_neg Bool.false_ne_true]; exact (h2 rfl).run (e0.trans e') (sl.mono e') w')
/-- the end of a branch: the rest -/
theorem st_go (k : St X rest Z G0 ρ M) : St X [] { Z with nx := SemSs X rest Z } G0 ρ M := st_end fun σ H a => k.go σ H a
theorem st_break (h : ∀ σ H, At X.K G0 ρ M σ H → Z.bk σ H) : St X (.Break pos :: rest) Z G0 ρ M := .mk fun σ H a => cons_of ps_break (h σ H a)
theorem st_cont (h : ∀ σ H, At X.K G0 ρ M σ H → Z.ct σ H) : St X (.Continue pos :: rest) Z G0 ρ M := .mk fun σ H a => cons_of ps_continue (h σ H a)
theorem st_pass (k : St X rest Z G0 ρ M) : St X (.Pass pos :: rest) Z G0 ρ M := .mk fun σ H a => cons_of ps_pass (k.go σ H a)

/-! targets -/
structure XG (X : Cx) (tg : Expr) (d : D) (is : List Nat) (ρ ρ' : Env) : Prop where
  run : ∀ (G : Hp) (v : V) (σ : L2.St) (H : Hp) (Q : L2.St → Hp → Prop), Sl X.K G ρ σ → Ex G H → Rep X.K G d v →
  (∀ σ', Sl X.K G ρ' σ' → (∀ vs, (∀ i ∈ is, i ∈ vs) → wipe σ' vs = wipe σ vs) → Q σ' H) → SemG X tg v σ H Q
structure XGs (X : Cx) (ts : List Expr) (ds : List D) (is : List Nat) (ρ ρ' : Env) : Prop where
  run : ∀ (G : Hp) (vs : List V) (σ : L2.St) (H : Hp) (Q : L2.St → Hp → Prop), Sl X.K G ρ σ → Ex G H → RepL X.K G ds vs →
  (∀ σ', Sl X.K G ρ' σ' → (∀ vs, (∀ i ∈ is, i ∈ vs) → wipe σ' vs = wipe σ vs) → Q σ' H) → SemGs X ts vs σ H Q
theorem wipe_in {i : Nat} : ∀ {vs : List Nat} {σ : L2.St}, i ∈ vs → i < σ.length → (wipe σ vs)[i]? = some none
  | [], _, h, _ => by simp at h
  | j :: vs, σ, h, hl => by
    unfold wipe
    by_cases hj : j = i
    · subst hj; rw [List.getElem?_set_self (by rw [wipe_length]; exact hl)]
    · rw [List.getElem?_set_ne hj]
      rcases List.mem_cons.mp h with e | e
      · exact absurd e.symm hj
      · exact wipe_in e hl
theorem wipe_set {σ : L2.St} {i : Nat} {v : Option V} {vs : List Nat} (h : i ∈ vs) : wipe (σ.set i v) vs = wipe σ vs := by
  refine List.ext_getElem? fun m => ?_
  by_cases hl : m < σ.length
  · by_cases hm : m ∈ vs
    · rw [wipe_in hm (by rw [List.length_set]; exact hl), wipe_in hm hl]
    · rw [wipe_out hm, wipe_out hm, List.getElem?_set_ne (fun e => hm (by rw [← e]; exact h))]
  · rw [List.getElem?_eq_none (by rw [wipe_length, List.length_set]; omega), List.getElem?_eq_none (by rw [wipe_length]; omega)]
theorem g_name {x : Str} (i : Nat) (hN : X.N.Nodup) (hi : X.N[i]? = some x := by rfl) (hx : Loc X.env.scope x := by first | exact Or.inl rfl | exact Or.inr rfl) (hf : X.fn x = true ∨ X.env.scope.names.lookup x = some .local := by first | exact .inl rfl | exact .inr rfl) :
    XG X (.Name x pos) d [i] ρ (ρ.set i (some d)) := .mk fun G v σ H Q sl ex r q => SemG.of (pg_name hN hi hx hf) (q _ (sl.set i r) fun vs hv => wipe_set (hv i List.mem_cons_self))
theorem gs_nil : XGs X [] [] [] ρ ρ := .mk fun G vs σ H Q sl ex r q => SemGs.of pgs_nil ⟨by unfold RepL at r; exact r, q σ sl fun _ _ => rfl⟩
theorem gs_cons {es : List Expr} {is is2 : List Nat} (h1 : XG X e d is ρ ρ1) (h2 : XGs X es ds is2 ρ1 ρ2) (hs : (assignEach (e :: es) X.env).map (·.2) = assign e X.env :: (assignEach es X.env).map (·.2) := by exact asg_of rfl) : XGs X (e :: es) (d :: ds) (is ++ is2) ρ ρ2 := .mk fun G vs σ H Q sl ex r q => by
  unfold RepL at r
  obtain ⟨v, rr, rfl, r1, r2⟩ := r
  exact SemGs.of (pgs_cons pg_sem pgs_sem hs) ⟨v, rr, rfl, h1.run G v σ H _ sl ex r1 fun σ' sl' hw => h2.run G rr σ' H _ sl' ex r2 fun σ2 sl2 hw2 => q σ2 sl2 fun vs hv =>
    (hw2 vs fun i hi => hv i (List.mem_append_right _ hi)).trans (hw vs fun i hi => hv i (List.mem_append_left _ hi))⟩
theorem g_tup {es : List Expr} {k n : Nat} {is : List Nat} (hc : X.calm = true) (h : XGs X es ds is ρ ρ1) (hl : ds.length = n := by rfl) (hn : (assignEach es X.env).length = n := by exact asg_len) (hst : (assignEach es X.env).findIdx? (·.1) = none := by exact asg_none rfl) :
    XG X (.Tuple es k pos) (.tup ds) is ρ ρ1 := .mk fun G v σ H Q sl ex r q => by
  obtain ⟨a, vs, rfl, hv, rv⟩ := of_tup r
  exact SemG.of (pg_tup hc pgs_sem hn hst) ⟨a, vs, rfl, (hv.mono ex).sq, rv.length.trans hl, h.run G vs σ H Q sl ex rv q⟩
/-- target = e -/
theorem st_asgG {is : List Nat} (he : XE X e ρ M d M1) (hg : XG X tg d is ρ ρ1) (k : St X rest Z G0 ρ1 M1) (hs : swapsWithSole [tg] e pos.line X.env = pure false := by exact sws_of rfl) (hw : swappedStores [tg] e X.env = pure none := by first | exact sst_of1 rfl rfl | exact sst_of rfl | rfl)
    (h1 : (assignEach [tg] X.env).map (·.2) = [assign tg X.env] := by exact asg_one rfl) : St X (.Assign [tg] e pos :: rest) Z G0 ρ M := St.mk' fun G σ H e0 sl w =>
  cons_of (ps_asg pe_sem pg_sem hs hw h1) (he.run G σ H _ sl w fun v G' H' e' w' r' => hg.run G' v σ H' _ (sl.mono e') w'.ex r' fun σ' sl' _ => k.run (e0.trans e') sl' w')
/-- o[i] = v, o owned at place k -/
theorem st_setL {q : Addr} {i : Int} {j : Nat} {oe ie : Expr} {p2 : Pos} (kk : Nat) (he : XE X e ρ M d M1) (ho : XE X oe ρ M1 (.adr q) M2) (hi : XE X ie ρ M2 (.int i) M3) (hk : M3[kk]? = some (q, .lst ds)) (hj : L2.ixN ds.length i = some j)
    (k : St X rest Z G0 ρ (M3.set kk (q, .lst (ds.set j d)))) (hs : swapsWithSole [.Subscript oe ie p2] e pos.line X.env = pure false := by exact sws_of rfl) (hw : swappedStores [.Subscript oe ie p2] e X.env = pure none := by first | exact sst_of1 rfl rfl | exact sst_of rfl | rfl)
    (h1 : (assignEach [.Subscript oe ie p2] X.env).map (·.2) = [assign (.Subscript oe ie p2) X.env] := by exact asg_one rfl)
    (ha : ∀ v, assign (.Subscript oe ie p2) X.env v = (do
      let ov ← holding [v] (eval oe X.env)
      let iv ← holding [v, ov] (eval ie X.env)
      standAt p2
      holding [v, ov, iv] (setItem ov iv v)
      release [v, ov, iv] []) := by exact asg_sub rfl) : St X (.Assign [.Subscript oe ie p2] e pos :: rest) Z G0 ρ M := St.mk' fun G σ H e0 sl w =>
  cons_of (ps_asg pe_sem (pg_sub pe_sem pe_sem set_list ha) hs hw h1) (he.run G σ H _ sl w fun v G1 H1 e1 w1 r1 => ho.run G1 σ H1 _ (sl.mono e1) w1 fun ov G2 H2 e2 w2 r2 => hi.run G2 σ H2 _ (sl.mono (e1.trans e2)) w2 fun iv G3 H3 e3 w3 r3 => by
    obtain ⟨vs, hv, rv⟩ := (w3.at hk).2
    exact ⟨q, vs, i, j, of_adr r2, of_int r3, hv, by rw [rv.length]; exact hj, k.run (((e0.trans e1).trans e2).trans e3) (sl.mono ((e1.trans e2).trans e3)) (w3.set hk ⟨_, upd_same, RepL.set (r1.mono (e2.trans e3)) j rv⟩)⟩)

/-! what is walked -/
structure IterOk (K : PySem.W.Frag) (G : Hp) (J : It) (its : List D) : Prop where
  go : ∀ i G' M' H', Ex G G' → Wd K G' M' H' → i < its.length → J.go i H'
  yld : ∀ i G' M' H' x H'', Ex G G' → Wd K G' M' H' → J.yld i H' x H'' → ∀ d, its[i]? = some d → ∃ G'', Ex G' G'' ∧ Wd K G'' M' H'' ∧ Rep K G'' d x
  stop : ∀ G' M' H', Ex G G' → Wd K G' M' H' → J.stop its.length H'
structure XI (X : Cx) (tg iter : Expr) (ρ : Env) (M : Mem) (its : List D) (M' : Mem) : Prop where
  run : ∀ (G : Hp) (σ : L2.St) (H : Hp) (R : It → Hp → Prop), Sl X.K G ρ σ → Wd X.K G M H → (∀ J G' H', Ex G G' → Wd X.K G' M' H' → IterOk X.K G' J its → R J H') → SemI X tg iter σ H R
theorem i_lst (h : XE X iter ρ M (.lst ds) M1) : XI X tg iter ρ M ds M1 := .mk fun G σ H R sl w q =>
  SemI.of (pi_list pe_sem) (h.run G σ H _ sl w fun v G' H' e' w' r' => by
    obtain ⟨a, vs, rfl, hv, rv⟩ := of_lst r'
    refine ⟨a, rfl, ⟨vs, SqL.of (w'.ex _ _ hv)⟩, q _ G' H' e' w' ⟨fun i G2 M2 H2 e2 w2 hi => ?_, fun i G2 M2 H2 x H3 e2 w2 y d hd => ?_, fun G2 M2 H2 e2 w2 => ?_⟩⟩
    · obtain ⟨x, hx, _⟩ := rv.get (List.getElem?_eq_getElem hi)
      exact ⟨vs, x, SqL.of (w2.ex _ _ (e2 _ _ hv)), hx⟩
    · obtain ⟨rfl, y⟩ := y
      obtain ⟨z, hz, rz⟩ := rv.get hd
      have := y vs (SqL.of (w2.ex _ _ (e2 _ _ hv)))
      rw [hz] at this; cases this
      exact ⟨G2, Ex.refl G2, w2, rz.mono e2⟩
    · exact ⟨vs, SqL.of (w2.ex _ _ (e2 _ _ hv)), Nat.le_of_eq rv.length⟩)
theorem i_rlst (h : XE X iter ρ M (.rlst ds) M1) : XI X tg iter ρ M ds M1 := .mk fun G σ H R sl w q =>
  SemI.of (pi_list pe_sem) (h.run G σ H _ sl w fun v G' H' e' w' r' => by
    obtain ⟨a, vs, rfl, hv, rv⟩ := of_rlst r'
    refine ⟨a, rfl, ⟨vs, ex_l w'.ex hv⟩, q _ G' H' e' w' ⟨fun i G2 M2 H2 e2 w2 hi => ?_, fun i G2 M2 H2 x H3 e2 w2 y d hd => ?_, fun G2 M2 H2 e2 w2 => ?_⟩⟩
    · obtain ⟨x, hx, _⟩ := rv.get (List.getElem?_eq_getElem hi)
      exact ⟨vs, x, ex_l w2.ex (ex_l e2 hv), hx⟩
    · obtain ⟨rfl, y⟩ := y
      obtain ⟨z, hz, rz⟩ := rv.get hd
      have := y vs (ex_l w2.ex (ex_l e2 hv))
      rw [hz] at this; cases this
      exact ⟨G2, Ex.refl G2, w2, rz.mono e2⟩
    · exact ⟨vs, ex_l w2.ex (ex_l e2 hv), Nat.le_of_eq rv.length⟩)
theorem i_tup (h : XE X iter ρ M (.tup ds) M1) : XI X tg iter ρ M ds M1 := .mk fun G σ H R sl w q =>
  SemI.of (pi_tup pe_sem) (h.run G σ H _ sl w fun v G' H' e' w' r' => by
    obtain ⟨a, vs, rfl, hv, rv⟩ := of_tup r'
    refine ⟨a, rfl, ⟨vs, (hv.mono w'.ex).sq⟩, q _ G' H' e' w' ⟨fun i G2 M2 H2 e2 w2 hi => ?_, fun i G2 M2 H2 x H3 e2 w2 y d hd => ?_, fun G2 M2 H2 e2 w2 => ?_⟩⟩
    · obtain ⟨x, hx, _⟩ := rv.get (List.getElem?_eq_getElem hi)
      exact ⟨vs, x, ((hv.mono e2).mono w2.ex).sq, hx⟩
    · obtain ⟨rfl, y⟩ := y
      obtain ⟨z, hz, rz⟩ := rv.get hd
      have := y vs ((hv.mono e2).mono w2.ex).sq
      rw [hz] at this; cases this
      exact ⟨G2, Ex.refl G2, w2, rz.mono e2⟩
    · exact ⟨vs, ((hv.mono e2).mono w2.ex).sq, Nat.le_of_eq rv.length⟩)
theorem iterOk_rng {K : PySem.W.Frag} {G : Hp} {lo : Int} {n : Nat} : IterOk K G (Itr lo n) ((List.range n).map fun k => D.int (lo + (k : Nat))) where
  go := fun i G2 M2 H2 e2 w2 hi => by rw [List.length_map, List.length_range] at hi; exact hi
  yld := fun i G2 M2 H2 x H3 e2 w2 y d hd => by
    obtain ⟨rfl, rfl⟩ := y
    rw [List.getElem?_map] at hd
    by_cases hi : i < n
    · rw [List.getElem?_range hi] at hd
      cases hd
      exact ⟨G2, Ex.refl G2, w2, rep_int⟩
    · rw [List.getElem?_eq_none (by rw [List.length_range]; omega)] at hd
      cases hd
  stop := fun G2 M2 H2 e2 w2 => by
    show n ≤ _
    rw [List.length_map, List.length_range]
    exact Nat.le_refl _
theorem rgI_map {lo hi : Int} : (rgI lo hi).map D.int = (List.range (hi - lo).toNat).map fun k => D.int (lo + (k : Nat)) := by unfold rgI; rw [List.map_map]; rfl
theorem i_rng1 {a : Expr} {j : Int} {p : Pos} (ha : XA X [a] ρ M [.int j] M1) (h1 : -(2 ^ 62) ≤ j) (h2 : j < 2 ^ 62) (hm : X.mg "range" = none) (hg : Gl X "range" := by rfl) (hs : starEach [a] X.env = [(false, eval a X.env)] := by exact star_one rfl) :
    XI X tg (.Call (.Name "range" p) [a] [] pos) ρ M ((rgI 0 j).map D.int) M1 := .mk fun G σ H R sl w q =>
  SemI.of (pi_range1 hg hm pa_sem hs) (ha.run G σ H _ sl w fun vs G' H' e' w' r' => by
    obtain ⟨v, rfl, r⟩ := r'.one
    refine ⟨j, by rw [of_int r], h1, h2, q _ G' H' e' w' ?_⟩
    have := iterOk_rng (K := X.K) (G := G') (lo := 0) (n := j.toNat)
    rw [rgI_map, Int.sub_zero]
    exact this)
theorem i_rng2 {a b : Expr} {i j : Int} {p : Pos} (ha : XA X [a, b] ρ M [.int i, .int j] M1) (h1 : -(2 ^ 62) ≤ i ∧ i < 2 ^ 62 ∧ -(2 ^ 62) ≤ j ∧ j < 2 ^ 62) (hm : X.mg "range" = none) (hg : Gl X "range" := by rfl) (hs : starEach [a, b] X.env = [(false, eval a X.env), (false, eval b X.env)] := by exact star_two rfl rfl) (hs2 : starEach [b] X.env = [(false, eval b X.env)] := by exact star_one rfl) :
    XI X tg (.Call (.Name "range" p) [a, b] [] pos) ρ M ((rgI i j).map D.int) M1 := .mk fun G σ H R sl w q =>
  SemI.of (pi_range2 hg hm pa_sem hs hs2) (ha.run G σ H _ sl w fun vs G' H' e' w' r' => by
    obtain ⟨v, u, rfl, r1, r2⟩ := r'.two
    refine ⟨i, j, by rw [of_int r1, of_int r2], h1, q _ G' H' e' w' ?_⟩
    rw [rgI_map]
    exact iterOk_rng)

/-! for -/
/-- the invariant's next, as a block's end -/
def Nxt (K : PySem.W.Frag) (G0 : Hp) (Iv : Env → Mem → Prop) : L2.St → Hp → Prop := fun σ H => ∃ ρ M, Iv ρ M ∧ At K G0 ρ M σ H
theorem At.base {K : PySem.W.Frag} {G1 : Hp} {σ : L2.St} {H : Hp} (e : Ex G0 G1) (h : At K G1 ρ M σ H) : At K G0 ρ M σ H := let ⟨G, a, b, c⟩ := h; ⟨G, e.trans a, b, c⟩
theorem st_for (hp : PassesOwn (model X.prog X.w) X.A X.env X.xe) (hc : X.calm = true) (hi : XI X tg iter ρ M its M1) (Iv : Nat → Env → Mem → Prop) (h0 : Iv 0 ρ M1)
    (turn : ∀ G1, Ex G0 G1 → ∀ i d ρ' M', its[i]? = some d → Iv i ρ' M' → ∃ is ρ2, XG X tg d is ρ' ρ2 ∧ St X body { Z with nx := Nxt X.K G1 (Iv (i + 1)), ct := Nxt X.K G1 (Iv (i + 1)), bk := SemSs X rest Z } G1 ρ2 M')
    (done : ∀ ρ' M', Iv its.length ρ' M' → St X rest Z G0 ρ' M') (hs : ∀ x, foldedSetIterable iter X.env x = pure x := by exact fs_of rfl) : St X (.For tg iter body [] pos :: rest) Z G0 ρ M := St.mk' fun G σ H e0 sl w =>
  cons_of (ps_for hp hc pi_sem pg_sem pss_sem hs) (hi.run G σ H _ sl w fun J G1 H1 e1 w1 ok => by
    refine ⟨fun i m σ H => m = its.length - i ∧ i ≤ its.length ∧ Nxt X.K G1 (Iv i) σ H, ⟨its.length, by simp, Nat.zero_le _, ρ, M1, h0, G1, Ex.refl G1, sl.mono e1, w1⟩, ?_⟩
    rintro i m σ2 H2 ⟨rfl, hle, ρ3, M3, hI, G2, e2, sl2, w2⟩
    by_cases hlt : i < its.length
    · refine .inr ⟨ok.go i G2 M3 H2 e2 w2 hlt, Nxt X.K G1 (Iv (i + 1)), fun σ' H' h' => ⟨its.length - (i + 1), by omega, rfl, hlt, h'⟩, fun x H' y => ?_⟩
      obtain ⟨G3, e3, w3, r3⟩ := ok.yld i G2 M3 H2 x H' e2 w2 y _ (List.getElem?_eq_getElem hlt)
      obtain ⟨is, ρ4, hg, hb⟩ := turn G1 (e0.trans e1) i _ ρ3 M3 (List.getElem?_eq_getElem hlt) hI
      exact hg.run G3 x σ2 H' _ (sl2.mono e3) w3.ex r3 fun σ' sl' _ => hb.run (e2.trans e3) sl' w3
    · have hi' : i = its.length := by omega
      subst hi'
      exact .inl ⟨ok.stop G2 M3 H2 e2 w2, (done ρ3 M3 hI).run ((e0.trans e1).trans e2) sl2 w2⟩)
/-! while -/
theorem st_while (hp : PassesOwn (model X.prog X.w) X.A X.env X.xe) (Iv : Nat → Env → Mem → Prop) (n0 : Nat) (h0 : Iv n0 ρ M)
    (turn : ∀ n ρ' M', Iv n ρ' M' → ∃ kk M2, XT X c ρ' M' kk M2 ∧ (kk = true → St X body { Z with nx := Nxt X.K G0 (fun ρ M => ∃ m, m < n ∧ Iv m ρ M), ct := Nxt X.K G0 (fun ρ M => ∃ m, m < n ∧ Iv m ρ M), bk := SemSs X rest Z } G0 ρ' M2) ∧ (kk = false → St X rest Z G0 ρ' M2)) :
    St X (.While c body [] pos :: rest) Z G0 ρ M := St.mk' fun G σ H e0 sl w =>
  cons_of (ps_while hp pt_sem pss_sem) (by
    refine ⟨fun n σ H => Nxt X.K G0 (Iv n) σ H, ⟨n0, ρ, M, h0, G, e0, sl, w⟩, ?_⟩
    rintro n σ2 H2 ⟨ρ3, M3, hI, G2, e2, sl2, w2⟩
    obtain ⟨kk, M4, ht, h1, h2⟩ := turn n ρ3 M3 hI
    refine ht.run G2 σ2 H2 _ sl2 w2 fun G3 H3 e3 w3 => ?_
    cases kk with
    | true =>
      rw [if_pos rfl]
      refine ⟨Nxt X.K G0 (fun ρ M => ∃ m, m < n ∧ Iv m ρ M), fun σ' H' h' => ?_, (h1 rfl).run (e2.trans e3) (sl2.mono e3) w3⟩
      obtain ⟨ρ5, M5, ⟨m, hm, hI5⟩, a⟩ := h'
      exact ⟨m, hm, ρ5, M5, hI5, a⟩
    | false =>
      rw [if_neg Bool.false_ne_true]
      exact (h2 rfl).run (e2.trans e3) (sl2.mono e3) w3)

/-! list comprehensions -/
theorem wipe_idem {σ : L2.St} {vs : List Nat} : wipe (wipe σ vs) vs = wipe σ vs := by
  refine List.ext_getElem? fun m => ?_
  by_cases hl : m < σ.length
  · by_cases hm : m ∈ vs
    · rw [wipe_in hm (by rw [wipe_length]; exact hl), wipe_in hm hl]
    · rw [wipe_out hm]
  · rw [List.getElem?_eq_none (by rw [wipe_length, wipe_length]; omega), List.getElem?_eq_none (by rw [wipe_length]; omega)]
def wipeD (ρ : Env) : List Nat → Env
  | [] => ρ
  | v :: vs => (wipeD ρ vs).set v none
theorem sl_wipe {K : PySem.W.Frag} {G : Hp} {σ : L2.St} (h : Sl K G ρ σ) : ∀ vs, Sl K G (wipeD ρ vs) (wipe σ vs)
  | [] => h
  | v :: vs => by
    have ih := sl_wipe h vs
    unfold wipe wipeD
    refine ⟨by rw [List.length_set, List.length_set, ih.len], fun i d e => ?_⟩
    by_cases hi : v = i
    · subst hi
      by_cases hl : v < (wipeD ρ vs).length
      · rw [List.getElem?_set_self hl] at e; cases e
      · rw [List.getElem?_eq_none (by rw [List.length_set]; omega)] at e; cases e
    · rw [List.getElem?_set_ne hi] at e ⊢
      exact ih.get i d e
structure XTs (X : Cx) (ifs : List Expr) (ρ : Env) (M : Mem) (c : Bool) (M' : Mem) : Prop where
  run : ∀ (G : Hp) (σ : L2.St) (H : Hp) (Q : Bool → Hp → Prop), Sl X.K G ρ σ → Wd X.K G M H → (∀ G' H', Ex G G' → Wd X.K G' M' H' → Q c H') → SemTs X ifs σ H Q
theorem ts_nil : XTs X [] ρ M true M := .mk fun G σ H Q sl w q => SemTs.of pts_nil (q G H (Ex.refl G) w)
theorem ts_one {k : Bool} (h : XT X c ρ M k M1) : XTs X [c] ρ M k M1 := .mk fun G σ H Q sl w q => SemTs.of (pts_one pt_sem) (h.run G σ H Q sl w q)
/-- .. in any block of this comprehension -/
def SemBG (X : Cx) (scope : Scope) (tg : Expr) : TG := fun v σ H Q => ∀ (s : Shared) (H0 : Hp) (C : Addr) (cl : List (Str × Addr)) (fp : List Addr), SemG (X.blk s H0 scope (compEnvC scope cl C X.env) fp) tg v σ H Q
def SemBT (X : Cx) (scope : Scope) (ifs : List Expr) : TT := fun σ H Q => ∀ (s : Shared) (H0 : Hp) (C : Addr) (cl : List (Str × Addr)) (fp : List Addr), SemTs (X.blk s H0 scope (compEnvC scope cl C X.env) fp) ifs σ H Q
def SemBE (X : Cx) (scope : Scope) (e : Expr) : TE := fun σ H Q => ∀ (s : Shared) (H0 : Hp) (C : Addr) (cl : List (Str × Addr)) (fp : List Addr), Sem (X.blk s H0 scope (compEnvC scope cl C X.env) fp) e σ H Q
/-- what holds in any block of this comprehension -/
def InB (X : Cx) (scope : Scope) (P : Cx → Prop) : Prop := ∀ (s : Shared) (H0 : Hp) (C : Addr) (cl : List (Str × Addr)) (fp : List Addr), P (X.blk s H0 scope (compEnvC scope cl C X.env) fp)
/-- a comprehension's loop: a new list of ds -/
structure XL (X : Cx) (elt tg iter : Expr) (ifs : List Expr) (scope : Scope) (own : List (Str × Nat)) (ρ : Env) (M : Mem) (ds : List D) (M' : Mem) : Prop where
  run : ∀ (G : Hp) (σ : L2.St) (H : Hp) (Q : VK), Sl X.K G ρ σ → Wd X.K G M H → (∀ p G' H', Ex G G' → Wd X.K G' ((p, .lst ds) :: M') H' → Q (.ref p) H') →
    tLc (SemI X tg iter) (SemBG X scope tg) (SemBT X scope ifs) (SemBE X scope elt) (own.map (·.2)) σ H Q
/-- [elt for tg in iter if ..]: Iv i acc M: behind i items the list so far, and what is owned -/
theorem l_any {elt : Expr} {ifs : List Expr} {scope : Scope} (own : List (Str × Nat)) (hi : XI X tg iter ρ M its M1) (Iv : Nat → List D → Mem → Prop) (h0 : Iv 0 [] M1)
    (turn : ∀ i d acc M', its[i]? = some d → Iv i acc M' →
      ∃ ρ2 b M2, InB X scope (fun Y => XG Y tg d (own.map (·.2)) (wipeD ρ (own.map (·.2))) ρ2) ∧ InB X scope (fun Y => ∀ q, XTs Y ifs ρ2 ((q, .lst acc) :: M') b ((q, .lst acc) :: M2)) ∧
        (b = true → ∃ e M3, InB X scope (fun Y => ∀ q, XE Y elt ρ2 ((q, .lst acc) :: M2) e ((q, .lst acc) :: M3)) ∧ acc.length < sizeLine ∧ Iv (i + 1) (acc ++ [e]) M3) ∧
        (b = false → Iv (i + 1) acc M2))
    {acc' : List D} {M' : Mem} (done : ∀ acc M2, Iv its.length acc M2 → acc = acc' ∧ M2 = M') : XL X elt tg iter ifs scope own ρ M acc' M' := .mk fun G σ H Q sl w q =>
  (hi.run G σ H _ sl w fun J G1 H1 e1 w1 iok => by
    intro L hL
    refine ⟨fun i m H => m = its.length - i ∧ i ≤ its.length ∧ ∃ acc M2 G2, Iv i acc M2 ∧ Ex G1 G2 ∧ Wd X.K G2 ((L, .lst acc) :: M2) H, ⟨its.length, by simp, Nat.zero_le _, [], M1, G1, h0, Ex.refl G1, wd_newL w1 hL RepL.nil⟩, ?_⟩
    rintro i m H2 ⟨rfl, hle, acc, M2, G2, hI, e2, w2⟩
    by_cases hlt : i < its.length
    · refine .inr ⟨iok.go i G2 _ H2 e2 w2 hlt, fun H => ∃ acc M2 G2, Iv (i + 1) acc M2 ∧ Ex G1 G2 ∧ Wd X.K G2 ((L, .lst acc) :: M2) H, fun H' h' => ⟨its.length - (i + 1), by omega, rfl, hlt, h'⟩, fun x H' y => ?_⟩
      obtain ⟨G3, e3, w3, r3⟩ := iok.yld i G2 _ H2 x H' e2 w2 y _ (List.getElem?_eq_getElem hlt)
      obtain ⟨ρ2, b, M4, hg, ht, h1, h2⟩ := turn i _ acc M2 (List.getElem?_eq_getElem hlt) hI
      have slw := sl_wipe (sl.mono (e1.trans (e2.trans e3))) (own.map (·.2))
      intro s H0 C cl fp
      refine (hg s H0 C cl fp).run G3 x _ H' _ slw w3.ex r3 fun σ' sl' hw => ⟨?_, ?_⟩
      · rw [hw _ fun i hi => hi]
        exact wipe_idem
      · intro s H0 C cl fp
        refine (ht s H0 C cl fp L).run G3 σ' H' _ sl' w3 fun G4 H4 e4 w4 => ?_
        cases b with
        | false =>
          rw [if_neg Bool.false_ne_true]
          exact ⟨acc, M4, G4, h2 rfl, (e2.trans e3).trans e4, w4⟩
        | true =>
          rw [if_pos rfl]
          obtain ⟨e, M5, he, hl, hI5⟩ := h1 rfl
          intro s H0 C cl fp
          refine (he s H0 C cl fp L).run G4 σ' H4 _ (sl'.mono e4) w4 fun v G5 H5 e5 w5 r5 => ?_
          obtain ⟨vs, hv, rv⟩ := (w5.at (i := 0) rfl).2
          exact ⟨vs, hv, by rw [rv.length]; exact hl, acc ++ [e], M5, G5, hI5, ((e2.trans e3).trans e4).trans e5, w5.set (i := 0) rfl ⟨_, upd_same, rv.append (RepL.cons r5 RepL.nil)⟩⟩
    · have hi' : i = its.length := by omega
      subst hi'
      obtain ⟨rfl, rfl⟩ := done acc M2 hI
      exact .inl ⟨iok.stop G2 _ H2 e2 w2, q L G2 H2 (e1.trans e2) w2⟩)
theorem n_lc {elt : Expr} {ifs : List Expr} {scope : Scope} {own : List (Str × Nat)} (h : XL X elt tg iter ifs scope own ρ M ds M1) (hc : X.calm = true) (hN : X.N.Nodup)
    (ok : BlkOk X.N X.env.scope scope own := by exact blkOk_by (by decide +kernel)) (hs : ∀ x, foldedSetIterable iter X.env x = pure x := by exact fs_of rfl) :
    XN X (.ListComp elt [⟨tg, iter, ifs, 0⟩] scope pos) ρ M (.lst ds) M1 := .mk fun G σ H Q sl w q =>
  Sem.of (pe_lc (g := SemBG X scope tg) (tt := SemBT X scope ifs) (te := SemBE X scope elt) hc hN pi_sem ok (fun s H C cl fp => ⟨fun pins s2 σ H v u Q I r h => h s _ C cl fp pins s2 u I r⟩) (fun s H C cl fp => ⟨fun pins s2 σ H Q I h => h s _ C cl fp pins s2 I⟩) (fun s H C cl fp => ⟨fun pins s2 σ H Q I h => h s _ C cl fp pins s2 I⟩) hs) (h.run G σ H Q sl w q)
/-- y = [..], on one line, y a local of its own: owned; frozen -/
theorem st_newLc {elt : Expr} {ifs : List Expr} {scope : Scope} {own : List (Str × Nat)} {y : Str} (i : Nat) (h : XL X elt tg iter ifs scope own ρ M ds M1) (k : ∀ q, St X rest Z G0 (ρ.set i (some (.adr q))) ((q, .lst ds) :: M1)) (hc : X.calm = true) (hN : X.N.Nodup)
    (hy : X.N[i]? = some y := by rfl) (hyl : X.env.scope.names.lookup y = some .local := by rfl) (hsw : swapsWith (.ListComp elt [⟨tg, iter, ifs, 0⟩] scope pos) (some (.Name y pos')) p2.line X.env = pure true := by exact sw_true rfl rfl rfl (by decide +kernel))
    (ok : BlkOk X.N X.env.scope scope own := by exact blkOk_by (by decide +kernel)) (hs : ∀ x, foldedSetIterable iter X.env x = pure x := by exact fs_of rfl) :
    St X (.Assign [.Name y pos'] (.ListComp elt [⟨tg, iter, ifs, 0⟩] scope pos) p2 :: rest) Z G0 ρ M := St.mk' fun G σ H e0 sl w =>
  cons_of (ps_setLc (g := SemBG X scope tg) (tt := SemBT X scope ifs) (te := SemBE X scope elt) hc hN hy hyl hsw pi_sem ok (fun s H C cl fp => ⟨fun pins s2 σ H v u Q I r h => h s _ C cl fp pins s2 u I r⟩) (fun s H C cl fp => ⟨fun pins s2 σ H Q I h => h s _ C cl fp pins s2 I⟩) (fun s H C cl fp => ⟨fun pins s2 σ H Q I h => h s _ C cl fp pins s2 I⟩) hs)
    (h.run G σ H _ sl w fun q G' H' e' w' => (k q).run (e0.trans e') ((sl.mono e').set i rep_adr) w')
theorem st_asgLc {elt : Expr} {ifs : List Expr} {scope : Scope} {own : List (Str × Nat)} {y : Str} (i : Nat) (h : XL X elt tg iter ifs scope own ρ M ds M1) (k : St X rest Z G0 (ρ.set i (some (.lst ds))) M1) (hc : X.calm = true) (hN : X.N.Nodup)
    (hy : X.N[i]? = some y := by rfl) (hyl : X.env.scope.names.lookup y = some .local := by rfl) (hsw : swapsWith (.ListComp elt [⟨tg, iter, ifs, 0⟩] scope pos) (some (.Name y pos')) p2.line X.env = pure true := by exact sw_true rfl rfl rfl (by decide +kernel))
    (ok : BlkOk X.N X.env.scope scope own := by exact blkOk_by (by decide +kernel)) (hs : ∀ x, foldedSetIterable iter X.env x = pure x := by exact fs_of rfl) :
    St X (.Assign [.Name y pos'] (.ListComp elt [⟨tg, iter, ifs, 0⟩] scope pos) p2 :: rest) Z G0 ρ M := St.mk' fun G σ H e0 sl w =>
  cons_of (ps_setLc (g := SemBG X scope tg) (tt := SemBT X scope ifs) (te := SemBE X scope elt) hc hN hy hyl hsw pi_sem ok (fun s H C cl fp => ⟨fun pins s2 σ H v u Q I r h => h s _ C cl fp pins s2 u I r⟩) (fun s H C cl fp => ⟨fun pins s2 σ H Q I h => h s _ C cl fp pins s2 I⟩) (fun s H C cl fp => ⟨fun pins s2 σ H Q I h => h s _ C cl fp pins s2 I⟩) hs)
    (h.run G σ H _ sl w fun q G' H' e' w' => by
      obtain ⟨vs, hv, r⟩ := (w'.at (i := 0) rfl).2
      have e2 := w'.exFreeze (i := 0) (o := .lst vs) rfl
      exact k.run ((e0.trans e').trans e2) ((sl.mono (e'.trans e2)).set i (rep_lst upd_same (r.mono e2 _))) (w'.freeze (i := 0) rfl hv))
/-- x += e, numbers -/
theorem st_augI {x : Str} {n m : Int} (i : Nat) (hv : ρ[i]? = some (some (.int n))) (he : XE X e ρ M (.int m) M1) (k : St X rest Z G0 (ρ.set i (some (.int (n + m)))) M1) (hN : X.N.Nodup) (hi : X.N[i]? = some x := by rfl) (hx : Loc X.env.scope x := by first | exact Or.inl rfl | exact Or.inr rfl)
    (hf : X.fn x = true ∨ X.env.scope.names.lookup x = some .local := by first | exact .inl rfl | exact .inr rfl) : St X (.AugAssign (.Name x pos') .Add e pos :: rest) Z G0 ρ M := St.mk' fun G σ H e0 sl w => by
  obtain ⟨v, h1, r1⟩ := sl.get i _ hv
  exact cons_of (ps_aug hN hi hx pe_sem ip_add hf) ⟨v, h1, he.run G σ H _ sl w fun u G' H' e' w' r' => ⟨n, m, of_int r1, of_int r', k.run (e0.trans e') ((sl.mono e').set i rep_int) w'⟩⟩
end
end Wk

/-! Wk: defs. -/
namespace Wk
open PySem PySem.Spec PyProof.Rows L2 Evl

/-- a def that makes of ds and what it is lent, Mc, the value d and Mc' -/
def spR (K : PySem.W.Frag) (R : List D → Mem → D → Mem → Prop) : Sp := fun vs H Q _ => ∃ G F ds Mc d Mc', RepL K G ds vs ∧ Wd K G (Mc ++ F) H ∧ R ds Mc d Mc' ∧
  ∀ v G' H', Ex G G' → Wd K G' (Mc' ++ F) H' → Rep K G' d v → Q v H'
def startD (N : List Str) (ds : List D) : Env := ds.map some ++ List.replicate (N.length - ds.length) none
theorem sl_start {K : PySem.W.Frag} {G : Hp} {N : List Str} {ds : List D} {vs : List V} (r : RepL K G ds vs) : Sl K G (startD N ds) (L2.start N vs) := by
  refine ⟨?_, fun i d h => ?_⟩
  · unfold startD L2.start
    rw [List.length_append, List.length_append, List.length_map, List.length_map, List.length_replicate, List.length_replicate, r.length]
  · unfold startD at h
    unfold L2.start
    by_cases hi : i < ds.length
    · rw [List.getElem?_append_left (by rw [List.length_map]; exact hi), List.getElem?_map] at h
      rw [List.getElem?_append_left (by rw [List.length_map, r.length]; exact hi), List.getElem?_map]
      cases e : ds[i]? with
      | none => rw [e] at h; cases h
      | some d' =>
        rw [e] at h; cases h
        obtain ⟨v, hv, rv⟩ := r.get e
        exact ⟨v, by rw [hv]; rfl, rv⟩
    · rw [List.getElem?_append_right (by rw [List.length_map]; omega)] at h
      have := List.mem_of_getElem? h
      have := List.eq_of_mem_replicate this
      cases this
section
variable {P : Program} {w : World} {K : PySem.W.Frag} {mg : Str → Option Value} {base : Heap}
abbrev cxF (P : Program) (w : World) (K : PySem.W.Frag) (mg : Str → Option Value) (base : Heap) (N : List Str) (qual : Str) (sc : Scope) (f : Addr) (cdv : Value) (A : Around) (outer : List PySem.Env) (s : Shared) (H : Hp) (E : XK) : Cx :=
  (cxOf CX0 P w K mg base N qual sc f cdv A outer s H E).nox
theorem fn_ok {x qual : Str} {st : Stmt} {f : Addr} {fd : FuncData} {N ps : List Str} {k : Nat} {R : List D → Mem → D → Mem → Prop} (F : Fun K x qual st f fd) (S : FnScope N ps (defScope st)) (hl : ∀ ds Mc d Mc', R ds Mc d Mc' → ds.length = ps.length)
    (body : ∀ (cdv : Value) (A : Around) (outer : List PySem.Env) (s : Shared) (H0 : Hp) (E : XK), Room k (A.deeper (envOfC qual (defScope st) s.heap.objs.size f cdv)) → ∀ (G0 : Hp) (F : Mem) ds Mc d Mc' (Q : VK), R ds Mc d Mc' →
      (∀ v G' H', Ex G0 G' → Wd K G' (Mc' ++ F) H' → Rep K G' d v → Q v H') → St (cxF P w K mg base N qual (defScope st) f cdv A outer s H0 E) (defBody st) { nx := fun _ H' => Q .non H', rt := Q } G0 (startD N ds) (Mc ++ F)) :
    FnOk P w K mg base CX0 (k + 1) f fd ps (spR K R) := by
  refine F.ok S (fun vs H Q E h => ?_) (fun cdv A outer s H vs Q E hr h => ?_)
  · obtain ⟨G, F, ds, Mc, d, Mc', r, _, hR, _⟩ := h
    rw [r.length, hl ds Mc d Mc' hR]
  · obtain ⟨G, F, ds, Mc, d, Mc', r, wd, hR, q⟩ := h
    exact ⟨_, pss_sem, (body cdv A outer s H E hr G F ds Mc d Mc' Q hR q).run (Ex.refl G) (sl_start r) wd⟩
end
section
variable {X : Cx} {ρ : Env} {M M1 M2 : Mem} {d : D} {ds : List D} {k : Nat} {f : Addr} {fd : FuncData} {ps : List Str} {x : Str} {p pos : Pos} {e : Expr} {es : List Expr} {R : List D → Mem → D → Mem → Prop}
/-- a call of a def: it is lent the piece Mc of what is owned -/
theorem x_call {CX : CXT} {E : XK} (F : FnOk X.prog X.w X.K X.mg X.base CX k f fd ps (spR X.K R)) (hr : Room k X.A) (hm : X.mg x = some (.ref f)) (hk : PySem.W.keepIn X.K (.ref f) = true) (hb : Binds X.K fd ps []) (hx : Passes CX X E)
    (pre Mc post : Mem) {Mc' : Mem} (ha : XA X (e :: es) ρ M ds (pre ++ (Mc ++ post))) (hR : R ds Mc d Mc')
    (hg : Gl X x := by rfl) (hdb : (x == ("__debug__" : Str)) = false := by decide) (he : starEach (e :: es) X.env = (false, eval e X.env) :: starEach es X.env := by exact star_of rfl) (hpl : (backTo pos (starEach es X.env)).any (·.1) = false := by exact nostars rfl) :
    XE X (.Call (.Name x p) (e :: es) [] pos) ρ M d (pre ++ (Mc' ++ post)) := .mk fun G σ H Q sl w q =>
  Sem.of (pe_call F hr hg hm hk hb .nil hx pa_sem hdb he hpl) (ha.run G σ H _ sl w fun vs G1 H1 e1 w1 r1 => by
    have pm : ∀ N : Mem, (N ++ (pre ++ post)).Perm (pre ++ (N ++ post)) := fun N => by
      rw [← List.append_assoc, ← List.append_assoc]
      exact List.Perm.append_right _ List.perm_append_comm
    show spR X.K R (vs ++ []) H1 Q E
    rw [List.append_nil]
    exact ⟨G1, pre ++ post, ds, Mc, d, Mc', r1, w1.perm (pm Mc), hR, fun v G' H' e' w' r' => q.use (e1.trans e') (w'.perm (pm Mc').symm) r'⟩)
end

/-! what is lent: a deck -/
structure Deck where
  cells : List Int
  pos : Int
  seed : Int
def Deck.mem (a c : Addr) (k : Deck) : Mem := [(a, .lst [.adr c, .int k.pos, .int k.seed]), (c, .lst (k.cells.map D.int))]
end Wk

/-! Wk: typed forms, for printed walks. -/
namespace Wk
open PySem PySem.Spec PyProof.Rows L2 Evl

/-! partial operations -/
def pmod (i j : Int) : Option Int := if 0 < j then some (i % j) else none
def pdiv (i j : Int) : Option Int := if 0 < j ∧ j.natAbs.log2 < 9000 then some (i / j) else none
def pmul (i j : Int) : Option Int := if i.natAbs.log2 + j.natAbs.log2 < 1000000 then some (i * j) else none
/-- a length that the model carries -/
def pfit {α : Type} (n : Nat) (x : α) : Option α := if n < sizeLine then some x else none
theorem pmod_some {i j r : Int} (h : pmod i j = some r) : 0 < j ∧ i % j = r := by
  unfold pmod at h; split at h
  · cases h; exact ⟨‹_›, rfl⟩
  · cases h
theorem pdiv_some {i j r : Int} (h : pdiv i j = some r) : CDivW i j ∧ i / j = r := by
  unfold pdiv at h; split at h
  · cases h; exact ⟨‹_›, rfl⟩
  · cases h
theorem pmul_some {i j r : Int} (h : pmul i j = some r) : CMulW i j ∧ i * j = r := by
  unfold pmul at h; split at h
  · cases h; exact ⟨‹_›, rfl⟩
  · cases h
theorem pfit_some {α : Type} {n : Nat} {x y : α} (h : pfit n x = some y) : n < sizeLine ∧ x = y := by
  unfold pfit at h; split at h
  · cases h; exact ⟨‹_›, rfl⟩
  · cases h
/-- an item of a sequence, by a place of any sign -/
def pix {α : Type} (xs : List α) (i : Int) : Option α := atI xs i
/-- the sign at a place -/
def pixS (s : Str) (i : Int) : Option Str := if s.length ≤ sizeLine then (atI s.cps.toList i).map fun c => ⟨#[c]⟩ else none
theorem atI_map {α β : Type} {f : α → β} {xs : List α} {i : Int} {v : α} (h : atI xs i = some v) : atI (xs.map f) i = some (f v) := by
  unfold atI at h ⊢
  rw [List.length_map]
  cases e : ixN xs.length i with
  | none => rw [e] at h; cases h
  | some k =>
    rw [e] at h
    have h' : xs[k]? = some v := h
    show (xs.map f)[k]? = some (f v)
    rw [List.getElem?_map, h']; rfl
/-- the place that an index means -/
def pplace (n : Nat) (i : Int) : Option Nat := ixN n i

section
variable {X : Cx} {e a b c : Expr} {es : List Expr} {ρ : Env} {M M1 M2 M3 : Mem} {d d1 d2 : D} {ds : List D} {pos p apos : Pos} {i j r : Int} {q : Addr} {x : Str} {α : Type} {f : α → D} {xs ys : List α} {v : α}
theorem x_is (h : XE X e ρ M d M1) (he : d = d1) : XE X e ρ M d1 M1 := he ▸ h
theorem x_modO (ha : XE X a ρ M (.int i) M1) (hb : XE X b ρ M1 (.int j) M2) (h : pmod i j = some r) : XE X (.BinOp a .Mod b pos) ρ M (.int r) M2 := (pmod_some h).2 ▸ x_mod ha hb (pmod_some h).1
theorem x_fdivO (ha : XE X a ρ M (.int i) M1) (hb : XE X b ρ M1 (.int j) M2) (h : pdiv i j = some r) : XE X (.BinOp a .FloorDiv b pos) ρ M (.int r) M2 := (pdiv_some h).2 ▸ x_fdiv ha hb (.inr (pdiv_some h).1)
theorem x_mulO (ha : XE X a ρ M (.int i) M1) (hb : XE X b ρ M1 (.int j) M2) (h : pmul i j = some r) : XE X (.BinOp a .Mult b pos) ρ M (.int r) M2 := (pmul_some h).2 ▸ x_mul ha hb (.inr (pmul_some h).1)
/-- one factor is written -/
theorem x_mulL (ha : XE X a ρ M (.int i) M1) (hb : XE X b ρ M1 (.int j) M2) (h : (-(2 ^ 64) < i ∧ i < 2 ^ 64) := by decide) : XE X (.BinOp a .Mult b pos) ρ M (.int (i * j)) M2 := x_mul ha hb (.inl (.inl h))
theorem x_mulR (ha : XE X a ρ M (.int i) M1) (hb : XE X b ρ M1 (.int j) M2) (h : (-(2 ^ 64) < j ∧ j < 2 ^ 64) := by decide) : XE X (.BinOp a .Mult b pos) ρ M (.int (i * j)) M2 := x_mul ha hb (.inl (.inr h))
theorem x_modC (ha : XE X a ρ M (.int i) M1) (hb : XE X b ρ M1 (.int j) M2) (h : 0 < j := by decide) : XE X (.BinOp a .Mod b pos) ρ M (.int (i % j)) M2 := x_mod ha hb h
theorem x_fdivC (ha : XE X a ρ M (.int i) M1) (hb : XE X b ρ M1 (.int j) M2) (h : CDiv i j := by exact ⟨by decide, by decide⟩) : XE X (.BinOp a .FloorDiv b pos) ρ M (.int (i / j)) M2 := x_fdiv ha hb (.inl h)
theorem x_ixLm (ha : XE X a ρ M (.lst (xs.map f)) M1) (hb : XE X b ρ M1 (.int i) M2) (h : pix xs i = some v) (hs : PlainIx b := by exact plainIx_of rfl) : XE X (.Subscript a b pos) ρ M (f v) M2 := x_ixL ha hb (atI_map h) hs
theorem x_ixRm (ha : XE X a ρ M (.rlst (xs.map f)) M1) (hb : XE X b ρ M1 (.int i) M2) (h : pix xs i = some v) (hs : PlainIx b := by exact plainIx_of rfl) : XE X (.Subscript a b pos) ρ M (f v) M2 := x_ixR ha hb (atI_map h) hs
theorem x_ixTm (ha : XE X a ρ M (.tup (xs.map f)) M1) (hb : XE X b ρ M1 (.int i) M2) (h : pix xs i = some v) (hs : PlainIx b := by exact plainIx_of rfl) : XE X (.Subscript a b pos) ρ M (f v) M2 := x_ixT ha hb (atI_map h) hs
theorem x_ixOm (k : Nat) (ha : XE X a ρ M (.adr q) M1) (hb : XE X b ρ M1 (.int i) M2) (hk : M2[k]? = some (q, .lst (xs.map f))) (h : pix xs i = some v) (hs : PlainIx b := by exact plainIx_of rfl) : XE X (.Subscript a b pos) ρ M (f v) M2 := x_ixO k ha hb hk (atI_map h) hs
theorem x_ixSm {s t : Str} (ha : XE X a ρ M (.str s) M1) (hb : XE X b ρ M1 (.int i) M2) (h : pixS s i = some t) (hs : PlainIx b := by exact plainIx_of rfl) : XE X (.Subscript a b pos) ρ M (.str t) M2 := by
  unfold pixS at h
  split at h
  · rename_i hl
    cases e : atI s.cps.toList i with
    | none => rw [e] at h; cases h
    | some c => rw [e] at h; cases h; exact x_ixS ha hb e hl hs
  · cases h
/-- a display of things of one kind -/
theorem of_map {α : Type} {f : α → D} {xs : List α} {ds : List D} (h : ds = xs.map f) (hx : XE X e ρ M (.lst ds) M1) : XE X e ρ M (.lst (xs.map f)) M1 := h ▸ hx
end

/-! folds -/
def foldO {α S : Type} (f : S → α → Option S) : S → List α → Option S
  | s, [] => some s
  | s, x :: xs => (f s x).bind fun s' => foldO f s' xs
inductive Fl (S R : Type) where
  | nx (s : S) | rt (r : R)
/-- a loop that may hand back -/
def forR {α S R : Type} (f : S → α → Option (Fl S R)) : S → List α → Option (Fl S R)
  | s, [] => some (.nx s)
  | s, x :: xs => (f s x).bind fun y => match y with
    | .nx s' => forR f s' xs
    | .rt r => some (.rt r)
def mapO {α β : Type} (f : α → Option β) : List α → Option (List β)
  | [] => some []
  | x :: xs => (f x).bind fun y => (mapO f xs).bind fun ys => some (y :: ys)
/-- with a state that is handed on -/
def mapS {α β S : Type} (f : S → α → Option (β × S)) : S → List α → Option (List β × S)
  | s, [] => some ([], s)
  | s, x :: xs => (f s x).bind fun y => (mapS f y.2 xs).bind fun ys => some (y.1 :: ys.1, ys.2)
theorem foldO_append {α S : Type} {f : S → α → Option S} : ∀ {xs : List α} {s : S} {x : α}, foldO f s (xs ++ [x]) = (foldO f s xs).bind fun s' => f s' x
  | [], s, x => by
    show (f s x).bind (fun s' => some s') = f s x
    cases f s x <;> rfl
  | y :: ys, s, x => by
    show (f s y).bind _ = ((f s y).bind _).bind _
    cases f s y with
    | none => rfl
    | some s' => exact foldO_append (xs := ys)
theorem foldO_split {α S : Type} {f : S → α → Option S} : ∀ {xs ys : List α} {s s1 : S}, foldO f s (xs ++ ys) = some s1 → ∃ s', foldO f s xs = some s' ∧ foldO f s' ys = some s1
  | [], ys, s, s1, h => ⟨s, rfl, h⟩
  | x :: xs, ys, s, s1, h => by
    have h' : ((f s x).bind fun s' => foldO f s' (xs ++ ys)) = some s1 := h
    obtain ⟨s', h1, h2⟩ := Option.bind_eq_some_iff.mp h'
    obtain ⟨s2, h3, h4⟩ := foldO_split h2
    exact ⟨s2, by show (f s x).bind _ = _; rw [h1]; exact h3, h4⟩
theorem take_drop_at {α : Type} {xs : List α} {i : Nat} {x : α} (h : xs[i]? = some x) : xs.take (i + 1) = xs.take i ++ [x] ∧ xs = xs.take i ++ x :: xs.drop (i + 1) := by
  obtain ⟨hl, e⟩ := List.getElem?_eq_some_iff.mp h
  refine ⟨by rw [List.take_succ_eq_append_getElem hl, e], ?_⟩
  conv => lhs; rw [← List.take_append_drop i xs, List.drop_eq_getElem_cons hl, e]
theorem map_at {α β : Type} {f : α → β} {xs : List α} {i : Nat} {d : β} (h : (xs.map f)[i]? = some d) : ∃ x, xs[i]? = some x ∧ d = f x := by
  rw [List.getElem?_map] at h
  cases e : xs[i]? with
  | none => rw [e] at h; cases h
  | some x => rw [e] at h; cases h; exact ⟨x, rfl, rfl⟩
section
variable {X : Cx} {tg iter e : Expr} {body rest : List Stmt} {ρ : Env} {M M1 : Mem} {Z : Ends} {G0 : Hp} {pos : Pos} {α S R : Type} {en : α → D} {xs : List α} {s0 s1 : S}
theorem At.wipe {K : PySem.W.Frag} {σ : L2.St} {H : Hp} (h : At K G0 ρ M σ H) : ∀ ks : List Nat, At K G0 (wipeD ρ ks) M σ H := fun ks => by
  have : (wipeD ρ ks).length = ρ.length ∧ ∀ (i : Nat) d, (wipeD ρ ks)[i]? = some (some d) → ρ[i]? = some (some d) := by
    induction ks with
    | nil => exact ⟨rfl, fun _ _ h => h⟩
    | cons k ks ih =>
      refine ⟨by unfold wipeD; rw [List.length_set]; exact ih.1, fun i d h => ?_⟩
      unfold wipeD at h
      by_cases hk : k = i
      · subst hk
        by_cases hl : k < (wipeD ρ ks).length
        · rw [List.getElem?_set_self hl] at h; cases h
        · rw [List.getElem?_eq_none (by rw [List.length_set]; omega)] at h; cases h
      · rw [List.getElem?_set_ne hk] at h
        exact ih.2 i d h
  exact h.weak _ this.1 this.2
theorem st_wipe {sts : List Stmt} (ks : List Nat) (h : St X sts Z G0 (wipeD ρ ks) M) : St X sts Z G0 ρ M := h.pre fun σ H a => a.wipe ks
theorem st_drop {sts : List Stmt} (M' : Mem) (hs : M'.Sublist M) (h : St X sts Z G0 ρ M') : St X sts Z G0 ρ M := h.pre fun σ H a => a.drop M' hs
/-- for, folded -/
theorem st_forO {f : S → α → Option S} (hp : PassesOwn (model X.prog X.w) X.A X.env X.xe) (hc : X.calm = true) (ρe : S → Env) (Me : S → Mem) (hi : XI X tg iter (ρe s0) M (xs.map en) (Me s0)) (hf : foldO f s0 xs = some s1)
    (turn : ∀ G1, Ex G0 G1 → ∀ s x s', x ∈ xs → f s x = some s' → ∃ is ρ2, XG X tg (en x) is (ρe s) ρ2 ∧ St X body { Z with nx := At X.K G1 (ρe s') (Me s'), ct := At X.K G1 (ρe s') (Me s'), bk := fun _ _ => False } G1 ρ2 (Me s))
    (done : St X rest Z G0 (ρe s1) (Me s1)) (hs : ∀ x, foldedSetIterable iter X.env x = pure x := by exact fs_of rfl) : St X (.For tg iter body [] pos :: rest) Z G0 (ρe s0) M := by
  refine st_for hp hc hi (fun i ρ' M' => ∃ s, foldO f s0 (xs.take i) = some s ∧ ρ' = ρe s ∧ M' = Me s) ⟨s0, rfl, rfl, rfl⟩ (fun G1 e1 i d ρ' M' hd hI => ?_) (fun ρ' M' hI => ?_) hs
  · obtain ⟨x, hx, rfl⟩ := map_at hd
    obtain ⟨s, h1, rfl, rfl⟩ := hI
    obtain ⟨h2, h3⟩ := take_drop_at hx
    rw [h3] at hf
    obtain ⟨s2, h4, h5⟩ := foldO_split hf
    rw [h1] at h4; cases h4
    obtain ⟨s', h6, _⟩ := Option.bind_eq_some_iff.mp h5
    obtain ⟨is, ρ2, hg, hb⟩ := turn G1 e1 s x s' (List.mem_of_getElem? hx) h6
    refine ⟨is, ρ2, hg, .mk fun σ H a => ?_⟩
    have key : ∀ σ H, At X.K G1 (ρe s') (Me s') σ H → Nxt X.K G1 (fun ρ' M' => ∃ s, foldO f s0 (xs.take (i + 1)) = some s ∧ ρ' = ρe s ∧ M' = Me s) σ H := fun σ H a =>
      ⟨_, _, ⟨s', by rw [h2, foldO_append, h1]; exact h6, rfl, rfl⟩, a⟩
    intro pins sh I
    refine wpAny_mono (hb.go σ H a pins sh I) (fun fl s' h => ?_) fun _ _ h => h
    cases fl with
    | next => obtain ⟨σ', H', I', n⟩ := h; exact ⟨σ', H', I', key _ _ n⟩
    | cont => obtain ⟨σ', H', I', n⟩ := h; exact ⟨σ', H', I', key _ _ n⟩
    | brk => obtain ⟨σ', H', I', n⟩ := h; exact n.elim
    | ret v => exact h
  · obtain ⟨s, h1, rfl, rfl⟩ := hI
    rw [List.length_map, List.take_length] at h1
    rw [hf] at h1; cases h1
    exact done
theorem forR_run {f : S → α → Option (Fl S R)} : ∀ {xs ys : List α} {s : S} {y : Fl S R}, forR f s (xs ++ ys) = some y → (∃ s', forR f s xs = some (.nx s') ∧ forR f s' ys = some y) ∨ (∃ r, forR f s xs = some (.rt r) ∧ y = .rt r)
  | [], ys, s, y, h => .inl ⟨s, rfl, h⟩
  | x :: xs, ys, s, y, h => by
    have h' : ((f s x).bind fun y => match y with
      | .nx s' => forR f s' (xs ++ ys)
      | .rt r => some (.rt r)) = some y := h
    obtain ⟨z, h1, h2⟩ := Option.bind_eq_some_iff.mp h'
    cases z with
    | nx s' =>
      rcases forR_run (xs := xs) h2 with ⟨s2, h3, h4⟩ | ⟨r, h3, h4⟩
      · exact .inl ⟨s2, by show (f s x).bind _ = _; rw [h1]; exact h3, h4⟩
      · exact .inr ⟨r, by show (f s x).bind _ = _; rw [h1]; exact h3, h4⟩
    | rt r =>
      cases h2
      exact .inr ⟨r, by show (f s x).bind _ = _; rw [h1]; rfl, rfl⟩
/-- for, folded, that may hand back r: Zr is wanted of the handing back -/
theorem st_forR {f : S → α → Option (Fl S R)} {y : Fl S R} (hp : PassesOwn (model X.prog X.w) X.A X.env X.xe) (hc : X.calm = true) (ρe : S → Env) (Me : S → Mem) (hi : XI X tg iter (ρe s0) M (xs.map en) (Me s0)) (hf : forR f s0 xs = some y)
    (turn : ∀ G1, Ex G0 G1 → ∀ s x z, x ∈ xs → f s x = some z → (∀ r, z = .rt r → y = .rt r) → ∃ is ρ2, XG X tg (en x) is (ρe s) ρ2 ∧ St X body { Z with nx := fun σ H => ∃ s', z = .nx s' ∧ At X.K G1 (ρe s') (Me s') σ H, ct := fun σ H => ∃ s', z = .nx s' ∧ At X.K G1 (ρe s') (Me s') σ H, bk := fun _ _ => False } G1 ρ2 (Me s))
    (done : ∀ s1, y = .nx s1 → St X rest Z G0 (ρe s1) (Me s1)) (hs : ∀ x, foldedSetIterable iter X.env x = pure x := by exact fs_of rfl) : St X (.For tg iter body [] pos :: rest) Z G0 (ρe s0) M := by
  refine st_for hp hc hi (fun i ρ' M' => ∃ s, forR f s0 (xs.take i) = some (.nx s) ∧ ρ' = ρe s ∧ M' = Me s) ⟨s0, rfl, rfl, rfl⟩ (fun G1 e1 i d ρ' M' hd hI => ?_) (fun ρ' M' hI => ?_) hs
  · obtain ⟨x, hx, rfl⟩ := map_at hd
    obtain ⟨s, h1, rfl, rfl⟩ := hI
    obtain ⟨h2, h3⟩ := take_drop_at hx
    rw [h3] at hf
    rcases forR_run hf with ⟨s2, h4, h5⟩ | ⟨r, h4, _⟩
    · rw [h1] at h4; cases h4
      obtain ⟨z, h6, h7⟩ := Option.bind_eq_some_iff.mp h5
      obtain ⟨is, ρ2, hg, hb⟩ := turn G1 e1 s x z (List.mem_of_getElem? hx) h6 (fun r hr => by subst hr; cases h7; rfl)
      refine ⟨is, ρ2, hg, .mk fun σ H a => ?_⟩
      have key : ∀ σ H, (∃ s', z = .nx s' ∧ At X.K G1 (ρe s') (Me s') σ H) → Nxt X.K G1 (fun ρ' M' => ∃ s, forR f s0 (xs.take (i + 1)) = some (.nx s) ∧ ρ' = ρe s ∧ M' = Me s) σ H := fun σ H ⟨s', hz, a⟩ => by
        subst hz
        refine ⟨_, _, ⟨s', ?_, rfl, rfl⟩, a⟩
        rw [h2]
        have : ∀ (xs : List α) (s0 : S), forR f s0 xs = some (.nx s) → forR f s0 (xs ++ [x]) = some (.nx s') := by
          intro xs
          induction xs with
          | nil =>
            intro s0 h
            cases h
            show (f s x).bind _ = _
            rw [h6]; rfl
          | cons w ws ih =>
            intro s0 h
            have h' : ((f s0 w).bind fun y => match y with
              | .nx s' => forR f s' ws
              | .rt r => some (.rt r)) = some (.nx s) := h
            obtain ⟨z, g1, g2⟩ := Option.bind_eq_some_iff.mp h'
            cases z with
            | nx s3 => show (f s0 w).bind _ = _; rw [g1]; exact ih s3 g2
            | rt r => cases g2
        exact this _ _ h1
      intro pins sh I
      refine wpAny_mono (hb.go σ H a pins sh I) (fun fl s' h => ?_) fun _ _ h => h
      cases fl with
      | next => obtain ⟨σ', H', I', n⟩ := h; exact ⟨σ', H', I', key _ _ n⟩
      | cont => obtain ⟨σ', H', I', n⟩ := h; exact ⟨σ', H', I', key _ _ n⟩
      | brk => obtain ⟨σ', H', I', n⟩ := h; exact n.elim
      | ret v => exact h
    · rw [h1] at h4; cases h4
  · obtain ⟨s, h1, rfl, rfl⟩ := hI
    rw [List.length_map, List.take_length] at h1
    rw [hf] at h1; cases h1
    exact done s rfl
/-! comprehensions -/
variable {elt : Expr} {ifs : List Expr} {scope : Scope} {β : Type} {en2 : β → D}
theorem mapO_append {f : α → Option β} : ∀ {xs : List α} {x : α} {ys : List β} {y : β}, mapO f xs = some ys → f x = some y → mapO f (xs ++ [x]) = some (ys ++ [y])
  | [], x, ys, y, h, h2 => by cases h; show (f x).bind _ = _; rw [h2]; rfl
  | w :: ws, x, ys, y, h, h2 => by
    have h' : ((f w).bind fun y => (mapO f ws).bind fun ys => some (y :: ys)) = some ys := h
    obtain ⟨z, g1, g2⟩ := Option.bind_eq_some_iff.mp h'
    obtain ⟨zs, g3, g4⟩ := Option.bind_eq_some_iff.mp g2
    cases g4
    show (f w).bind _ = _
    rw [g1]
    show (mapO f (ws ++ [x])).bind _ = _
    rw [mapO_append g3 h2]; rfl
theorem mapO_split {f : α → Option β} : ∀ {xs ys : List α} {zs : List β}, mapO f (xs ++ ys) = some zs → ∃ us ws, mapO f xs = some us ∧ mapO f ys = some ws ∧ zs = us ++ ws
  | [], ys, zs, h => ⟨[], zs, rfl, h, rfl⟩
  | x :: xs, ys, zs, h => by
    have h' : ((f x).bind fun y => (mapO f (xs ++ ys)).bind fun ys => some (y :: ys)) = some zs := h
    obtain ⟨z, g1, g2⟩ := Option.bind_eq_some_iff.mp h'
    obtain ⟨zs', g3, g4⟩ := Option.bind_eq_some_iff.mp g2
    cases g4
    obtain ⟨us, ws, h1, h2, rfl⟩ := mapO_split g3
    exact ⟨z :: us, ws, by show (f x).bind _ = _; rw [g1]; show (mapO f xs).bind _ = _; rw [h1]; rfl, h2, rfl⟩
theorem mapO_length {f : α → Option β} : ∀ {xs : List α} {ys : List β}, mapO f xs = some ys → ys.length = xs.length
  | [], ys, h => by cases h; rfl
  | x :: xs, ys, h => by
    have h' : ((f x).bind fun y => (mapO f xs).bind fun ys => some (y :: ys)) = some ys := h
    obtain ⟨z, g1, g2⟩ := Option.bind_eq_some_iff.mp h'
    obtain ⟨zs', g3, g4⟩ := Option.bind_eq_some_iff.mp g2
    cases g4
    rw [List.length_cons, List.length_cons, mapO_length g3]
/-- [elt for tg in iter], each a value; nothing that is owned changes -/
theorem l_O {f : α → Option β} {ys : List β} (own : List (Str × Nat)) (hi : XI X tg iter ρ M (xs.map en) M1) (hf : mapO f xs = some ys) (hl : xs.length ≤ sizeLine)
    (turn : ∀ x y, x ∈ xs → f x = some y → ∃ ρ2, InB X scope (fun Y => XG Y tg (en x) (own.map (·.2)) (wipeD ρ (own.map (·.2))) ρ2) ∧ InB X scope (fun Y => ∀ q acc, XE Y elt ρ2 ((q, .lst acc) :: M1) (en2 y) ((q, .lst acc) :: M1))) :
    XL X elt tg iter [] scope own ρ M (ys.map en2) M1 := by
  refine l_any own hi (fun i acc M' => M' = M1 ∧ ∃ us, mapO f (xs.take i) = some us ∧ acc = us.map en2) ⟨rfl, [], rfl, rfl⟩ (fun i d acc M' hd hI => ?_) (fun acc M2 hI => ?_)
  · obtain ⟨x, hx, rfl⟩ := map_at hd
    obtain ⟨rfl, us, h1, rfl⟩ := hI
    obtain ⟨h2, h3⟩ := take_drop_at hx
    rw [h3] at hf
    obtain ⟨us', ws, h4, h5, _⟩ := mapO_split hf
    obtain ⟨y, h6, _⟩ := Option.bind_eq_some_iff.mp h5
    obtain ⟨ρ2, hg, he⟩ := turn x y (List.mem_of_getElem? hx) h6
    refine ⟨ρ2, true, M', hg, fun _ _ _ _ _ _ => ts_nil, fun _ => ⟨en2 y, M', fun s H C cl fp q => he s H C cl fp q _, ?_, rfl, us ++ [y], by rw [h2]; exact mapO_append h1 h6, by rw [List.map_append]; rfl⟩, fun e => by cases e⟩
    rw [List.length_map, mapO_length h1, List.length_take]
    have := (List.getElem?_eq_some_iff.mp hx).1
    omega
  · obtain ⟨rfl, us, h1, rfl⟩ := hI
    rw [List.length_map, List.take_length, hf] at h1
    cases h1
    exact ⟨rfl, rfl⟩
/-- [elt for tg in iter if c], all by plain functions -/
theorem l_F {g : α → β} {pr : α → Bool} (own : List (Str × Nat)) (hi : XI X tg iter ρ M (xs.map en) M1) (hl : xs.length ≤ sizeLine)
    (turn : ∀ x, x ∈ xs → ∃ ρ2, InB X scope (fun Y => XG Y tg (en x) (own.map (·.2)) (wipeD ρ (own.map (·.2))) ρ2) ∧ InB X scope (fun Y => ∀ q acc, XTs Y ifs ρ2 ((q, .lst acc) :: M1) (pr x) ((q, .lst acc) :: M1)) ∧
      (pr x = true → InB X scope (fun Y => ∀ q acc, XE Y elt ρ2 ((q, .lst acc) :: M1) (en2 (g x)) ((q, .lst acc) :: M1)))) :
    XL X elt tg iter ifs scope own ρ M (((xs.filter pr).map g).map en2) M1 := by
  refine l_any own hi (fun i acc M' => M' = M1 ∧ acc = ((((xs.take i).filter pr).map g).map en2)) ⟨rfl, rfl⟩ (fun i d acc M' hd hI => ?_) (fun acc M2 hI => ?_)
  · obtain ⟨x, hx, rfl⟩ := map_at hd
    obtain ⟨rfl, rfl⟩ := hI
    obtain ⟨h2, h3⟩ := take_drop_at hx
    obtain ⟨ρ2, hg, ht, he⟩ := turn x (List.mem_of_getElem? hx)
    refine ⟨ρ2, pr x, M', hg, fun s H C cl fp q => ht s H C cl fp q _, fun hp => ⟨en2 (g x), M', fun s H C cl fp q => he hp s H C cl fp q _, ?_, rfl, ?_⟩, fun hp => ⟨rfl, ?_⟩⟩
    · rw [List.length_map, List.length_map]
      have h1 := List.length_filter_le pr (xs.take i)
      rw [List.length_take] at h1
      have := (List.getElem?_eq_some_iff.mp hx).1
      omega
    · rw [h2, List.filter_append, List.map_append, List.map_append, List.filter_cons, if_pos hp]; rfl
    · rw [h2, List.filter_append, List.map_append, List.map_append, List.filter_cons, if_neg (by rw [hp]; exact Bool.false_ne_true)]
      show _ = _ ++ []
      rw [List.append_nil]
  · obtain ⟨rfl, rfl⟩ := hI
    rw [List.length_map, List.take_length]
    exact ⟨rfl, rfl⟩
theorem mapS_append {f : S → α → Option (β × S)} : ∀ {xs : List α} {x : α} {s : S} {ys : List β} {s1 : S} {y : β × S}, mapS f s xs = some (ys, s1) → f s1 x = some y → mapS f s (xs ++ [x]) = some (ys ++ [y.1], y.2)
  | [], x, s, ys, s1, y, h, h2 => by cases h; show (f s x).bind _ = _; rw [h2]; rfl
  | w :: ws, x, s, ys, s1, y, h, h2 => by
    have h' : ((f s w).bind fun y => (mapS f y.2 ws).bind fun ys => some (y.1 :: ys.1, ys.2)) = some (ys, s1) := h
    obtain ⟨z, g1, g2⟩ := Option.bind_eq_some_iff.mp h'
    obtain ⟨zs, g3, g4⟩ := Option.bind_eq_some_iff.mp g2
    cases g4
    show (f s w).bind _ = _
    rw [g1]
    show (mapS f z.2 (ws ++ [x])).bind _ = _
    rw [mapS_append (ys := zs.1) (s1 := zs.2) g3 h2]; rfl
theorem mapS_split {f : S → α → Option (β × S)} : ∀ {xs ys : List α} {s : S} {r : List β × S}, mapS f s (xs ++ ys) = some r → ∃ r1, mapS f s xs = some r1 ∧ ∃ r2, mapS f r1.2 ys = some r2
  | [], ys, s, r, h => ⟨([], s), rfl, r, h⟩
  | x :: xs, ys, s, r, h => by
    have h' : ((f s x).bind fun y => (mapS f y.2 (xs ++ ys)).bind fun ys => some (y.1 :: ys.1, ys.2)) = some r := h
    obtain ⟨z, g1, g2⟩ := Option.bind_eq_some_iff.mp h'
    obtain ⟨zs, g3, g4⟩ := Option.bind_eq_some_iff.mp g2
    obtain ⟨r1, h1, r2, h2⟩ := mapS_split g3
    exact ⟨(z.1 :: r1.1, r1.2), by show (f s x).bind _ = _; rw [g1]; show (mapS f z.2 xs).bind _ = _; rw [h1]; rfl, r2, h2⟩
theorem mapS_length {f : S → α → Option (β × S)} : ∀ {xs : List α} {s : S} {r : List β × S}, mapS f s xs = some r → r.1.length = xs.length
  | [], s, r, h => by cases h; rfl
  | x :: xs, s, r, h => by
    have h' : ((f s x).bind fun y => (mapS f y.2 xs).bind fun ys => some (y.1 :: ys.1, ys.2)) = some r := h
    obtain ⟨z, g1, g2⟩ := Option.bind_eq_some_iff.mp h'
    obtain ⟨zs', g3, g4⟩ := Option.bind_eq_some_iff.mp g2
    cases g4
    show (z.1 :: zs'.1).length = _
    rw [List.length_cons, List.length_cons, mapS_length g3]
/-- [elt for tg in iter], each changes what is owned -/
theorem l_S {f : S → α → Option (β × S)} {ys : List β} (own : List (Str × Nat)) (Me : S → Mem) (hi : XI X tg iter ρ M (xs.map en) (Me s0)) (hf : mapS f s0 xs = some (ys, s1)) (hl : xs.length ≤ sizeLine)
    (turn : ∀ s x y, x ∈ xs → f s x = some y → ∃ ρ2, InB X scope (fun Y => XG Y tg (en x) (own.map (·.2)) (wipeD ρ (own.map (·.2))) ρ2) ∧ InB X scope (fun Y => ∀ q acc, XE Y elt ρ2 ((q, .lst acc) :: Me s) (en2 y.1) ((q, .lst acc) :: Me y.2))) :
    XL X elt tg iter [] scope own ρ M (ys.map en2) (Me s1) := by
  refine l_any own hi (fun i acc M' => ∃ us s, mapS f s0 (xs.take i) = some (us, s) ∧ acc = us.map en2 ∧ M' = Me s) ⟨[], s0, rfl, rfl, rfl⟩ (fun i d acc M' hd hI => ?_) (fun acc M2 hI => ?_)
  · obtain ⟨x, hx, rfl⟩ := map_at hd
    obtain ⟨us, s, h1, rfl, rfl⟩ := hI
    obtain ⟨h2, h3⟩ := take_drop_at hx
    rw [h3] at hf
    obtain ⟨r1, h4, r2, h5⟩ := mapS_split hf
    rw [h1] at h4; cases h4
    obtain ⟨y, h6, _⟩ := Option.bind_eq_some_iff.mp h5
    obtain ⟨ρ2, hg, he⟩ := turn s x y (List.mem_of_getElem? hx) h6
    refine ⟨ρ2, true, Me s, hg, fun _ _ _ _ _ _ => ts_nil, fun _ => ⟨en2 y.1, Me y.2, fun s H C cl fp q => he s H C cl fp q _, ?_, us ++ [y.1], y.2, by rw [h2]; exact mapS_append h1 h6, by rw [List.map_append]; rfl, rfl⟩, fun e => by cases e⟩
    rw [List.length_map, mapS_length h1, List.length_take]
    have := (List.getElem?_eq_some_iff.mp hx).1
    omega
  · obtain ⟨us, s, h1, rfl, rfl⟩ := hI
    rw [List.length_map, List.take_length, hf] at h1
    cases h1
    exact ⟨rfl, rfl⟩
end
/-! while -/
section
open Classical
variable {S : Type}
def whileN (c : S → Option Bool) (f : S → Option S) : Nat → S → Option S
  | 0, _ => none
  | n + 1, s => (c s).bind fun b => if b = true then (f s).bind fun s' => whileN c f n s' else some s
theorem whileN_mono {c : S → Option Bool} {f : S → Option S} : ∀ {n m : Nat} {s r : S}, n ≤ m → whileN c f n s = some r → whileN c f m s = some r
  | 0, _, _, _, _, h => by cases h
  | n + 1, 0, _, _, hle, _ => by omega
  | n + 1, m + 1, s, r, hle, h => by
    have h' : ((c s).bind fun b => if b = true then (f s).bind fun s' => whileN c f n s' else some s) = some r := h
    show ((c s).bind fun b => if b = true then (f s).bind fun s' => whileN c f m s' else some s) = some r
    obtain ⟨b, h1, h2⟩ := Option.bind_eq_some_iff.mp h'
    rw [h1]
    show (if b = true then (f s).bind fun s' => whileN c f m s' else some s) = some r
    cases b with
    | false => exact h2
    | true =>
      rw [if_pos rfl] at h2 ⊢
      obtain ⟨s', h3, h4⟩ := Option.bind_eq_some_iff.mp h2
      rw [h3]
      exact whileN_mono (by omega) h4
/-- while, to its end -/
noncomputable def whileO (c : S → Option Bool) (f : S → Option S) (s : S) : Option S :=
  if h : ∃ r n, whileN c f n s = some r then some h.choose else none
theorem whileO_iff {c : S → Option Bool} {f : S → Option S} {s r : S} : whileO c f s = some r ↔ ∃ n, whileN c f n s = some r := by
  unfold whileO
  by_cases h : ∃ r n, whileN c f n s = some r
  · rw [dif_pos h]
    obtain ⟨n, hn⟩ := h.choose_spec
    constructor
    · intro e; cases e; exact ⟨n, hn⟩
    · rintro ⟨m, hm⟩
      have h1 := whileN_mono (Nat.le_max_left n m) hn
      have h2 := whileN_mono (Nat.le_max_right n m) hm
      rw [h1] at h2
      exact h2
  · rw [dif_neg h]
    constructor
    · intro e; cases e
    · rintro ⟨n, hn⟩; exact absurd ⟨r, n, hn⟩ h
theorem whileO_step {c : S → Option Bool} {f : S → Option S} {s s' r : S} (h1 : c s = some true) (h2 : f s = some s') (h3 : whileO c f s' = some r) : whileO c f s = some r := by
  obtain ⟨n, hn⟩ := whileO_iff.mp h3
  refine whileO_iff.mpr ⟨n + 1, ?_⟩
  show ((c s).bind _) = _
  rw [h1]
  show (if true = true then (f s).bind fun s' => whileN c f n s' else some s) = some r
  rw [if_pos rfl, h2]
  exact hn
theorem whileO_stop {c : S → Option Bool} {f : S → Option S} {s : S} (h1 : c s = some false) : whileO c f s = some s := by
  refine whileO_iff.mpr ⟨1, ?_⟩
  show ((c s).bind _) = _
  rw [h1]
  rfl
end
section
variable {X : Cx} {c : Expr} {body rest : List Stmt} {ρ : Env} {M : Mem} {Z : Ends} {G0 : Hp} {pos : Pos} {S : Type} {s0 s1 : S}
theorem st_whileO {cf : S → Option Bool} {f : S → Option S} (hp : PassesOwn (model X.prog X.w) X.A X.env X.xe) (ρe : S → Env) (Me : S → Mem) (hf : whileO cf f s0 = some s1)
    (turn : ∀ s b, cf s = some b → ∃ M2, XT X c (ρe s) (Me s) b M2 ∧ (b = false → M2 = Me s) ∧ (b = true → ∀ s', f s = some s' → St X body { Z with nx := At X.K G0 (ρe s') (Me s'), ct := At X.K G0 (ρe s') (Me s'), bk := fun _ _ => False } G0 (ρe s) M2))
    (done : cf s1 = some false → St X rest Z G0 (ρe s1) (Me s1)) : St X (.While c body [] pos :: rest) Z G0 (ρe s0) (Me s0) := by
  obtain ⟨n0, hn0⟩ := whileO_iff.mp hf
  refine st_while hp (fun n ρ' M' => ∃ s, whileN cf f n s = some s1 ∧ ρ' = ρe s ∧ M' = Me s) n0 ⟨s0, hn0, rfl, rfl⟩ (fun n ρ' M' hI => ?_)
  obtain ⟨s, hs, rfl, rfl⟩ := hI
  cases n with
  | zero => cases hs
  | succ n =>
    have h' : ((cf s).bind fun b => if b = true then (f s).bind fun s' => whileN cf f n s' else some s) = some s1 := hs
    obtain ⟨b, h1, h2⟩ := Option.bind_eq_some_iff.mp h'
    obtain ⟨M2, ht, hM, hb⟩ := turn s b h1
    refine ⟨b, M2, ht, fun e => ?_, fun e => ?_⟩
    · rw [if_pos e] at h2
      obtain ⟨s', h3, h4⟩ := Option.bind_eq_some_iff.mp h2
      refine .mk fun σ H a pins sh I => ?_
      refine wpAny_mono ((hb e s' h3).go σ H a pins sh I) (fun fl sh' h => ?_) fun _ _ h => h
      have key : ∀ σ H, At X.K G0 (ρe s') (Me s') σ H → Nxt X.K G0 (fun ρ M => ∃ m, m < n + 1 ∧ ∃ s, whileN cf f m s = some s1 ∧ ρ = ρe s ∧ M = Me s) σ H := fun σ H a => ⟨_, _, ⟨n, Nat.lt_succ_self n, s', h4, rfl, rfl⟩, a⟩
      cases fl with
      | next => obtain ⟨σ', H', I', n⟩ := h; exact ⟨σ', H', I', key _ _ n⟩
      | cont => obtain ⟨σ', H', I', n⟩ := h; exact ⟨σ', H', I', key _ _ n⟩
      | brk => obtain ⟨σ', H', I', n⟩ := h; exact n.elim
      | ret v => exact h
    · subst e
      rw [if_neg Bool.false_ne_true] at h2
      cases h2
      rw [hM rfl]
      exact done h1
end

/-! joins -/
section
variable {X : Cx} {c : Expr} {a b rest : List Stmt} {ρ : Env} {M M1 : Mem} {Z : Ends} {G0 : Hp} {pos : Pos} {k : Bool}
theorem st_ifJ (ρ' : Env) (M' : Mem) (hc : XT X c ρ M k M1) (h1 : k = true → St X a { Z with nx := At X.K G0 ρ' M' } G0 ρ M1) (h2 : k = false → St X b { Z with nx := At X.K G0 ρ' M' } G0 ρ M1) (h : St X rest Z G0 ρ' M') : St X (.If c a b pos :: rest) Z G0 ρ M := by
  have key : ∀ (sts : List Stmt) (ρ : Env) (M : Mem), St X sts { Z with nx := At X.K G0 ρ' M' } G0 ρ M → St X sts { Z with nx := SemSs X rest Z } G0 ρ M := fun sts ρ M hb => .mk fun σ H at' pins sh I => by
    refine wpAny_mono (hb.go σ H at' pins sh I) (fun fl sh' q => ?_) fun _ _ h => h
    cases fl with
    | next => obtain ⟨σ', H', I', n⟩ := q; exact ⟨σ', H', I', h.go σ' H' n⟩
    | cont => exact q
    | brk => exact q
    | ret v => exact q
  exact st_if hc (fun e => key _ _ _ (h1 e)) (fun e => key _ _ _ (h2 e))
end

/-! a def that stands -/
structure Def (P : Program) (w : World) (K : PySem.W.Frag) (mg : Str → Option Value) (base : Heap) (k : Nat) (x : Str) (ps : List Str) (R : List D → Mem → D → Mem → Prop) : Prop where
  ex : ∃ f fd, FnOk P w K mg base CX0 k f fd ps (spR K R) ∧ mg x = some (.ref f) ∧ PySem.W.keepIn K (.ref f) = true ∧ Binds K fd ps []
section
variable {X : Cx} {ρ : Env} {M : Mem} {d : D} {ds : List D} {k k' : Nat} {ps : List Str} {x : Str} {p pos : Pos} {e : Expr} {es : List Expr} {R : List D → Mem → D → Mem → Prop}
theorem x_callD (F : Def X.prog X.w X.K X.mg X.base k x ps R) (hr : Room k' X.A) (hk : k ≤ k')
    (pre Mc post : Mem) {Mc' : Mem} (ha : XA X (e :: es) ρ M ds (pre ++ (Mc ++ post))) (hR : R ds Mc d Mc')
    (hg : Gl X x := by rfl) (hdb : (x == ("__debug__" : Str)) = false := by decide) (he : starEach (e :: es) X.env = (false, eval e X.env) :: starEach es X.env := by exact star_of rfl) (hpl : (backTo pos (starEach es X.env)).any (·.1) = false := by exact nostars rfl) :
    XE X (.Call (.Name x p) (e :: es) [] pos) ρ M d (pre ++ (Mc' ++ post)) := by
  obtain ⟨f, fd, h1, h2, h3, h4⟩ := F.ex
  exact x_call (E := E0) h1 (hr.mono hk) h2 h3 h4 pass0 pre Mc post ha hR hg hdb he hpl
end
end Wk

/-! Wk: forms that the printer uses. -/
namespace Wk
open PySem PySem.Spec PyProof.Rows L2 Evl

/-! what data of Lean are as plain data -/
abbrev eP2 {α β : Type} (f : α → D) (g : β → D) (x : α × β) : D := .tup [f x.1, g x.2]
abbrev eP3 {α β γ : Type} (f : α → D) (g : β → D) (h : γ → D) (x : α × β × γ) : D := .tup [f x.1, g x.2.1, h x.2.2]
abbrev eP4 {α β γ δ : Type} (f : α → D) (g : β → D) (h : γ → D) (k : δ → D) (x : α × β × γ × δ) : D := .tup [f x.1, g x.2.1, h x.2.2.1, k x.2.2.2]
abbrev eTs {α : Type} (f : α → D) (xs : List α) : D := .tup (xs.map f)
abbrev eLs {α : Type} (f : α → D) (xs : List α) : D := .lst (xs.map f)
abbrev eO {α : Type} (f : α → D) : Option α → D
  | none => .non
  | some x => f x
abbrev eU (_ : Unit) : D := .non

/-- the builtins that the text leaves alone -/
structure Blt (mg : Str → Option Value) : Prop where
  len : mg "len" = none
  range : mg "range" = none
  max : mg "max" = none
  min : mg "min" = none
  abs : mg "abs" = none
  sum : mg "sum" = none
  all : mg "all" = none
  int : mg "int" = none
  str : mg "str" = none
  list : mg "list" = none
  tuple : mg "tuple" = none
  sorted : mg "sorted" = none
  isinstance : mg "isinstance" = none
  dict : mg "dict" = none
  zip : mg "zip" = none
  enumerate : mg "enumerate" = none
  set : mg "set" = none
  bool : mg "bool" = none

/-! guards -/
def prng (lo hi : Int) : Option (List Int) := if 0 ≤ lo ∧ lo ≤ 16777216 ∧ 0 ≤ hi ∧ hi ≤ 16777216 then some (rgI lo hi) else none
theorem prng_some {lo hi : Int} {xs : List Int} (h : prng lo hi = some xs) : (0 ≤ lo ∧ lo ≤ 16777216 ∧ 0 ≤ hi ∧ hi ≤ 16777216) ∧ rgI lo hi = xs := by
  unfold prng at h; split at h
  · cases h; exact ⟨‹_›, rfl⟩
  · cases h
theorem rgI_len {lo hi : Int} : (rgI lo hi).length = (hi - lo).toNat := by unfold rgI; rw [List.length_map, List.length_range]
theorem prng_len {lo hi : Int} {xs : List Int} (h : prng lo hi = some xs) : xs.length ≤ sizeLine := by
  obtain ⟨h1, rfl⟩ := prng_some h
  rw [rgI_len, sizeLine_eq]; omega
def padd (s t : Str) : Option Str := if s.length + t.length ≤ sizeLine then some (s ++ t) else none
theorem padd_some {s t r : Str} (h : padd s t = some r) : s.length + t.length ≤ sizeLine ∧ s ++ t = r := by
  unfold padd at h; split at h
  · cases h; exact ⟨‹_›, rfl⟩
  · cases h
def pcat {α : Type} (s t : List α) : Option (List α) := if s.length + t.length ≤ sizeLine then some (s ++ t) else none
theorem pcat_some {α : Type} {s t r : List α} (h : pcat s t = some r) : s.length + t.length ≤ sizeLine ∧ s ++ t = r := by
  unfold pcat at h; split at h
  · cases h; exact ⟨‹_›, rfl⟩
  · cases h
def psnoc {α : Type} (s : List α) (t : α) : Option (List α) := if s.length < sizeLine then some (s ++ [t]) else none
theorem psnoc_some {α : Type} {s r : List α} {t : α} (h : psnoc s t = some r) : s.length < sizeLine ∧ s ++ [t] = r := by
  unfold psnoc at h; split at h
  · cases h; exact ⟨‹_›, rfl⟩
  · cases h
def prep {α : Type} (s : List α) (k : Int) : Option (List α) := if k ≤ 16777216 ∧ -(2 ^ 63) ≤ k ∧ s.length * k.toNat ≤ sizeLine then some (List.replicate k.toNat s).flatten else none
theorem prep_some {α : Type} {s r : List α} {k : Int} (h : prep s k = some r) : (k ≤ 16777216 ∧ -(2 ^ 63) ≤ k ∧ s.length * k.toNat ≤ sizeLine) ∧ (List.replicate k.toNat s).flatten = r := by
  unfold prep at h; split at h
  · cases h; exact ⟨‹_›, rfl⟩
  · cases h
def pcutS (s : Str) (lo hi : Option Int) : Option Str := if s.length ≤ sizeLine then some (cutS s lo hi) else none
theorem pcutS_some {s r : Str} {lo hi : Option Int} (h : pcutS s lo hi = some r) : s.length ≤ sizeLine ∧ cutS s lo hi = r := by
  unfold pcutS at h; split at h
  · cases h; exact ⟨‹_›, rfl⟩
  · cases h
def plen (s : Str) : Option Int := if s.length ≤ sizeLine then some (s.length : Nat) else none
theorem plen_some {s : Str} {r : Int} (h : plen s = some r) : s.length ≤ sizeLine ∧ ((s.length : Nat) : Int) = r := by
  unfold plen at h; split at h
  · cases h; exact ⟨‹_›, rfl⟩
  · cases h
def pjoin (s : Str) (ss : List Str) : Option Str := if (ss.map (·.length)).sum + ss.length * s.length ≤ 16777216 then some (Txt.join s ss) else none
theorem pjoin_some {s r : Str} {ss : List Str} (h : pjoin s ss = some r) : (ss.map (·.length)).sum + ss.length * s.length ≤ 16777216 ∧ Txt.join s ss = r := by
  unfold pjoin at h; split at h
  · cases h; exact ⟨‹_›, rfl⟩
  · cases h
/-- pop(i), 0 ≤ i: the item and what is left -/
def ppop {α : Type} (xs : List α) (i : Int) : Option (α × List α) := if 0 ≤ i ∧ xs.length < 2 ^ 63 then (xs[i.toNat]?).map fun x => (x, xs.eraseIdx i.toNat) else none
theorem ppop_some {α : Type} {xs : List α} {i : Int} {r : α × List α} (h : ppop xs i = some r) : 0 ≤ i ∧ xs.length < 2 ^ 63 ∧ xs[i.toNat]? = some r.1 ∧ xs.eraseIdx i.toNat = r.2 := by
  unfold ppop at h; split at h
  · rename_i hc
    cases e : xs[i.toNat]? with
    | none => rw [e] at h; cases h
    | some x => rw [e] at h; cases h; exact ⟨hc.1, hc.2, rfl, rfl⟩
  · cases h
/-- pop() -/
def ppopL {α : Type} (xs : List α) : Option (α × List α) := (xs[xs.length - 1]?).map fun x => (x, xs.dropLast)
theorem ppopL_some {α : Type} {xs : List α} {r : α × List α} (h : ppopL xs = some r) : xs[xs.length - 1]? = some r.1 ∧ xs.dropLast = r.2 := by
  unfold ppopL at h
  cases e : xs[xs.length - 1]? with
  | none => rw [e] at h; cases h
  | some x => rw [e] at h; cases h; exact ⟨rfl, rfl⟩
/-- xs[i] = v -/
def pset {α : Type} (xs : List α) (i : Int) (v : α) : Option (List α) := (ixN xs.length i).map fun j => xs.set j v
theorem pset_some {α : Type} {xs r : List α} {i : Int} {v : α} (h : pset xs i v = some r) : ∃ j, ixN xs.length i = some j ∧ xs.set j v = r := by
  unfold pset at h
  cases e : ixN xs.length i with
  | none => rw [e] at h; cases h
  | some j => rw [e] at h; cases h; exact ⟨j, rfl, rfl⟩
/-- the greatest of a list -/
def pmaxL (xs : List Int) : Option Int := xs.max?
/-- == of data -/
def peq (d e : D) : Option Bool := if d.ok = true ∧ SeqAt.shaped d.py = true ∧ e.ok = true ∧ SeqAt.shaped e.py = true then some (d.eqv e) else none
theorem peq_some {d e : D} {r : Bool} (h : peq d e = some r) : d.fit ∧ e.fit ∧ d.eqv e = r := by
  unfold peq at h; split at h
  · rename_i hc; cases h; exact ⟨⟨hc.1, hc.2.1⟩, ⟨hc.2.2.1, hc.2.2.2⟩, rfl⟩
  · cases h
/-- sorted ints -/
def sortI (ns : List Int) : List Int := ns.mergeSort (fun a b => decide (a ≤ b))
theorem sortI_perm (ns : List Int) : (sortI ns).Perm ns := List.mergeSort_perm _ _
theorem sortI_le (ns : List Int) : (sortI ns).Pairwise (· ≤ ·) := by
  have h := List.pairwise_mergeSort (le := fun a b : Int => decide (a ≤ b)) (fun a b c h1 h2 => by simp at *; omega) (fun a b => by simp; omega) ns
  exact h.imp fun h => by simpa using h
theorem sorted_one : ∀ {xs ys : List Int}, xs.Perm ys → xs.Pairwise (· ≤ ·) → ys.Pairwise (· ≤ ·) → xs = ys := fun {xs ys} p h1 h2 =>
  p.eq_of_pairwise (fun a b _ _ h1 h2 => Int.le_antisymm h1 h2) h1 h2

section
variable {X : Cx} {e a b c : Expr} {es : List Expr} {ρ : Env} {M M1 M2 M3 : Mem} {d d1 d2 : D} {ds : List D} {pos p apos : Pos} {i j r : Int} {q : Addr} {x : Str} {α : Type} {f : α → D} {xs ys zs : List α} {v : α} {s t u : Str}
theorem x_addSO (ha : XE X a ρ M (.str s) M1) (hb : XE X b ρ M1 (.str t) M2) (h : padd s t = some u) : XE X (.BinOp a .Add b pos) ρ M (.str u) M2 := (padd_some h).2 ▸ x_addS ha hb (padd_some h).1
theorem n_catO (ha : XE X a ρ M (.lst (xs.map f)) M1) (hb : XE X b ρ M1 (.lst (ys.map f)) M2) (h : pcat xs ys = some zs) : XN X (.BinOp a .Add b pos) ρ M (.lst (zs.map f)) M2 := by
  obtain ⟨h1, rfl⟩ := pcat_some h
  rw [List.map_append]
  exact n_cat ha hb (by rw [List.length_map, List.length_map]; exact h1)
theorem x_catTO (ha : XE X a ρ M (.tup (xs.map f)) M1) (hb : XE X b ρ M1 (.tup (ys.map f)) M2) (h : pcat xs ys = some zs) : XE X (.BinOp a .Add b pos) ρ M (.tup (zs.map f)) M2 := by
  obtain ⟨h1, rfl⟩ := pcat_some h
  rw [List.map_append]
  exact x_catT ha hb (by rw [List.length_map, List.length_map]; exact h1)
theorem n_repO {k : Int} (ha : XE X a ρ M (.lst (xs.map f)) M1) (hb : XE X b ρ M1 (.int k) M2) (h : prep xs k = some zs) : XN X (.BinOp a .Mult b pos) ρ M (.lst (zs.map f)) M2 := by
  obtain ⟨⟨h1, h2, h3⟩, rfl⟩ := prep_some h
  have e : ((List.replicate k.toNat xs).flatten).map f = (List.replicate k.toNat (xs.map f)).flatten := by rw [List.map_flatten, List.map_replicate]
  rw [e]
  exact n_rep ha hb h2 (by omega) (by rw [List.length_map]; exact h3)
theorem n_listRgO {xs : List Int} (hc : X.calm = true) (h : XR X e ρ M i j M1) (hk : prng i j = some xs) (hm : X.mg "list" = none) (hg : Gl X "list" := by rfl) (na : starEach [e] X.env = (false, eval e X.env) :: starEach [] X.env := by exact star_of rfl) :
    XN X (.Call (.Name "list" p) [e] [] pos) ρ M (.lst (xs.map D.int)) M1 := by
  obtain ⟨h1, rfl⟩ := prng_some hk
  exact n_listRg hc h (RgOk.of_le h1.1 h1.2.2.2 h1.2.1 h1.2.2.1) hm hg na
theorem x_tupRgO {xs : List Int} (hc : X.calm = true) (h : XR X e ρ M i j M1) (hk : prng i j = some xs) (hm : X.mg "tuple" = none) (hg : Gl X "tuple" := by rfl) (na : starEach [e] X.env = (false, eval e X.env) :: starEach [] X.env := by exact star_of rfl) :
    XE X (.Call (.Name "tuple" p) [e] [] pos) ρ M (.tup (xs.map D.int)) M1 := by
  obtain ⟨h1, rfl⟩ := prng_some hk
  exact x_tupRg hc h (RgOk.of_le h1.1 h1.2.2.2 h1.2.1 h1.2.2.1) hm hg na
theorem i_rng1O {tg a : Expr} {xs : List Int} (ha : XA X [a] ρ M [.int j] M1) (hk : prng 0 j = some xs) (hm : X.mg "range" = none) (hg : Gl X "range" := by rfl) (hs : starEach [a] X.env = [(false, eval a X.env)] := by exact star_one rfl) :
    XI X tg (.Call (.Name "range" p) [a] [] pos) ρ M (xs.map D.int) M1 := by
  obtain ⟨h1, rfl⟩ := prng_some hk
  exact i_rng1 ha (by omega) (by omega) hm hg hs
theorem i_rng2O {tg a b : Expr} {xs : List Int} (ha : XA X [a, b] ρ M [.int i, .int j] M1) (hk : prng i j = some xs) (hm : X.mg "range" = none) (hg : Gl X "range" := by rfl) (hs : starEach [a, b] X.env = [(false, eval a X.env), (false, eval b X.env)] := by exact star_two rfl rfl) (hs2 : starEach [b] X.env = [(false, eval b X.env)] := by exact star_one rfl) :
    XI X tg (.Call (.Name "range" p) [a, b] [] pos) ρ M (xs.map D.int) M1 := by
  obtain ⟨h1, rfl⟩ := prng_some hk
  exact i_rng2 ha (by omega) hm hg hs hs2
theorem x_slSO {lo hi : Option Expr} {l w : Option Int} {p2 : Pos} (ha : XE X a ρ M (.str s) M1) (hlo : XO X lo ρ M1 l M2) (hhi : XO X hi ρ M2 w M3) (h : pcutS s l w = some t) : XE X (.Subscript a (.Slice lo hi none p2) pos) ρ M (.str t) M3 :=
  (pcutS_some h).2 ▸ x_slS ha hlo hhi (pcutS_some h).1
theorem cutD_map {α β : Type} {f : α → β} {xs : List α} {l w : Option Int} : cutD (xs.map f) l w = (cutD xs l w).map f := by
  unfold cutD; rw [List.length_map, List.map_take, List.map_drop]
theorem n_slLm {lo hi : Option Expr} {l w : Option Int} {p2 : Pos} (ha : XE X a ρ M (.lst (xs.map f)) M1) (hlo : XO X lo ρ M1 l M2) (hhi : XO X hi ρ M2 w M3) : XN X (.Subscript a (.Slice lo hi none p2) pos) ρ M (.lst ((cutD xs l w).map f)) M3 := by
  rw [← cutD_map]; exact n_slL ha hlo hhi
theorem n_slRm {lo hi : Option Expr} {l w : Option Int} {p2 : Pos} (ha : XE X a ρ M (.rlst (xs.map f)) M1) (hlo : XO X lo ρ M1 l M2) (hhi : XO X hi ρ M2 w M3) : XN X (.Subscript a (.Slice lo hi none p2) pos) ρ M (.lst ((cutD xs l w).map f)) M3 := by
  rw [← cutD_map]; exact n_slR ha hlo hhi
theorem n_slOm {lo hi : Option Expr} {l w : Option Int} {p2 : Pos} (k : Nat) (ha : XE X a ρ M (.adr q) M1) (hlo : XO X lo ρ M1 l M2) (hhi : XO X hi ρ M2 w M3) (hk : M3[k]? = some (q, .lst (xs.map f))) : XN X (.Subscript a (.Slice lo hi none p2) pos) ρ M (.lst ((cutD xs l w).map f)) M3 := by
  rw [← cutD_map]; exact n_slO k ha hlo hhi hk
theorem x_slTm {lo hi : Option Expr} {l w : Option Int} {p2 : Pos} (ha : XE X a ρ M (.tup (xs.map f)) M1) (hlo : XO X lo ρ M1 l M2) (hhi : XO X hi ρ M2 w M3) : XE X (.Subscript a (.Slice lo hi none p2) pos) ρ M (.tup ((cutD xs l w).map f)) M3 := by
  rw [← cutD_map]; exact x_slT ha hlo hhi
theorem x_lenm (ha : XA X [a] ρ M [d] M1) (hq : SeqD M1 d (xs.map f)) (hm : X.mg "len" = none) (hg : Gl X "len" := by rfl) (he : starEach [a] X.env = (false, eval a X.env) :: starEach [] X.env := by exact star_of rfl) :
    XE X (.Call (.Name "len" p) [a] [] pos) ρ M (.int (xs.length : Nat)) M1 := by
  have := x_len (p := p) (pos := pos) ha hq hm hg he
  rw [List.length_map] at this
  exact this
theorem x_lenSO (ha : XA X [a] ρ M [.str s] M1) (h : plen s = some r) (hm : X.mg "len" = none) (hg : Gl X "len" := by rfl) (he : starEach [a] X.env = (false, eval a X.env) :: starEach [] X.env := by exact star_of rfl) :
    XE X (.Call (.Name "len" p) [a] [] pos) ρ M (.int r) M1 := (plen_some h).2 ▸ x_lenS ha (plen_some h).1 hm hg he
theorem x_joinO {ss : List Str} (ho : XE X a ρ M (.str s) M1) (ha : XA X [e] ρ M1 [d] M2) (hq : SeqD M2 d (ss.map D.str)) (h : pjoin s ss = some t)
    (hbase : attributeBase a "join" X.env (eval a X.env) = eval a X.env := by exact base_of rfl)
    (hfew : ((backTo pos (starEach [e] X.env)).all (fun x => !x.1) && (backToKw pos (keywordEach [] X.env)).all (fun x => x.1.isSome)
      && decide ([e].length + ([] : List Keyword).length + (if ([] : List Keyword).isEmpty then 0 else 1) < 30)) = true := by exact fewargs rfl (by decide))
    (hline : (apos.endLine == pos.line) = true := by rfl) (hs : starEach [e] X.env = (false, eval e X.env) :: starEach [] X.env := by exact star_of rfl) (hplain : (backTo pos (starEach [] X.env)).any (·.1) = false := by exact nostars rfl) :
    XE X (.Call (.Attribute a "join" apos) [e] [] pos) ρ M (.str t) M2 := (pjoin_some h).2 ▸ x_join ho ha hq (pjoin_some h).1 hbase hfew hline hs hplain
theorem eraseIdx_mapD {α β : Type} {f : α → β} : ∀ {xs : List α} {n : Nat}, (xs.map f).eraseIdx n = (xs.eraseIdx n).map f
  | [], _ => rfl
  | _ :: _, 0 => rfl
  | x :: xs, n + 1 => congrArg (f x :: ·) eraseIdx_mapD
theorem x_popO (k : Nat) {y : α × List α} (ho : XE X a ρ M (.adr q) M1) (ha : XA X [e] ρ M1 [.int i] M2) (hk1 : M1[k]? = some (q, .lst ds)) (hk : M2[k]? = some (q, .lst (xs.map f))) (hd : ppop xs i = some y)
    (hbase : attributeBase a "pop" X.env (eval a X.env) = eval a X.env := by exact base_of rfl)
    (hfew : ((backTo pos (starEach [e] X.env)).all (fun x => !x.1) && (backToKw pos (keywordEach [] X.env)).all (fun x => x.1.isSome)
      && decide ([e].length + ([] : List Keyword).length + (if ([] : List Keyword).isEmpty then 0 else 1) < 30)) = true := by exact fewargs rfl (by decide))
    (hline : (apos.endLine == pos.line) = true := by rfl) (hs : starEach [e] X.env = (false, eval e X.env) :: starEach [] X.env := by exact star_of rfl) (hplain : (backTo pos (starEach [] X.env)).any (·.1) = false := by exact nostars rfl) :
    XE X (.Call (.Attribute a "pop" apos) [e] [] pos) ρ M (f y.1) (M2.set k (q, .lst (y.2.map f))) := by
  obtain ⟨h0, h1, h2, h3⟩ := ppop_some hd
  have e1 : ((i.toNat : Nat) : Int) = i := by omega
  rw [← h3, ← eraseIdx_mapD]
  exact x_popAt k (n := i.toNat) ho (by rw [e1]; exact ha) hk1 hk (by rw [List.getElem?_map, h2]; rfl) hbase hfew hline hs hplain (by rw [List.length_map]; exact h1)
theorem x_appendO (k : Nat) (ho : XE X a ρ M (.adr q) M1) (ha : XA X [e] ρ M1 [f v] M2) (hk1 : M1[k]? = some (q, .lst ds)) (hk : M2[k]? = some (q, .lst (xs.map f))) (h : psnoc xs v = some ys)
    (hbase : attributeBase a "append" X.env (eval a X.env) = eval a X.env := by exact base_of rfl)
    (hfew : ((backTo pos (starEach [e] X.env)).all (fun x => !x.1) && (backToKw pos (keywordEach [] X.env)).all (fun x => x.1.isSome)
      && decide ([e].length + ([] : List Keyword).length + (if ([] : List Keyword).isEmpty then 0 else 1) < 30)) = true := by exact fewargs rfl (by decide))
    (hline : (apos.endLine == pos.line) = true := by rfl) (hs : starEach [e] X.env = (false, eval e X.env) :: starEach [] X.env := by exact star_of rfl) (hplain : (backTo pos (starEach [] X.env)).any (·.1) = false := by exact nostars rfl) :
    XE X (.Call (.Attribute a "append" apos) [e] [] pos) ρ M .non (M2.set k (q, .lst (ys.map f))) := by
  obtain ⟨h1, rfl⟩ := psnoc_some h
  rw [List.map_append]
  exact x_append k ho ha hk1 hk (by rw [List.length_map]; exact h1) hbase hfew hline hs hplain
theorem x_extendO (k : Nat) (ho : XE X a ρ M (.adr q) M1) (ha : XA X [e] ρ M1 [.lst (zs.map f)] M2) (hk1 : M1[k]? = some (q, .lst ds)) (hk : M2[k]? = some (q, .lst (xs.map f))) (h : pcat xs zs = some ys)
    (hbase : attributeBase a "extend" X.env (eval a X.env) = eval a X.env := by exact base_of rfl)
    (hfew : ((backTo pos (starEach [e] X.env)).all (fun x => !x.1) && (backToKw pos (keywordEach [] X.env)).all (fun x => x.1.isSome)
      && decide ([e].length + ([] : List Keyword).length + (if ([] : List Keyword).isEmpty then 0 else 1) < 30)) = true := by exact fewargs rfl (by decide))
    (hline : (apos.endLine == pos.line) = true := by rfl) (hs : starEach [e] X.env = (false, eval e X.env) :: starEach [] X.env := by exact star_of rfl) (hplain : (backTo pos (starEach [] X.env)).any (·.1) = false := by exact nostars rfl) :
    XE X (.Call (.Attribute a "extend" apos) [e] [] pos) ρ M .non (M2.set k (q, .lst (ys.map f))) := by
  obtain ⟨h1, rfl⟩ := pcat_some h
  rw [List.map_append]
  exact x_extend k ho ha hk1 hk (by rw [List.length_map, List.length_map]; exact h1) hbase hfew hline hs hplain
theorem st_setO {rest : List Stmt} {Z : Ends} {G0 : Hp} {oe ie : Expr} {p2 : Pos} (kk : Nat) (he : XE X e ρ M (f v) M1) (ho : XE X oe ρ M1 (.adr q) M2) (hi : XE X ie ρ M2 (.int i) M3) (hk : M3[kk]? = some (q, .lst (xs.map f))) (hj : pset xs i v = some ys)
    (k : St X rest Z G0 ρ (M3.set kk (q, .lst (ys.map f)))) (hs : swapsWithSole [.Subscript oe ie p2] e pos.line X.env = pure false := by exact sws_of rfl) (hw : swappedStores [.Subscript oe ie p2] e X.env = pure none := by first | exact sst_of1 rfl rfl | exact sst_of rfl | rfl)
    (h1 : (assignEach [.Subscript oe ie p2] X.env).map (·.2) = [assign (.Subscript oe ie p2) X.env] := by exact asg_one rfl)
    (ha : ∀ v, assign (.Subscript oe ie p2) X.env v = (do
      let ov ← holding [v] (eval oe X.env)
      let iv ← holding [v, ov] (eval ie X.env)
      standAt p2
      holding [v, ov, iv] (setItem ov iv v)
      release [v, ov, iv] []) := by exact asg_sub rfl) : St X (.Assign [.Subscript oe ie p2] e pos :: rest) Z G0 ρ M := by
  obtain ⟨j, h2, rfl⟩ := pset_some hj
  rw [List.map_set] at k
  exact st_setL kk he ho hi hk (by rw [List.length_map]; exact h2) k hs hw h1 ha
theorem n_sortedO {ns : List Int} (ha : XA X [a] ρ M [d] M1) (hq : SeqD M1 d (ns.map D.int)) (ht : ∀ ds, d ≠ .tup ds := by intro _ h; cases h) (hm : X.mg "sorted" = none) (hg : Gl X "sorted" := by rfl) (he : starEach [a] X.env = (false, eval a X.env) :: starEach [] X.env := by exact star_of rfl) :
    XN X (.Call (.Name "sorted" p) [a] [] pos) ρ M (.lst ((sortI ns).map D.int)) M1 := n_sortedI ha hq (fun ns' h1 h2 => sorted_one (h1.trans (sortI_perm ns).symm) h2 (sortI_le ns)) ht hm hg he
theorem x_maxO {ns : List Int} {m : Int} (hc : X.calm = true) (ha : XA X [a] ρ M [.lst (ns.map D.int)] M1) (h : pmaxL ns = some m) (hm : X.mg "max" = none) (hg : Gl X "max" := by rfl) (he : starEach [a] X.env = (false, eval a X.env) :: starEach [] X.env := by exact star_of rfl) :
    XE X (.Call (.Name "max" p) [a] [] pos) ρ M (.int m) M1 := by
  have h' := List.max?_eq_some_iff.mp h
  exact x_maxL hc ha h'.1 h'.2 hm hg he
theorem c_eqO (hu : X.A.units + 64 < cLine) {k : Bool} (ha : XE X a ρ M d1 M1) (hb : XE X b ρ M1 d2 M2) (h : peq d1 d2 = some k) : XC X .Eq a b ρ M (.bl k) M2 := by
  obtain ⟨h1, h2, rfl⟩ := peq_some h
  exact c_eqD hu ha hb h1 h2
theorem c_neO (hu : X.A.units + 64 < cLine) {k : Bool} (ha : XE X a ρ M d1 M1) (hb : XE X b ρ M1 d2 M2) (h : peq d1 d2 = some k) : XC X .NotEq a b ρ M (.bl (!k)) M2 := by
  obtain ⟨h1, h2, rfl⟩ := peq_some h
  exact c_neD hu ha hb h1 h2
theorem Wd.dropN {K : PySem.W.Frag} {G H : Hp} {M : Mem} (w : Wd K G M H) (n : Nat) : Wd K G (M.drop n) H := w.sub (List.drop_sublist n M)
theorem At.dropN {K : PySem.W.Frag} {G0 H : Hp} {σ : L2.St} {ρ : Env} {M : Mem} (w : At K G0 ρ M σ H) (n : Nat) : At K G0 ρ (M.drop n) σ H := w.drop _ (List.drop_sublist n M)
end
end Wk

/-! Wk: further forms that the printer uses. -/
namespace Wk
open PySem PySem.Spec PyProof.Rows L2 Evl
theorem nf {c : Bool} (h : c = false) : ¬ c = true := by rw [h]; exact Bool.false_ne_true
section
variable {X : Cx} {e a b c : Expr} {es : List Expr} {ρ : Env} {M M1 M2 M3 : Mem} {d d1 d2 : D} {ds : List D} {pos p apos : Pos} {i j r : Int} {q : Addr} {x : Str} {α β : Type} {f : α → D} {xs ys zs : List α} {v : α} {s t u : Str}
theorem isNon_opt (h : ∀ x, (f x).isNon = false) {o : Option α} : (eO f o).isNon = o.isNone := by
  cases o with
  | none => rfl
  | some x => exact h x
theorem c_isNO {k : Bool} (ho : d.isNon = k) (ha : XE X a ρ M d M1) (hb : XE X b ρ M1 .non M2) : XC X .Is a b ρ M (.bl k) M2 := ho ▸ c_isN ha hb
theorem c_notNO {k : Bool} (ho : d.isNon = k) (ha : XE X a ρ M d M1) (hb : XE X b ρ M1 .non M2) : XC X .IsNot a b ρ M (.bl (!k)) M2 := ho ▸ c_notN ha hb
/-- a list, frozen or owned -/
inductive LsD (M : Mem) : D → List D → Prop where
  | lst (ds : List D) : LsD M (.lst ds) ds
  | own (k : Nat) (p : Addr) (ds : List D) (h : M[k]? = some (p, .lst ds)) : LsD M (.adr p) ds
theorem LsD.get {K : PySem.W.Frag} {G H : Hp} {x : V} (h : LsD M d ds) (w : Wd K G M H) (r : Rep K G d x) : ∃ a vs, x = .ref a ∧ H a = some (.lst vs) ∧ RepL K G ds vs := by
  cases h with
  | lst => obtain ⟨a, vs, rfl, h, rv⟩ := of_lst r; exact ⟨a, vs, rfl, w.ex _ _ h, rv⟩
  | own k p _ hk => obtain ⟨vs, hv, rv⟩ := (w.at hk).2; exact ⟨p, vs, of_adr r, hv, rv⟩
theorem n_catQ (ha : XE X a ρ M d1 M1) (hb : XE X b ρ M1 d2 M2) (qa : LsD M2 d1 (xs.map f)) (qb : LsD M2 d2 (ys.map f)) (h : pcat xs ys = some zs) : XN X (.BinOp a .Add b pos) ρ M (.lst (zs.map f)) M2 := by
  obtain ⟨h1, rfl⟩ := pcat_some h
  rw [List.map_append]
  exact XN.bin (pe_op op_cat pe_sem pe_sem) ha hb fun G H x y Q w r1 r2 q => by
    obtain ⟨p, vs, rfl, hp, rv⟩ := qa.get w r1
    obtain ⟨p2, vs2, rfl, hp2, rv2⟩ := qb.get w r2
    exact ⟨p, p2, vs, vs2, rfl, rfl, hp, hp2, by rw [rv.length, rv2.length, List.length_map, List.length_map]; exact h1, fun z hz => q z G _ (Ex.refl G) (wd_newL w hz (rv.append rv2))⟩
/-- what is read as plain data -/
inductive RdD (M : Mem) : D → D → Prop where
  | self (d : D) : RdD M d d
  | own (k : Nat) (p : Addr) (ds : List D) (h : M[k]? = some (p, .lst ds)) : RdD M (.adr p) (.lst ds)
theorem RdD.dp {K : PySem.W.Frag} {G H : Hp} {x : V} {d' : D} (h : RdD M d d') (w : Wd K G M H) (r : Rep K G d x) (hk : d'.ok = true) : Dp K H x d'.py := by
  cases h with
  | self => exact rep_dp w.ex d x hk r
  | own k p ds hm =>
    obtain ⟨vs, hv, rv⟩ := (w.at hm).2
    rw [of_adr r]
    unfold D.ok at hk
    unfold D.py
    exact .lst (SqL.of hv) (rep_dps w.ex ds vs hk rv)
theorem c_eqQ (hu : X.A.units + 64 < cLine) {k : Bool} {e1 e2 : D} (ha : XE X a ρ M d1 M1) (hb : XE X b ρ M1 d2 M2) (qa : RdD M2 d1 e1) (qb : RdD M2 d2 e2) (h : peq e1 e2 = some k) : XC X .Eq a b ρ M (.bl k) M2 := by
  obtain ⟨h1, h2, rfl⟩ := peq_some h
  exact XC.bin (op_eqD hu) ha hb fun G H x y Q w r1 r2 q => ⟨e1.py, e2.py, qa.dp w r1 h1.1, qb.dp w r2 h2.1, h1.2, h2.2, q.use (Ex.refl _) w rep_bl⟩
theorem c_neQ (hu : X.A.units + 64 < cLine) {k : Bool} {e1 e2 : D} (ha : XE X a ρ M d1 M1) (hb : XE X b ρ M1 d2 M2) (qa : RdD M2 d1 e1) (qb : RdD M2 d2 e2) (h : peq e1 e2 = some k) : XC X .NotEq a b ρ M (.bl (!k)) M2 := by
  obtain ⟨h1, h2, rfl⟩ := peq_some h
  exact XC.bin (op_neD hu) ha hb fun G H x y Q w r1 r2 q => ⟨e1.py, e2.py, qa.dp w r1 h1.1, qb.dp w r2 h2.1, h1.2, h2.2, q.use (Ex.refl _) w rep_bl⟩
/-- a comprehension that may leave items out -/
def filO (f : α → Option (Option β)) : List α → Option (List β)
  | [] => some []
  | x :: xs => (f x).bind fun y => (filO f xs).bind fun ys => some (y.toList ++ ys)
theorem filO_append {f : α → Option (Option β)} : ∀ {xs : List α} {x : α} {ys : List β} {y : Option β}, filO f xs = some ys → f x = some y → filO f (xs ++ [x]) = some (ys ++ y.toList)
  | [], x, ys, y, h, h2 => by
    cases h
    show (f x).bind _ = _
    rw [h2]
    cases y <;> rfl
  | w :: ws, x, ys, y, h, h2 => by
    have h' : ((f w).bind fun y => (filO f ws).bind fun ys => some (y.toList ++ ys)) = some ys := h
    obtain ⟨z, g1, g2⟩ := Option.bind_eq_some_iff.mp h'
    obtain ⟨zs, g3, g4⟩ := Option.bind_eq_some_iff.mp g2
    cases g4
    show (f w).bind _ = _
    rw [g1]
    show (filO f (ws ++ [x])).bind _ = _
    rw [filO_append g3 h2, List.append_assoc]; rfl
theorem filO_split {f : α → Option (Option β)} : ∀ {xs ys : List α} {zs : List β}, filO f (xs ++ ys) = some zs → ∃ us ws, filO f xs = some us ∧ filO f ys = some ws ∧ zs = us ++ ws
  | [], ys, zs, h => ⟨[], zs, rfl, h, rfl⟩
  | x :: xs, ys, zs, h => by
    have h' : ((f x).bind fun y => (filO f (xs ++ ys)).bind fun ys => some (y.toList ++ ys)) = some zs := h
    obtain ⟨z, g1, g2⟩ := Option.bind_eq_some_iff.mp h'
    obtain ⟨zs', g3, g4⟩ := Option.bind_eq_some_iff.mp g2
    cases g4
    obtain ⟨us, ws, h1, h2, rfl⟩ := filO_split g3
    exact ⟨z.toList ++ us, ws, by show (f x).bind _ = _; rw [g1]; show (filO f xs).bind _ = _; rw [h1]; rfl, h2, by rw [List.append_assoc]⟩
theorem filO_length {f : α → Option (Option β)} : ∀ {xs : List α} {ys : List β}, filO f xs = some ys → ys.length ≤ xs.length
  | [], ys, h => by cases h; exact Nat.le_refl _
  | x :: xs, ys, h => by
    have h' : ((f x).bind fun y => (filO f xs).bind fun ys => some (y.toList ++ ys)) = some ys := h
    obtain ⟨z, g1, g2⟩ := Option.bind_eq_some_iff.mp h'
    obtain ⟨zs', g3, g4⟩ := Option.bind_eq_some_iff.mp g2
    have := filO_length g3
    cases g4
    cases z with
    | none => show zs'.length ≤ _; rw [List.length_cons]; omega
    | some z => show (z :: zs').length ≤ _; rw [List.length_cons, List.length_cons]; omega
theorem l_P {tg iter elt : Expr} {ifs : List Expr} {scope : Scope} {en : α → D} {en2 : β → D} {f : α → Option (Option β)} {ys : List β} (own : List (Str × Nat)) (hi : XI X tg iter ρ M (xs.map en) M1) (hf : filO f xs = some ys) (hl : xs.length ≤ sizeLine)
    (turn : ∀ x y, x ∈ xs → f x = some y → ∃ ρ2 k, InB X scope (fun Y => XG Y tg (en x) (own.map (·.2)) (wipeD ρ (own.map (·.2))) ρ2) ∧ InB X scope (fun Y => ∀ q acc, XTs Y ifs ρ2 ((q, .lst acc) :: M1) k ((q, .lst acc) :: M1)) ∧
      (k = true → ∃ z, y = some z ∧ InB X scope (fun Y => ∀ q acc, XE Y elt ρ2 ((q, .lst acc) :: M1) (en2 z) ((q, .lst acc) :: M1))) ∧ (k = false → y = none)) : XL X elt tg iter ifs scope own ρ M (ys.map en2) M1 := by
  refine l_any own hi (fun i acc M' => M' = M1 ∧ ∃ us, filO f (xs.take i) = some us ∧ acc = us.map en2) ⟨rfl, [], rfl, rfl⟩ (fun i d acc M' hd hI => ?_) (fun acc M2 hI => ?_)
  · obtain ⟨x, hx, rfl⟩ := map_at hd
    obtain ⟨rfl, us, h1, rfl⟩ := hI
    obtain ⟨h2, h3⟩ := take_drop_at hx
    rw [h3] at hf
    obtain ⟨us', ws, h4, h5, _⟩ := filO_split hf
    obtain ⟨y, h6, _⟩ := Option.bind_eq_some_iff.mp h5
    obtain ⟨ρ2, k, hg, ht, he, hn⟩ := turn x y (List.mem_of_getElem? hx) h6
    refine ⟨ρ2, k, M', hg, fun s H C cl fp q => ht s H C cl fp q _, fun hk => ?_, fun hk => ⟨rfl, us, ?_, rfl⟩⟩
    · obtain ⟨z, rfl, hz⟩ := he hk
      refine ⟨en2 z, M', fun s H C cl fp q => hz s H C cl fp q _, ?_, rfl, us ++ [z], by rw [h2]; exact filO_append h1 h6, by rw [List.map_append]; rfl⟩
      rw [List.length_map]
      have h7 := filO_length h1
      rw [List.length_take] at h7
      have := (List.getElem?_eq_some_iff.mp hx).1
      omega
    · have := hn hk
      subst this
      rw [h2]
      have h7 := filO_append h1 h6
      rw [h7]
      show some (us ++ []) = some us
      rw [List.append_nil]
  · obtain ⟨rfl, us, h1, rfl⟩ := hI
    rw [List.length_map, List.take_length, hf] at h1
    cases h1
    exact ⟨rfl, rfl⟩
end
end Wk

/-! Wk: dicts with tuples of texts as keys, list of a text, index, isinstance. -/
namespace Wk
open PySem PySem.Spec PyProof.Rows L2 Evl

/-! ### d.values() -/
def valsO (p d : Addr) : HO := .ext fun h => h.IsValuesView p d
theorem valsO_ok {P : Program} {w : World} {H : Hp} {h : Heap} {p d : Addr} (e : h.get? p = some { cls := .type "dict_values", data := .fields #[.ref d] }) : ObjOk P w H h p (valsO p d) :=
  ⟨⟨_, e, rfl, rfl⟩, ⟨_, e⟩, fun h1 h2 x k => let ⟨o, ho, r⟩ := x; ⟨o, k o ho, r⟩⟩
theorem tuple_of_kdl {prog : Program} {w : World} {A : Around} {E : Value → Shared → Prop} {s : Shared} {T : String} {r d : Addr} {n : Nat} {P : Nat → Value → Prop} {OK : Heap → Prop} {Q : Value → Shared → Prop}
    (K : PySem.W.KdlSrc prog w T r d n P OK) (hh : A.handled = none) (hok : OK s.heap) (hn : n ≤ sizeLine)
    (hQ : ∀ (h' : Heap) (tk : Nat) (acc : Array Value), (∀ b o, s.heap.get? b = some o → h'.get? b = some o) → ItemsOf P acc n →
      Q (.ref h'.objs.size) { s with heap := h'.push { cls := .type "tuple", data := .seq acc }, toks := tk }) :
    wpAny (model prog w) A (call (.type "tuple") [.ref r]) Q E s := by
  refine callType_codes (Q₁ := fun obj s₁ => s₁.TypeIs obj "tuple" ∧ Q obj s₁) F.called_tuple (F.typeCall_tuple_1 _) F.entry_object_init ?_ fun obj s₁ h₁ => ?_
  · refine codeAny_of_tree ?_
    show wpAny _ A.in1.in1 (do checkBuiltinCall "tuple.__new__" ⟨[.type "tuple", .ref r], []⟩; again (.builtin "tuple.__new__" ⟨[.type "tuple", .ref r], []⟩)) _ _ s
    refine wpAny_bind (wpAny_of_eq (F.newCall_tuple_1 _) (wpAny_pure ⟨plainId_quiet F.plain_tuple_new _, codeAny_builtin F.entry_tuple_new ?_⟩))
    rw [Around.under_plainId F.plain_tuple_new _]
    have hsub := sub_tuple_self
    have hinit := init_tuple_lookup
    have hmh := madeHere_tuple
    have hTI : s.TypeIs (.ref r) T := K.type s hok
    have hh1 : A.in1.handled = none := hh
    have hb : (Value.type T == Value.type "tuple") = false := K.notTuple
    wp_walk using wpAny_typeOf hTI, PySem.W.kdu_collect (A := A.in1.in1) K hh1 hok hn
    intro h' tk acc hk hacc
    show wpAny _ _ (Builtin.Tuple.tupleExact acc.toList.toArray >>= fun v => ret v) _ _ _
    unfold Builtin.Tuple.tupleExact
    refine wpAny_bind (wpAny_newObj_type ?_ (by show acc.toList.toArray.size ≤ sizeLine; simp only [Array.toArray_toList]; rw [hacc.1]; exact hn))
    refine wpAny_pure ?_
    have e : acc.toList.toArray = acc := by simp
    rw [e]
    exact ⟨⟨_, Heap.get?_push_size _ rfl, rfl⟩, hQ h' tk acc hk hacc⟩
  · exact ⟨h₁.1, F.args_object_init_2 obj _, object_init_meets F.called_tuple.init.lookup F.called_tuple.made (by decide) prog w A.in1 _ s₁ ⟨h₁.1, rfl, h₁.2⟩⟩
section
variable {X : Cx}
theorem mt_valuesT : MtR X "dict.values" (fun x xs H Q => ∃ (a : Addr) (kvs : List (List L2.Key × V)), x = .ref a ∧ xs = [] ∧ H a = some (.dT kvs) ∧ ∀ p, H p = none → Q (.ref p) (upd H p (valsO p a))) := by
  intro pins s σ H x xs v us Q I rx rxs h
  obtain ⟨a, kvs, rfl, rfl, ha, q⟩ := h
  cases rx
  cases rxs
  obtain ⟨z, hd, xs', rel, o, es, ep, ho, hx, hdat, _⟩ := dt_of I.hok ha
  have hf : H s.heap.objs.size = none := I.hok.fresh (Nat.le_refl _)
  have hr : s.heap.DictRaw a es ep := ⟨o, ho, hx, hdat⟩
  refine call_meetsIn F.slot_dict_values hr.typeIs F.entry_dict_values (F.args_dict_values_1 _) (meets_dict_values_raw a hd) ⟨⟨es, ep, hr⟩, ?_⟩
  exact ⟨.ref s.heap.objs.size, upd H s.heap.objs.size (valsO s.heap.objs.size a), I.laid (t' := s.toks) (fun b u e => Heap.get?_push_of_some _ e) (Nat.le_refl _) (valsO_ok (Heap.get?_push_size _ rfl)), rfl, q _ hf⟩
theorem call_tuple_vals (hc : X.calm = true) : CallR X (.type "tuple") (fun xs H Q => ∃ p a kvs, xs = [V.ref p] ∧ H p = some (valsO p a) ∧ H a = some (.dT kvs) ∧ NewT H (kvs.map (·.2)) Q) := by
  intro pins s σ H xs us Q I r h
  obtain ⟨p, d, kvs, rfl, hp, hd, q⟩ := h
  obtain ⟨u, rfl, rx⟩ := r.one
  cases rx
  obtain ⟨hv, _, _⟩ := (show ObjOk X.prog X.w H s.heap p (valsO p d) from I.hok p _ hp)
  obtain ⟨z, hs, ks, pr, o, es, ep, ho, hx, hdt, he, hn⟩ := dt_of I.hok hd
  have l1 : es.size = ks.length := size_of_entries he
  have l2 : kvs.length = ks.length := Paired.length pr
  refine tuple_of_kdl (PySem.KdlSrc.rawValues (es := es) (ep := ep)) (I.ok.hd hc) ⟨hv, o, ho, hx, hdt⟩ (by omega) fun h' tk acc' kp it => ?_
  have ea : acc'.toList = ks.map fun x => x.2.2 := by
    have hl : acc'.toList.length = ks.length := by rw [Array.length_toList, it.1]; exact l1
    apply List.ext_getElem?
    intro j
    rw [List.getElem?_map]
    cases hj : acc'.toList[j]? with
    | none =>
      have h1 := List.getElem?_eq_none_iff.mp hj
      rw [List.getElem?_eq_none (by omega)]
      all_goals rfl
    | some v =>
      obtain ⟨hi, hv⟩ := it.2 j v (by rw [← Array.getElem?_toList]; exact hj)
      have hen : es[j]? = some es[j] := Array.getElem?_eq_getElem hi
      have qe := entry_at he j
      rw [hen] at qe
      cases hb : ks[j]? with
      | none =>
        rw [hb] at qe
        exact nomatch (show some es[j] = none from qe)
      | some b =>
        rw [hb] at qe
        have e2 : es[j] = entryOfKey (tupleKind (mixKind X.prog X.w)) b := Option.some.inj qe
        rw [hv, e2]
        all_goals rfl
  have rv : ∀ {kvs : List (List L2.Key × V)} {ks : List (List L2.Key × Addr × Value)}, KT H kvs ks → Vals (kvs.map (·.2)) (ks.map fun x => x.2.2) := by
    intro kvs ks pr
    induction pr with
    | nil => exact .nil
    | cons h t ih => exact .cons h.2.2 ih
  have I1 : Inv X pins σ H { s with heap := h', toks := tk } := I.kept (t' := tk) kp
  have := new_tup (h' := h') (tk := tk) (s := s) (xs := kvs.map (·.2)) (its := ks.map fun x => x.2.2) (Q := Q) I1 (rv pr) (by rw [List.length_map]; omega) q
  rw [← ea, Array.toArray_toList] at this
  exact this
end

/-! ### data: keys -/
def kD : L2.Key → D
  | .inl i => .int i
  | .inr s => .str s
theorem rep_keys {K : PySem.W.Frag} {G : Hp} : ∀ {ks : List L2.Key} {vs : List V}, RepL K G (ks.map kD) vs → vs = ks.map kV
  | [], _, h => by unfold RepL at h; exact h
  | .inl i :: ks, _, h => by
    rw [List.map_cons] at h
    unfold RepL at h
    obtain ⟨v, r, rfl, a, b⟩ := h
    rw [List.map_cons, ← rep_keys b, of_int (show Rep K G (.int i) v from a)]; rfl
  | .inr i :: ks, _, h => by
    rw [List.map_cons] at h
    unfold RepL at h
    obtain ⟨v, r, rfl, a, b⟩ := h
    rw [List.map_cons, ← rep_keys b, of_str (show Rep K G (.str i) v from a)]; rfl
/-- a key of parts -/
abbrev kP2 {α β : Type} (f : α → L2.Key) (g : β → L2.Key) (x : α × β) : List L2.Key := [f x.1, g x.2]
theorem kP2_ss {a b : Str × Str} (h : kP2 Sum.inr Sum.inr a = kP2 Sum.inr Sum.inr b) : a = b := by
  obtain ⟨x, y⟩ := a
  obtain ⟨z, w⟩ := b
  simp only [kP2, List.cons.injEq, Sum.inr.injEq, and_true] at h
  rw [h.1, h.2]
/-- an owned dict -/
abbrev mDT {κ α : Type} (kf : κ → List L2.Key) (vf : α → D) (al : List (κ × α)) : MO := .dT (al.map fun p => kf p.1) (al.map fun p => vf p.2)
section
variable {κ α : Type} [DecidableEq κ]
def dget (al : List (κ × α)) (k : κ) : Option α := (al.find? fun p => decide (p.1 = k)).map (·.2)
def dputT (al : List (κ × α)) (k : κ) (v : α) : List (κ × α) :=
  if (al.any fun p => decide (p.1 = k)) = true then al.map (fun p => if p.1 = k then (p.1, v) else p) else al ++ [(k, v)]
def dput (al : List (κ × α)) (k : κ) (v : α) : Option (List (κ × α)) := if al.length < sizeLine then some (dputT al k v) else none
def dhas (al : List (κ × α)) (k : κ) : Bool := al.any fun p => decide (p.1 = k)
theorem dput_some {al al' : List (κ × α)} {k : κ} {v : α} (h : dput al k v = some al') : al.length < sizeLine ∧ dputT al k v = al' := by
  unfold dput at h; split at h
  · cases h; exact ⟨‹_›, rfl⟩
  · cases h
/-- the two stand for each other -/
structure DRel (K : PySem.W.Frag) (G : Hp) (kf : κ → List L2.Key) (vf : α → D) (al : List (κ × α)) (kvs : List (List L2.Key × V)) : Prop where
  k : kvs.map (·.1) = al.map fun p => kf p.1
  v : RepL K G (al.map fun p => vf p.2) (kvs.map (·.2))
variable {K : PySem.W.Frag} {G : Hp} {kf : κ → List L2.Key} {vf : α → D}
theorem DRel.nil : DRel K G kf vf [] [] := ⟨rfl, RepL.nil⟩
theorem DRel.uncons {p : κ × α} {al : List (κ × α)} {kvs : List (List L2.Key × V)} (h : DRel K G kf vf (p :: al) kvs) : ∃ u r, kvs = (kf p.1, u) :: r ∧ Rep K G (vf p.2) u ∧ DRel K G kf vf al r := by
  obtain ⟨h1, h2⟩ := h
  cases kvs with
  | nil => cases h1
  | cons q r =>
    rw [List.map_cons, List.map_cons, List.cons.injEq] at h1
    rw [List.map_cons, List.map_cons] at h2
    unfold RepL at h2
    obtain ⟨v, r', e, a, b⟩ := h2
    rw [List.cons.injEq] at e
    obtain ⟨q1, q2⟩ := q
    refine ⟨q2, r, ?_, ?_, h1.2, ?_⟩
    · rw [← h1.1]
    · rw [show q2 = v from e.1]; exact a
    · rw [e.2]; exact b
theorem DRel.cons {p : κ × α} {al : List (κ × α)} {u : V} {r : List (List L2.Key × V)} (a : Rep K G (vf p.2) u) (h : DRel K G kf vf al r) : DRel K G kf vf (p :: al) ((kf p.1, u) :: r) :=
  ⟨by rw [List.map_cons, List.map_cons, h.k], by rw [List.map_cons, List.map_cons]; exact RepL.cons a h.v⟩
theorem DRel.length {al : List (κ × α)} {kvs : List (List L2.Key × V)} (h : DRel K G kf vf al kvs) : kvs.length = al.length := by
  have := congrArg List.length h.k
  rw [List.length_map, List.length_map] at this
  exact this
theorem DRel.get (inj : ∀ a b, kf a = kf b → a = b) {k : κ} : ∀ {al : List (κ × α)} {kvs : List (List L2.Key × V)}, DRel K G kf vf al kvs →
    (dget al k = none ∧ valV kvs (kf k) = none) ∨ ∃ x u, dget al k = some x ∧ valV kvs (kf k) = some u ∧ Rep K G (vf x) u
  | [], kvs, h => by
    have := h.length
    have : kvs = [] := List.length_eq_zero_iff.mp this
    subst this
    exact .inl ⟨rfl, rfl⟩
  | p :: al, kvs, h => by
    obtain ⟨u, r, rfl, a, t⟩ := h.uncons
    by_cases e : p.1 = k
    · refine .inr ⟨p.2, u, ?_, valV_pos (by show kf p.1 = kf k; rw [e]), a⟩
      unfold dget
      rw [List.find?_cons, decide_eq_true e]; rfl
    · have e2 : ¬ kf p.1 = kf k := fun h => e (inj _ _ h)
      rw [valV_neg e2]
      have : dget (p :: al) k = dget al k := by
        unfold dget
        rw [List.find?_cons, decide_eq_false e]
      rw [this]
      exact DRel.get inj t
theorem dget_has {al : List (κ × α)} {k : κ} : (dget al k).isSome = dhas al k := by
  unfold dget dhas
  rw [Option.isSome_map]
  induction al with
  | nil => rfl
  | cons p al ih =>
    rw [List.find?_cons, List.any_cons]
    by_cases e : p.1 = k
    · rw [decide_eq_true e]; rfl
    · rw [decide_eq_false e, Bool.false_or]; exact ih
theorem DRel.repl (inj : ∀ a b, kf a = kf b → a = b) {k : κ} {x : α} {y : V} (ry : Rep K G (vf x) y) : ∀ {al : List (κ × α)} {kvs : List (List L2.Key × V)}, DRel K G kf vf al kvs →
    DRel K G kf vf (al.map fun p => if p.1 = k then (p.1, x) else p) (kvs.map fun kv => if kv.1 = kf k then (kv.1, y) else kv)
  | [], kvs, h => by
    have : kvs = [] := List.length_eq_zero_iff.mp h.length
    subst this
    exact DRel.nil
  | p :: al, kvs, h => by
    obtain ⟨u, r, rfl, a, t⟩ := h.uncons
    rw [List.map_cons, List.map_cons]
    by_cases e : p.1 = k
    · rw [if_pos e, if_pos (by show kf p.1 = kf k; rw [e])]
      exact DRel.cons (p := (p.1, x)) ry (DRel.repl inj ry t)
    · rw [if_neg e, if_neg (fun h => e (inj _ _ h))]
      exact DRel.cons a (DRel.repl inj ry t)
theorem DRel.append {al al2 : List (κ × α)} {kvs kvs2 : List (List L2.Key × V)} (h : DRel K G kf vf al kvs) (h2 : DRel K G kf vf al2 kvs2) : DRel K G kf vf (al ++ al2) (kvs ++ kvs2) :=
  ⟨by rw [List.map_append, List.map_append, h.k, h2.k], by rw [List.map_append, List.map_append]; exact h.v.append h2.v⟩
theorem DRel.put (inj : ∀ a b, kf a = kf b → a = b) {k : κ} {x : α} {y : V} (ry : Rep K G (vf x) y) {al : List (κ × α)} {kvs : List (List L2.Key × V)} (h : DRel K G kf vf al kvs) :
    DRel K G kf vf (dputT al k x) (putK kvs (kf k) y) := by
  have e : (kvs.any fun kv => decide (kv.1 = kf k)) = (al.any fun p => decide (p.1 = k)) := by
    rw [valV_any, show (al.any fun p => decide (p.1 = k)) = dhas al k from rfl, ← dget_has]
    rcases h.get inj (k := k) with ⟨h1, h2⟩ | ⟨a, u, h1, h2, _⟩
    · rw [h1, h2]; rfl
    · rw [h1, h2]; rfl
  unfold putK dputT
  rw [e]
  by_cases q : (al.any fun p => decide (p.1 = k)) = true
  · rw [if_pos q, if_pos q]; exact h.repl inj ry
  · rw [if_neg q, if_neg q]; exact h.append (DRel.cons ry DRel.nil)
end
section
variable {X : Cx} {e a b oe ie : Expr} {es : List Expr} {rest : List Stmt} {ρ : Env} {M M1 M2 M3 : Mem} {d : D} {ds : List D} {pos pos' p apos : Pos} {i j r : Int} {q : Addr} {κ α : Type} [DecidableEq κ] {kf : κ → List L2.Key} {vf : α → D} {al al' : List (κ × α)} {key : κ} {v : α} {s t u : Str} {Z : Ends} {G0 : Hp}
theorem n_dctT : XN X (.Dict [] [] pos) ρ M (mDT kf vf ([] : List (κ × α))) M := .mk fun G σ H Q sl w q =>
  Sem.of pe_dnewT fun p hp => q p G _ (Ex.refl G) (w.newO hp ⟨[], upd_same, rfl, RepL.nil⟩)
theorem mr_drel {K : PySem.W.Frag} {G H : Hp} (h : MRep K G H q (mDT kf vf al)) : ∃ kvs, H q = some (.dT kvs) ∧ DRel K G kf vf al kvs := by
  obtain ⟨kvs, h1, h2, h3⟩ := h
  exact ⟨kvs, h1, h2, h3⟩
/-- d[key] = e -/
theorem st_dput (hu : X.A.units + 1 < cLine) (inj : ∀ a b, kf a = kf b → a = b) (k : Nat) (he : XE X e ρ M (vf v) M1) (ho : XE X oe ρ M1 (.adr q) M2) (hi : XE X ie ρ M2 (.ktup ((kf key).map kD)) M3) (hk : M3[k]? = some (q, mDT kf vf al)) (hp : dput al key v = some al')
    (kk : St X rest Z G0 ρ (M3.set k (q, mDT kf vf al'))) (hs : swapsWith e (some (.Subscript oe ie pos')) pos.line X.env = pure false := by first | exact sw_of rfl | rfl) : St X (.Assign [.Subscript oe ie pos'] e pos :: rest) Z G0 ρ M := St.mk' fun G σ H e0 sl w =>
  cons_of (ps_dput hu pe_sem pe_sem pe_sem hs) (he.run G σ H _ sl w fun x G1 H1 e1 w1 r1 => ho.run G1 σ H1 _ (sl.mono e1) w1 fun y G2 H2 e2 w2 r2 => hi.run G2 σ H2 _ (sl.mono (e1.trans e2)) w2 fun z G3 H3 e3 w3 r3 => by
    obtain ⟨kvs, hv, rel⟩ := mr_drel (w3.at hk).2
    obtain ⟨bt, vs, rfl, hb, rv⟩ := of_ktup r3
    have := rep_keys rv; subst this
    obtain ⟨hl, rfl⟩ := dput_some hp
    refine ⟨q, _, of_adr r2, DPut.t hv (w3.ex _ _ hb) (by rw [rel.length]; exact hl), ?_⟩
    have rel2 := rel.put inj (k := key) (r1.mono (e2.trans e3))
    exact kk.run (((e0.trans e1).trans e2).trans e3) (sl.mono ((e1.trans e2).trans e3)) (w3.set hk ⟨_, upd_same, rel2.k, rel2.v⟩))
/-- d[key] -/
theorem x_dget (hu : X.A.units + 1 < cLine) (inj : ∀ a b, kf a = kf b → a = b) (k : Nat) (ho : XE X a ρ M (.adr q) M1) (hi : XE X b ρ M1 (.ktup ((kf key).map kD)) M2) (hk : M2[k]? = some (q, mDT kf vf al)) (hp : dget al key = some v) (hs : NoSl b := by exact plainIx_of rfl) :
    XE X (.Subscript a b pos) ρ M (vf v) M2 := .mk fun G σ H Q sl w q0 =>
  Sem.of (pe_dget hu pe_sem pe_sem hs) (ho.run G σ H _ sl w fun x G1 H1 e1 w1 r1 => hi.run G1 σ H1 _ (sl.mono e1) w1 fun y G2 H2 e2 w2 r2 => by
    obtain ⟨kvs, hv, rel⟩ := mr_drel (w2.at hk).2
    obtain ⟨bt, vs, rfl, hb, rv⟩ := of_ktup r2
    have := rep_keys rv; subst this
    rcases rel.get inj (k := key) with ⟨h1, _⟩ | ⟨x', u, h1, h2, h3⟩
    · rw [h1] at hp; cases hp
    · rw [h1] at hp; cases hp
      refine ⟨q, u, of_adr r1, ?_, q0.use (e1.trans e2) w2 h3⟩
      have := DGet.t (k := kf key) hv (w2.ex _ _ hb)
      rw [h2] at this
      exact this)
theorem c_inDT (hu : X.A.units + 1 < cLine) (inj : ∀ a b, kf a = kf b → a = b) (k : Nat) (hi : XE X a ρ M (.ktup ((kf key).map kD)) M1) (ho : XE X b ρ M1 (.adr q) M2) (hk : M2[k]? = some (q, mDT kf vf al)) : XC X .In a b ρ M (.bl (dhas al key)) M2 := .mk fun G σ H Q sl w q0 =>
  SemC.of (pc_din hu pe_sem pe_sem) (hi.run G σ H _ sl w fun x G1 H1 e1 w1 r1 => ho.run G1 σ H1 _ (sl.mono e1) w1 fun y G2 H2 e2 w2 r2 => by
    obtain ⟨kvs, hv, rel⟩ := mr_drel (w2.at hk).2
    obtain ⟨bt, vs, rfl, hb, rv⟩ := of_ktup (r1.mono e2)
    have := rep_keys rv; subst this
    have dg := DGet.t (k := kf key) hv (w2.ex _ _ hb)
    refine ⟨q, _, of_adr r2, dg, ?_⟩
    have e : (valV kvs (kf key)).isSome = dhas al key := by
      rw [← dget_has]
      rcases rel.get inj (k := key) with ⟨h1, h2⟩ | ⟨x', u, h1, h2, h3⟩
      · rw [h1, h2]; rfl
      · rw [h1, h2]; rfl
    rw [e]
    exact q0.use (e1.trans e2) w2 rep_bl)
theorem x_lenDT (k : Nat) (ha : XA X [a] ρ M [.adr q] M1) (hk : M1[k]? = some (q, mDT kf vf al)) (hm : X.mg "len" = none) (hg : Gl X "len" := by rfl) (he : starEach [a] X.env = (false, eval a X.env) :: starEach [] X.env := by exact star_of rfl) :
    XE X (.Call (.Name "len" p) [a] [] pos) ρ M (.int (al.length : Nat)) M1 := XE.callB call_len_dT boot_len' ha (fun G H vs Q w rs q0 => by
  obtain ⟨v, rfl, r⟩ := rs.one
  obtain ⟨kvs, hv, rel⟩ := mr_drel (w.at hk).2
  rw [of_adr r]
  exact ⟨q, kvs, rfl, hv, q0.use (Ex.refl G) w (by rw [rel.length]; exact rep_int)⟩) hm hg (by decide) (by decide) he (by rfl)
theorem ty_dT {k : Nat} (hk : M1[k]? = some (q, mDT kf vf al)) : ∀ G H v, Wd X.K G M1 H → Rep X.K G (.adr q) v → tyV X.K "dict" v H := fun G H v w r => by
  obtain ⟨kvs, hv, _⟩ := mr_drel (w.at hk).2
  rw [of_adr r]
  exact .inr (.inr (.inl ⟨rfl, .inr ⟨kvs, hv⟩⟩))
/-- tuple(d.values()) -/
theorem x_tupVals {p2 : Pos} (hc : X.calm = true) (k : Nat) (ho : XE X a ρ M (.adr q) M1) (hk : M1[k]? = some (q, mDT kf vf al)) (hm : X.mg "tuple" = none) (hg : Gl X "tuple" := by rfl)
    (hbase : attributeBase a "values" X.env (eval a X.env) = eval a X.env := by exact base_of rfl) (hline : (apos.endLine == p2.line) = true := by rfl)
    (he : starEach [.Call (.Attribute a "values" apos) [] [] p2] X.env = (false, eval (.Call (.Attribute a "values" apos) [] [] p2) X.env) :: starEach [] X.env := by exact star_of rfl) :
    XE X (.Call (.Name "tuple" p) [.Call (.Attribute a "values" apos) [] [] p2] [] pos) ρ M (.tup (al.map fun p => vf p.2)) M1 := .mk fun G σ H Q sl w q0 =>
  Sem.of (pe_callTy (call_tuple_vals hc) hg hm boot_tuple (pa_cons (pe_bm0 PySem.F.plainAttrs_dict PySem.F.slot_dict_values PySem.F.type_dict_values mt_valuesT pe_sem hbase hline) pa_nil he) (by decide) (by decide) he (by rfl))
    (ho.run G σ H _ sl w fun v G1 H1 e1 w1 r1 => by
      refine ⟨ty_dT hk G1 H1 v w1 r1, ?_⟩
      obtain ⟨kvs, hv, rel⟩ := mr_drel (w1.at hk).2
      refine ⟨q, kvs, of_adr r1, rfl, hv, fun pv hpv => ?_⟩
      have ne : q ≠ pv := fun e => by subst e; rw [hpv] at hv; cases hv
      have w2 := w1.newF hpv (valsO pv q)
      have e2 := w1.exF hpv (valsO pv q)
      refine ⟨pv, q, kvs, rfl, upd_same, by rw [upd_ne ne]; exact hv, fun l o h1 h2 hl => ?_⟩
      exact q0.use ((e1.trans e2).trans (w2.exF hl _)) (w2.newF hl _) (rep_tup (pt_new h1 h2) ((rel.v.mono e2 _).mono (w2.exF hl _) _)))
/-! ### list of a text -/
def pchars (s : Str) : Option (List Str) := if s.cps.size ≤ sizeLine then some (s.cps.toList.map fun c => ⟨#[c]⟩) else none
theorem pchars_some {s : Str} {xs : List Str} (h : pchars s = some xs) : s.cps.size ≤ sizeLine ∧ (s.cps.toList.map fun c => (⟨#[c]⟩ : Str)) = xs := by
  unfold pchars at h; split at h
  · cases h; exact ⟨‹_›, rfl⟩
  · cases h
theorem vals_of : ∀ {xs : List V} {us : List Value}, us.length = xs.length → (∀ (j : Nat) (v : V) (u : Value), xs[j]? = some v → us[j]? = some u → RelV v u) → Vals xs us
  | [], us, hl, _ => by
    have : us = [] := List.length_eq_zero_iff.mp hl
    subst this
    exact .nil
  | x :: xs, [], hl, _ => by cases hl
  | x :: xs, u :: us, hl, h => .cons (h 0 x u rfl rfl) (vals_of (by simpa using hl) fun j v w h1 h2 => h (j + 1) v w (by simpa using h1) (by simpa using h2))
theorem call_list_txt (hc : X.calm = true) : CallR X (.type "list") (fun xs H Q => ∃ s : Str, xs = [.str s] ∧ s.cps.size ≤ sizeLine ∧ ∀ l, H l = none → Q (.ref l) (upd H l (.lst ((s.cps.toList.map fun c => (⟨#[c]⟩ : Str)).map V.str)))) := by
  intro pins s σ H xs us Q I r h
  obtain ⟨x, rfl, hz, q⟩ := h
  obtain ⟨u, rfl, t, rfl⟩ := vals1 r
  refine PySem.call_list_str (I.ok.hd hc) x t (fun h' tk acc c' hk hS hacc => ?_) hz
  have hl : acc.toList.length = x.cps.toList.length := by rw [Array.length_toList, hacc.1, Array.length_toList]
  refine ⟨.ref s.heap.objs.size, _, I.laid (t' := tk) (o := .lst ((x.cps.toList.map fun c => (⟨#[c]⟩ : Str)).map V.str)) hk (Nat.le_refl _) ⟨?_, acc.toList, c', ?_, ?_⟩, rfl, q _ (I.hok.fresh (Nat.le_refl _))⟩
  · rw [List.length_map, List.length_map, Array.length_toList]; exact hz
  · refine vals_of (by rw [hl, List.length_map, List.length_map]) fun j v u hv hu => ?_
    rw [List.getElem?_map, List.getElem?_map] at hv
    obtain ⟨c, uu, h1, h2⟩ := hacc.2 j u (by rw [← Array.getElem?_toList]; exact hu)
    rw [← Array.getElem?_toList] at h1
    rw [h1] at hv
    cases hv
    exact ⟨uu, h2⟩
  · rw [Array.toArray_toList]; exact hS
theorem n_listStr {xs : List Str} (hc : X.calm = true) (ha : XA X [a] ρ M [.str s] M1) (h : pchars s = some xs) (hm : X.mg "list" = none) (hg : Gl X "list" := by rfl) (he : starEach [a] X.env = (false, eval a X.env) :: starEach [] X.env := by exact star_of rfl) :
    XN X (.Call (.Name "list" p) [a] [] pos) ρ M (.lst (xs.map D.str)) M1 := XN.callTy (call_list_txt hc) boot_list ha (fun G H vs Q w rs q => by
  obtain ⟨v, rfl, r⟩ := rs.one
  obtain ⟨hz, rfl⟩ := pchars_some h
  rw [of_str r]
  exact ⟨s, rfl, hz, fun l hl => q l G _ (Ex.refl G) (wd_newL w hl RepL.of_strs)⟩) hm hg (by decide) (by decide) he (by rfl)
/-! ### t.index(x) -/
def pindex (xs : List Str) (x : Str) : Option Int := if x ∈ xs then some ((xs.findIdx (· == x) : Nat) : Int) else none
theorem pindex_some {xs : List Str} {x : Str} {i : Int} (h : pindex xs x = some i) : ∃ j : Nat, i = (j : Nat) ∧ xs[j]? = some x ∧ ∀ m, m < j → xs[m]? ≠ some x := by
  unfold pindex at h; split at h
  · rename_i hm
    cases h
    have hl : xs.findIdx (· == x) < xs.length := List.findIdx_lt_length_of_exists ⟨x, hm, by simp⟩
    refine ⟨_, rfl, ?_, fun m hm h => ?_⟩
    · have := List.findIdx_getElem (w := hl)
      rw [List.getElem?_eq_getElem hl]
      simpa using this
    · have := List.not_of_lt_findIdx hm
      have hml : m < xs.length := by omega
      rw [List.getElem?_eq_getElem hml] at h
      simp at this h
      exact this h
  · cases h
theorem x_indexTS {xs : List Str} {x : Str} (ho : XE X a ρ M (.tup (xs.map D.str)) M1) (ha : XA X [e] ρ M1 [.str x] M2) (h : pindex xs x = some i)
    (hbase : attributeBase a "index" X.env (eval a X.env) = eval a X.env := by exact base_of rfl)
    (hfew : ((backTo pos (starEach [e] X.env)).all (fun x => !x.1) && (backToKw pos (keywordEach [] X.env)).all (fun x => x.1.isSome)
      && decide ([e].length + ([] : List Keyword).length + (if ([] : List Keyword).isEmpty then 0 else 1) < 30)) = true := by exact fewargs rfl (by decide))
    (hline : (apos.endLine == pos.line) = true := by rfl) (hs : starEach [e] X.env = (false, eval e X.env) :: starEach [] X.env := by exact star_of rfl) (hplain : (backTo pos (starEach [] X.env)).any (·.1) = false := by exact nostars rfl) :
    XE X (.Call (.Attribute a "index" apos) [e] [] pos) ρ M (.int i) M2 := .mk fun G σ H Q sl w q0 =>
  Sem.of (pe_tupIdx pe_sem pa_sem hbase hfew hline hs hplain) (ho.run G σ H _ sl w fun v G1 H1 e1 w1 r1 => by
    obtain ⟨p, vs, rfl, hp, rv⟩ := of_tup r1
    have := rv.strs; subst this
    refine ⟨⟨p, _, rfl, hp.mono w1.ex⟩, ha.run G1 σ H1 _ (sl.mono e1) w1 fun zs G2 H2 e2 w2 r2 => ?_⟩
    obtain ⟨z, rfl, rz⟩ := r2.one
    obtain ⟨j, rfl, h1, h2⟩ := pindex_some h
    exact ⟨p, xs, x, j, rfl, by rw [of_str rz], ((hp.mono e2).mono w2.ex).sq, h1, h2, q0.use (e1.trans e2) w2 rep_int⟩)
/-! ### isinstance -/
def D.tyn : D → String
  | .non => "NoneType" | .bl _ => "bool" | .int _ => "int" | .str _ => "str"
  | .tup _ => "tuple" | .lst _ => "list" | _ => "?"
def tyIs (t T : String) : Bool := t == T || (t == "bool" && T == "int")
theorem kit_ty {K : PySem.W.Frag} {t T : String} (ht : t = "NoneType" ∨ t = "bool" ∨ t = "int" ∨ t = "str" ∨ t = "tuple" ∨ t = "list") (hT : T = "bool" ∨ T = "int" ∨ T = "str" ∨ T = "tuple" ∨ T = "list") :
    PySem.W.kitOne K (.type t) (.type T) = some (tyIs t T) := by
  rcases ht with rfl | rfl | rfl | rfl | rfl | rfl <;> rcases hT with rfl | rfl | rfl | rfl | rfl <;> rfl
theorem x_ty {T : String} {x : Str} (hv : bootBuiltins x = some (.type T)) (hm : X.mg x = none) (hg : Gl X x := by rfl) (hn : x ≠ "__name__" := by decide) (hd : (x == ("__debug__" : Str)) = false := by decide) : XE X (.Name x pos) ρ M (.ty T) M :=
  x_c (v := .ty T) (pe_bltn hg hm hv rfl hn hd) fun _ => by unfold Rep; rfl
theorem rep_tyx {K : PySem.W.Frag} {G H : Hp} {v : V} (e : Ex G H) (h : Rep K G d v) (hd : d.tyn = "NoneType" ∨ d.tyn = "bool" ∨ d.tyn = "int" ∨ d.tyn = "str" ∨ d.tyn = "tuple" ∨ d.tyn = "list") : TyX K H v (.type d.tyn) := by
  cases d with
  | non => rw [of_non h]; exact .base .non
  | bl b => rw [of_bl h]; exact .base (.bl b)
  | int b => rw [of_int h]; exact .base (.int b)
  | str b => rw [of_str h]; exact .base (.str b)
  | tup b => obtain ⟨a, vs, rfl, ⟨o, hp, _⟩, _⟩ := of_tup h; exact .fTuple (e _ _ hp)
  | lst b => obtain ⟨a, vs, rfl, hp, _⟩ := of_lst h; exact .base (.lst (e _ _ hp))
  | ktup b => simp [D.tyn] at hd
  | rlst b => simp [D.tyn] at hd
  | dK b c => simp [D.tyn] at hd
  | dT b c => simp [D.tyn] at hd
  | adr b => simp [D.tyn] at hd
  | ty b => simp [D.tyn] at hd
theorem x_isinst {T : String} (ha : XA X [a, b] ρ M [d, .ty T] M1) (hd : d.tyn = "NoneType" ∨ d.tyn = "bool" ∨ d.tyn = "int" ∨ d.tyn = "str" ∨ d.tyn = "tuple" ∨ d.tyn = "list") (hT : T = "bool" ∨ T = "int" ∨ T = "str" ∨ T = "tuple" ∨ T = "list")
    (hm : X.mg "isinstance" = none) (hg : Gl X "isinstance" := by rfl) (he : starEach [a, b] X.env = (false, eval a X.env) :: starEach [b] X.env := by exact star_of rfl) (hpl : (backTo pos (starEach [b] X.env)).any (·.1) = false := by exact nostars rfl) :
    XE X (.Call (.Name "isinstance" p) [a, b] [] pos) ρ M (.bl (tyIs d.tyn T)) M1 := XE.callB call_isi boot_isinstance ha (fun G H vs Q w rs q => by
  obtain ⟨v, c, rfl, r, rc⟩ := rs.two
  rw [of_ty rc]
  exact ⟨v, .ty T, .type d.tyn, .type T, tyIs d.tyn T, rfl, .ty T, rep_tyx w.ex r hd, kit_ty hd hT, q.use (Ex.refl G) w rep_bl⟩) hm hg (by decide) (by decide) he hpl
end
end Wk

/-! Wk: a def that makes a deck; small things. -/
namespace Wk
open PySem PySem.Spec PyProof.Rows L2 Evl

theorem map_snd {κ α β : Type} (f : α → β) (al : List (κ × α)) : (al.map (·.2)).map f = al.map fun p => f p.2 := by rw [List.map_map]; rfl
theorem hu1 {n c : Nat} (h : n + 64 < c) : n + 1 < c := by omega
def spDk (K : PySem.W.Frag) (R : List D → Deck → Prop) : Sp := fun vs H Q _ => ∃ G F ds dk, RepL K G ds vs ∧ Wd K G F H ∧ R ds dk ∧ ∀ a c G' H', Ex G G' → Wd K G' (Deck.mem a c dk ++ F) H' → Q (.ref a) H'
section
variable {P : Program} {w : World} {K : PySem.W.Frag} {mg : Str → Option Value} {base : Heap}
theorem fn_okDk {x qual : Str} {st : Stmt} {f : Addr} {fd : FuncData} {N ps : List Str} {k : Nat} {R : List D → Deck → Prop} (F : Fun K x qual st f fd) (S : FnScope N ps (defScope st)) (hl : ∀ ds dk, R ds dk → ds.length = ps.length)
    (body : ∀ (cdv : Value) (A : Around) (outer : List PySem.Env) (s : Shared) (H0 : Hp) (E : XK), Room k (A.deeper (envOfC qual (defScope st) s.heap.objs.size f cdv)) → ∀ (G0 : Hp) (F : Mem) ds dk (Q : VK), R ds dk →
      (∀ a c G' H', Ex G0 G' → Wd K G' (Deck.mem a c dk ++ F) H' → Q (.ref a) H') → St (cxF P w K mg base N qual (defScope st) f cdv A outer s H0 E) (defBody st) { nx := fun _ H' => Q .non H', rt := Q } G0 (startD N ds) F) :
    FnOk P w K mg base CX0 (k + 1) f fd ps (spDk K R) := by
  refine F.ok S (fun vs H Q E h => ?_) (fun cdv A outer s H vs Q E hr h => ?_)
  · obtain ⟨G, F, ds, dk, r, _, hR, _⟩ := h
    rw [r.length, hl ds dk hR]
  · obtain ⟨G, F, ds, dk, r, wd, hR, q⟩ := h
    exact ⟨_, pss_sem, (body cdv A outer s H E hr G F ds dk Q hR q).run (Ex.refl G) (sl_start r) wd⟩
end
structure XDk (X : Cx) (e : Expr) (ρ : Env) (M : Mem) (dk : Deck) (M' : Mem) : Prop where
  run : ∀ (G : Hp) (σ : L2.St) (H : Hp) (Q : VK), Sl X.K G ρ σ → Wd X.K G M H → (∀ a c G' H', Ex G G' → Wd X.K G' (Deck.mem a c dk ++ M') H' → Q (.ref a) H') → Sem X e σ H Q
structure DefDk (P : Program) (w : World) (K : PySem.W.Frag) (mg : Str → Option Value) (base : Heap) (k : Nat) (x : Str) (ps : List Str) (R : List D → Deck → Prop) : Prop where
  ex : ∃ f fd, FnOk P w K mg base CX0 k f fd ps (spDk K R) ∧ mg x = some (.ref f) ∧ PySem.W.keepIn K (.ref f) = true ∧ Binds K fd ps []
section
variable {X : Cx} {ρ : Env} {M M1 M2 : Mem} {d : D} {ds : List D} {k k' : Nat} {ps : List Str} {x : Str} {p pos pos' : Pos} {e : Expr} {es : List Expr} {R : List D → Deck → Prop} {dk : Deck} {rest : List Stmt} {Z : Ends} {G0 : Hp} {o : MO} {i : Int}
theorem x_callDk (F : DefDk X.prog X.w X.K X.mg X.base k x ps R) (hr : Room k' X.A) (hk : k ≤ k') (ha : XA X (e :: es) ρ M ds M1) (hR : R ds dk)
    (hg : Gl X x := by rfl) (hdb : (x == ("__debug__" : Str)) = false := by decide) (he : starEach (e :: es) X.env = (false, eval e X.env) :: starEach es X.env := by exact star_of rfl) (hpl : (backTo pos (starEach es X.env)).any (·.1) = false := by exact nostars rfl) :
    XDk X (.Call (.Name x p) (e :: es) [] pos) ρ M dk M1 := .mk fun G σ H Q sl w q => by
  obtain ⟨f, fd, h1, h2, h3, h4⟩ := F.ex
  refine Sem.of (pe_call (E := E0) h1 (hr.mono hk) hg h2 h3 h4 .nil pass0 pa_sem hdb he hpl) (ha.run G σ H _ sl w fun vs G1 H1 e1 w1 r1 => ?_)
  show spDk X.K R (vs ++ []) H1 Q E0
  rw [List.append_nil]
  exact ⟨G1, M1, ds, dk, r1, w1, hR, fun a c G' H' e' w' => q a c G' H' (e1.trans e') w'⟩
theorem st_newDk {x : Str} (i : Nat) (he : XDk X e ρ M dk M1) (k : ∀ a c, St X rest Z G0 (ρ.set i (some (.adr a))) (Deck.mem a c dk ++ M1)) (hN : X.N.Nodup) (hi : X.N[i]? = some x := by rfl) (hx : Loc X.env.scope x := by first | exact Or.inl rfl | exact Or.inr rfl)
    (hs : swapsWith e (some (.Name x pos')) pos.line X.env = pure false := by first | exact sw_of rfl | rfl) (hf : X.fn x = true ∨ X.env.scope.names.lookup x = some .local := by first | exact .inl rfl | exact .inr rfl) :
    St X (.Assign [.Name x pos'] e pos :: rest) Z G0 ρ M := St.mk' fun G σ H e0 sl w =>
  cons_of (ps_set hN hi hx pe_sem hs hf) (he.run G σ H _ sl w fun a c G' H' e' w' => (k a c).run (e0.trans e') ((sl.mono e').set i rep_adr) w')
theorem st_retX (he : XN X e ρ M o M1) (h : ∀ q G H, Ex G0 G → Wd X.K G ((q, o) :: M1) H → Z.rt (.ref q) H) : St X (.Return (some e) pos :: rest) Z G0 ρ M := St.mk' fun G σ H e0 sl w =>
  cons_of (ps_ret pe_sem) (he.run G σ H _ sl w fun q G' H' e' w' => h q G' H' (e0.trans e') w')
theorem x_isinst2 {a b : Expr} {T : String} {k : Bool} (ha : XA X [a, b] ρ M [d, .ty T] M1) (hd : d.tyn = "NoneType" ∨ d.tyn = "bool" ∨ d.tyn = "int" ∨ d.tyn = "str" ∨ d.tyn = "tuple" ∨ d.tyn = "list") (hT : T = "bool" ∨ T = "int" ∨ T = "str" ∨ T = "tuple" ∨ T = "list") (hb : tyIs d.tyn T = k)
    (hm : X.mg "isinstance" = none) (hg : Gl X "isinstance" := by rfl) (he : starEach [a, b] X.env = (false, eval a X.env) :: starEach [b] X.env := by exact star_of rfl) (hpl : (backTo pos (starEach [b] X.env)).any (·.1) = false := by exact nostars rfl) :
    XE X (.Call (.Name "isinstance" p) [a, b] [] pos) ρ M (.bl k) M1 := by
  subst hb
  exact x_isinst ha hd hT hm hg he hpl
/-- a module's constants -/
theorem x_gSe {x s : Str} (hm : ∃ t, X.mg x = some (.str s t)) (hg : Gl X x := by rfl) (hd : (x == ("__debug__" : Str)) = false := by decide) : XE X (.Name x pos) ρ M (.str s) M := by
  obtain ⟨t, h⟩ := hm
  exact x_gS h hg hd
theorem x_gIe {x : Str} (hm : ∃ t, X.mg x = some (.int i t)) (hg : Gl X x := by rfl) (hd : (x == ("__debug__" : Str)) = false := by decide) : XE X (.Name x pos) ρ M (.int i) M := by
  obtain ⟨t, h⟩ := hm
  exact x_gI h hg hd
end
end Wk

/-! Wk: plain laws of partial functions: it answers, and the answer is so. -/
namespace Wk
open PySem L2

def Ok {α : Type} (m : Option α) (P : α → Prop) : Prop := ∃ r, m = some r ∧ P r
section
variable {α β S : Type} {P P' : α → Prop} {Q : β → Prop} {m : Option α} {f : α → Option β} {x : α} {a b : Option α} {c : Bool}
theorem Ok.bind (h : Ok m P) (k : ∀ r, P r → Ok (f r) Q) : Ok (m.bind f) Q := by
  obtain ⟨r, rfl, hp⟩ := h
  exact k r hp
theorem Ok.ret (h : P x) : Ok (some x) P := ⟨x, rfl, h⟩
theorem Ok.of (h : m = some x) (hp : P x) : Ok m P := ⟨x, h, hp⟩
theorem Ok.imp (h : Ok m P) (k : ∀ r, P r → P' r) : Ok m P' := let ⟨r, e, hp⟩ := h; ⟨r, e, k r hp⟩
theorem Ok.let {x : α} (k : Ok (f x) Q) : Ok ((some x).bind f) Q := k
theorem Ok.eqn (h : m = some x) (k : Ok (f x) Q) : Ok (m.bind f) Q := by rw [h]; exact k
theorem Ok.ite (h1 : c = true → Ok a P) (h2 : c = false → Ok b P) : Ok (if c = true then a else b) P := by
  cases c with
  | true => exact h1 rfl
  | false => exact h2 rfl
theorem Ok.itep {p : Prop} [Decidable p] (h1 : p → Ok a P) (h2 : ¬ p → Ok b P) : Ok (if p then a else b) P := by
  by_cases h : p
  · rw [if_pos h]; exact h1 h
  · rw [if_neg h]; exact h2 h
theorem Ok.val (h : Ok m P) : ∃ r, m = some r ∧ P r := h
theorem Ok.and {P2 : α → Prop} (h : Ok m P) (h2 : ∀ r, m = some r → P r → P2 r) : Ok m (fun r => P r ∧ P2 r) := let ⟨r, e, hp⟩ := h; ⟨r, e, hp, h2 r e hp⟩
theorem Ok.keep (h : Ok m P) : Ok m (fun r => m = some r ∧ P r) := let ⟨r, e, hp⟩ := h; ⟨r, e, e, hp⟩
end
section
variable {α β S R : Type}
theorem foldO_inv {f : S → α → Option S} {I : S → Prop} : ∀ {xs : List α} {s : S}, I s → (∀ s x, x ∈ xs → I s → Ok (f s x) I) → Ok (foldO f s xs) I
  | [], s, h, _ => ⟨s, rfl, h⟩
  | x :: xs, s, h, k => Ok.bind (k s x List.mem_cons_self h) fun r hr => foldO_inv hr fun s y hy hi => k s y (List.mem_cons_of_mem _ hy) hi
/-- by what is behind -/
theorem foldO_pre {f : S → α → Option S} {I : List α → S → Prop} {xs : List α} {s : S} (h : I [] s) (k : ∀ pre x post s, xs = pre ++ x :: post → I pre s → Ok (f s x) (I (pre ++ [x]))) : Ok (foldO f s xs) (I xs) := by
  have key : ∀ (post pre : List α) (s : S), xs = pre ++ post → I pre s → Ok (foldO f s post) (I xs) := by
    intro post
    induction post with
    | nil => intro pre s e hi; rw [List.append_nil] at e; subst e; exact ⟨s, rfl, hi⟩
    | cons x post ih =>
      intro pre s e hi
      exact Ok.bind (k pre x post s e hi) fun r hr => ih (pre ++ [x]) r (by rw [e, List.append_assoc]; rfl) hr
  exact key xs [] s rfl h
/-- by the number of turns -/
theorem foldO_num {f : S → α → Option S} {I : Nat → S → Prop} {xs : List α} {s : S} (h : I 0 s) (k : ∀ i x s, xs[i]? = some x → I i s → Ok (f s x) (I (i + 1))) : Ok (foldO f s xs) (I xs.length) := by
  refine (foldO_pre (I := fun pre s => I pre.length s) h fun pre x post s e hi => ?_)
  refine (k pre.length x s (by rw [e, List.getElem?_append_right (Nat.le_refl _), Nat.sub_self]; rfl) hi).imp fun r hr => ?_
  rw [List.length_append]; exact hr
theorem foldO_eq {f : S → α → Option S} {g : S → α → S} {I : S → Prop} : ∀ {xs : List α} {s : S}, I s → (∀ s x, x ∈ xs → I s → f s x = some (g s x) ∧ I (g s x)) → foldO f s xs = some (xs.foldl g s)
  | [], s, h, _ => rfl
  | x :: xs, s, h, k => by
    obtain ⟨h1, h2⟩ := k s x List.mem_cons_self h
    show (f s x).bind _ = _
    rw [h1]
    exact foldO_eq h2 fun s y hy hi => k s y (List.mem_cons_of_mem _ hy) hi
theorem mapO_eq {f : α → Option β} {g : α → β} : ∀ {xs : List α}, (∀ x ∈ xs, f x = some (g x)) → mapO f xs = some (xs.map g)
  | [], _ => rfl
  | x :: xs, k => by
    show (f x).bind _ = _
    rw [k x List.mem_cons_self]
    show (mapO f xs).bind _ = _
    rw [mapO_eq fun y hy => k y (List.mem_cons_of_mem _ hy)]
    rfl
theorem mapO_ok {f : α → Option β} {Q : α → β → Prop} : ∀ {xs : List α}, (∀ x ∈ xs, Ok (f x) (Q x)) → Ok (mapO f xs) (fun ys => ys.length = xs.length ∧ ∀ (i : Nat) (x : α) (y : β), xs[i]? = some x → ys[i]? = some y → Q x y)
  | [], _ => ⟨[], rfl, rfl, fun i x y h => by simp at h⟩
  | x :: xs, k => by
    refine Ok.bind (k x List.mem_cons_self) fun y hy => Ok.bind (mapO_ok fun z hz => k z (List.mem_cons_of_mem _ hz)) fun ys hys => Ok.ret ⟨by rw [List.length_cons, List.length_cons, hys.1], fun i a b ha hb => ?_⟩
    cases i with
    | zero => simp at ha hb; subst ha; subst hb; exact hy
    | succ i => exact hys.2 i a b (by simpa using ha) (by simpa using hb)
theorem filO_eq {f : α → Option (Option β)} {pr : α → Bool} {g : α → β} : ∀ {xs : List α}, (∀ x ∈ xs, f x = some (if pr x = true then some (g x) else none)) → filO f xs = some ((xs.filter pr).map g)
  | [], _ => rfl
  | x :: xs, k => by
    show (f x).bind _ = _
    rw [k x List.mem_cons_self]
    show (filO f xs).bind _ = _
    rw [filO_eq fun y hy => k y (List.mem_cons_of_mem _ hy), List.filter_cons]
    cases pr x <;> rfl
/-- the state and what is told so far -/
theorem mapS_acc {f : S → α → Option (β × S)} {I : List β → S → Prop} {xs : List α} {s : S} (h : I [] s) (k : ∀ acc s x, x ∈ xs → acc.length < xs.length → I acc s → Ok (f s x) (fun y => I (acc ++ [y.1]) y.2)) :
    Ok (mapS f s xs) (fun r => r.1.length = xs.length ∧ I r.1 r.2) := by
  have key : ∀ (post : List α) (acc : List β) (s : S), (∀ x ∈ post, x ∈ xs) → acc.length + post.length = xs.length → I acc s → Ok (mapS f s post) (fun r => r.1.length = post.length ∧ I (acc ++ r.1) r.2) := by
    intro post
    induction post with
    | nil => intro acc s _ _ hi; exact ⟨([], s), rfl, rfl, by rw [List.append_nil]; exact hi⟩
    | cons x post ih =>
      intro acc s hm hl hi
      rw [List.length_cons] at hl
      refine Ok.bind (k acc s x (hm x List.mem_cons_self) (by omega) hi) fun y hy => Ok.bind (ih (acc ++ [y.1]) y.2 (fun z hz => hm z (List.mem_cons_of_mem _ hz)) (by rw [List.length_append, List.length_singleton]; omega) hy) fun r hr => Ok.ret ⟨?_, ?_⟩
      · show (y.1 :: r.1).length = _
        rw [List.length_cons, List.length_cons, hr.1]
      · have := hr.2
        rw [List.append_assoc] at this
        exact this
  exact (key xs [] s (fun _ h => h) (by simp) h).imp fun r hr => hr
theorem mapS_inv {f : S → α → Option (β × S)} {I : S → Prop} {Q : β → Prop} {xs : List α} {s : S} (h : I s) (k : ∀ s x, x ∈ xs → I s → Ok (f s x) (fun y => Q y.1 ∧ I y.2)) :
    Ok (mapS f s xs) (fun r => r.1.length = xs.length ∧ (∀ y ∈ r.1, Q y) ∧ I r.2) := by
  refine (mapS_acc (I := fun acc s => (∀ y ∈ acc, Q y) ∧ I s) ⟨fun y hy => absurd hy (by simp), h⟩ fun acc s x hx hl hi => ?_)
  refine (k s x hx hi.2).imp fun y hy => ⟨fun z hz => ?_, hy.2⟩
  rcases List.mem_append.mp hz with hz | hz
  · exact hi.1 z hz
  · rw [List.mem_singleton.mp hz]; exact hy.1
/-- with a plain function, the state untouched -/
theorem mapS_pure {f : S → α → Option (β × S)} {g : α → β} {s : S} : ∀ {xs : List α}, (∀ x ∈ xs, f s x = some (g x, s)) → mapS f s xs = some (xs.map g, s)
  | [], _ => rfl
  | x :: xs, k => by
    show (f s x).bind _ = _
    rw [k x List.mem_cons_self]
    show (mapS f s xs).bind _ = _
    rw [mapS_pure fun y hy => k y (List.mem_cons_of_mem _ hy)]
    rfl
theorem forR_nx {f : S → α → Option (Fl S R)} {I : S → Prop} : ∀ {xs : List α} {s : S}, I s → (∀ s x, x ∈ xs → I s → Ok (f s x) (fun y => ∃ s', y = .nx s' ∧ I s')) → Ok (forR f s xs) (fun y => ∃ s', y = .nx s' ∧ I s')
  | [], s, h, _ => ⟨_, rfl, s, rfl, h⟩
  | x :: xs, s, h, k => by
    refine Ok.bind (k s x List.mem_cons_self h) fun y hy => ?_
    obtain ⟨s', rfl, hs⟩ := hy
    exact forR_nx hs fun s y hy hi => k s y (List.mem_cons_of_mem _ hy) hi
theorem whileO_ok {c : S → Option Bool} {f : S → Option S} {I : S → Prop} (mu : S → Nat) (k : ∀ s, I s → Ok (c s) (fun b => b = true → Ok (f s) (fun s' => I s' ∧ mu s' < mu s))) : ∀ {s : S}, I s → Ok (whileO c f s) (fun r => I r ∧ c r = some false) := by
  have key : ∀ (n : Nat) (s : S), mu s < n → I s → Ok (whileO c f s) (fun r => I r ∧ c r = some false) := by
    intro n
    induction n with
    | zero => intro s h; omega
    | succ n ih =>
      intro s hn hi
      obtain ⟨b, hb, hk⟩ := k s hi
      cases b with
      | false => exact ⟨s, whileO_stop hb, hi, hb⟩
      | true =>
        obtain ⟨s', h1, h2, h3⟩ := hk rfl
        obtain ⟨r, h4, h5⟩ := ih s' (by omega) h2
        exact ⟨r, whileO_step hb h1 h4, h5⟩
  exact fun {s} hi => key (mu s + 1) s (by omega) hi
end
/-! guards -/
theorem ok_mod {i j : Int} (h : 0 < j) : Ok (pmod i j) (fun r => r = i % j ∧ 0 ≤ r ∧ r < j) := ⟨i % j, if_pos h, rfl, Int.emod_nonneg _ (by omega), Int.emod_lt_of_pos _ h⟩
theorem log_le {n : Nat} {k : Nat} (h : n < 2 ^ k) (hk : 0 < k) : n.log2 < k := by
  by_cases hn : n = 0
  · subst hn; simpa using hk
  · exact (Nat.log2_lt hn).mpr h
theorem ok_div {i j : Int} (h : 0 < j) (h2 : j < 2 ^ 64) : Ok (pdiv i j) (fun r => r = i / j) := by
  refine ⟨i / j, if_pos ⟨h, ?_⟩, rfl⟩
  have : j.natAbs < 2 ^ 64 := by omega
  have := log_le this (by decide)
  omega
theorem eq_mul {i j : Int} (h1 : -(2 ^ 64) < i) (h2 : i < 2 ^ 64) (h3 : -(2 ^ 64) < j) (h4 : j < 2 ^ 64) : pmul i j = some (i * j) := by
  refine if_pos ?_
  have := log_le (n := i.natAbs) (k := 64) (by omega) (by decide)
  have := log_le (n := j.natAbs) (k := 64) (by omega) (by decide)
  omega
theorem ok_mul {i j : Int} (h1 : -(2 ^ 64) < i) (h2 : i < 2 ^ 64) (h3 : -(2 ^ 64) < j) (h4 : j < 2 ^ 64) : Ok (pmul i j) (fun r => r = i * j) := ⟨i * j, eq_mul h1 h2 h3 h4, rfl⟩
theorem eq_pix {α : Type} {xs : List α} {i : Nat} {x : α} (h : xs[i]? = some x) : pix xs (i : Nat) = some x := by
  unfold pix atI ixN
  have hi := (List.getElem?_eq_some_iff.mp h).1
  rw [if_pos (by omega), if_pos (by omega)]
  show xs[((i : Nat) : Int).toNat]? = _
  rw [Int.toNat_natCast, h]
theorem ok_pix {α : Type} {xs : List α} {i : Int} (h0 : 0 ≤ i) (h1 : i < xs.length) : Ok (pix xs i) (fun x => xs[i.toNat]? = some x ∧ x ∈ xs) := by
  obtain ⟨n, rfl⟩ : ∃ n : Nat, i = n := ⟨i.toNat, by omega⟩
  have hn : n < xs.length := by omega
  refine ⟨xs[n], eq_pix (List.getElem?_eq_getElem hn), ?_, List.getElem_mem hn⟩
  rw [Int.toNat_natCast]; exact List.getElem?_eq_getElem hn
theorem eq_last {α : Type} {xs : List α} {x : α} : pix (xs ++ [x]) (-1) = some x := by
  unfold pix atI ixN
  rw [if_neg (by omega), if_pos (by rw [List.length_append, List.length_singleton]; omega)]
  show (xs ++ [x])[(-1 + ((xs ++ [x]).length : Int)).toNat]? = _
  have : (-1 + ((xs ++ [x]).length : Int)).toNat = xs.length := by rw [List.length_append, List.length_singleton]; omega
  rw [this, List.getElem?_append_right (Nat.le_refl _), Nat.sub_self]; rfl
theorem eq_rng {lo hi : Int} (h1 : 0 ≤ lo) (h2 : lo ≤ 16777216) (h3 : 0 ≤ hi) (h4 : hi ≤ 16777216) : prng lo hi = some (rgI lo hi) := if_pos ⟨h1, h2, h3, h4⟩
theorem rgI_mem {lo hi k : Int} : k ∈ rgI lo hi ↔ lo ≤ k ∧ k < hi := by
  unfold rgI
  rw [List.mem_map]
  constructor
  · rintro ⟨m, hm, rfl⟩
    rw [List.mem_range] at hm
    omega
  · rintro ⟨h1, h2⟩
    exact ⟨(k - lo).toNat, List.mem_range.mpr (by omega), by omega⟩
theorem rgI_get {lo hi : Int} {i : Nat} (h : i < (hi - lo).toNat) : (rgI lo hi)[i]? = some (lo + (i : Nat)) := by
  unfold rgI
  rw [List.getElem?_map, List.getElem?_range h]; rfl
theorem rgI_nodup {lo hi : Int} : (rgI lo hi).Nodup := by
  unfold rgI
  refine List.pairwise_map.mpr (List.nodup_range.imp fun {a b} h => ?_)
  omega
theorem ok_set {α : Type} {xs : List α} {i : Int} {v : α} (h0 : 0 ≤ i) (h1 : i < xs.length) : Ok (pset xs i v) (fun r => r = xs.set i.toNat v) := by
  refine ⟨xs.set i.toNat v, ?_, rfl⟩
  unfold pset ixN
  rw [if_pos h0, if_pos h1]; rfl
theorem eq_pop {α : Type} {xs : List α} {i : Nat} {x : α} (h : xs[i]? = some x) (hl : xs.length < 2 ^ 63) : ppop xs (i : Nat) = some (x, xs.eraseIdx i) := by
  unfold ppop
  rw [if_pos ⟨by omega, hl⟩, Int.toNat_natCast, h]; rfl
theorem perm_erase {α : Type} : ∀ {xs : List α} {n : Nat} {x : α}, xs[n]? = some x → (x :: xs.eraseIdx n).Perm xs
  | [], n, x, h => by simp at h
  | y :: ys, 0, x, h => by simp at h; subst h; exact List.Perm.refl _
  | y :: ys, n + 1, x, h => (List.Perm.swap y x _).trans ((perm_erase (by simpa using h)).cons y)
theorem ok_pop {α : Type} {xs : List α} {i : Int} (h0 : 0 ≤ i) (h1 : i < xs.length) (hl : xs.length < 2 ^ 63) : Ok (ppop xs i) (fun r => (r.1 :: r.2).Perm xs ∧ r.2.length + 1 = xs.length) := by
  obtain ⟨n, rfl⟩ : ∃ n : Nat, i = n := ⟨i.toNat, by omega⟩
  have hn : n < xs.length := by omega
  refine ⟨(xs[n], xs.eraseIdx n), eq_pop (List.getElem?_eq_getElem hn) hl, perm_erase (List.getElem?_eq_getElem hn), ?_⟩
  show (xs.eraseIdx n).length + 1 = _
  rw [List.length_eraseIdx_of_lt hn]
  omega
theorem eq_snoc {α : Type} {s : List α} {t : α} (h : s.length < 16777216) : psnoc s t = some (s ++ [t]) := if_pos (by rw [sizeLine_eq]; exact h)
theorem eq_cat {α : Type} {s t : List α} (h : s.length + t.length ≤ 16777216) : pcat s t = some (s ++ t) := if_pos (by rw [sizeLine_eq]; exact h)
theorem eq_add {s t : Str} (h : s.length + t.length ≤ 16777216) : padd s t = some (s ++ t) := if_pos (by rw [sizeLine_eq]; exact h)
theorem eq_fit {α : Type} {n : Nat} {x : α} (h : n < 16777216) : pfit n x = some x := if_pos (by rw [sizeLine_eq]; exact h)
theorem eq_rep {α : Type} {s : List α} {k : Int} (h0 : 0 ≤ k) (h : k ≤ 16777216) (h2 : s.length * k.toNat ≤ 16777216) : prep s k = some (List.replicate k.toNat s).flatten := if_pos ⟨h, by omega, by rw [sizeLine_eq]; exact h2⟩
theorem eq_cutS {s : Str} {lo hi : Option Int} (h : s.length ≤ 16777216) : pcutS s lo hi = some (cutS s lo hi) := if_pos (by rw [sizeLine_eq]; exact h)
theorem eq_len {s : Str} (h : s.length ≤ 16777216) : plen s = some ((s.length : Nat) : Int) := if_pos (by rw [sizeLine_eq]; exact h)
theorem eq_chars {s : Str} (h : s.cps.size ≤ 16777216) : pchars s = some (s.cps.toList.map fun c => ⟨#[c]⟩) := if_pos (by rw [sizeLine_eq]; exact h)
theorem eq_pixS {s : Str} {i : Nat} {c : Nat} (h : s.cps.toList[i]? = some c) (hl : s.length ≤ 16777216) : pixS s (i : Nat) = some ⟨#[c]⟩ := by
  unfold pixS
  rw [if_pos (by rw [sizeLine_eq]; exact hl), show atI s.cps.toList ((i : Nat) : Int) = some c from eq_pix h]; rfl
theorem ok_pixS {s : Str} {i : Int} (h0 : 0 ≤ i) (h1 : i < s.length) (hl : s.length ≤ 16777216) : Ok (pixS s i) (fun r => ∃ c ∈ s.cps.toList, r = ⟨#[c]⟩) := by
  obtain ⟨n, rfl⟩ : ∃ n : Nat, i = n := ⟨i.toNat, by omega⟩
  have hn : n < s.cps.toList.length := by
    have : s.length = s.cps.toList.length := by rw [Array.length_toList]; rfl
    omega
  exact ⟨_, eq_pixS (List.getElem?_eq_getElem hn) hl, _, List.getElem_mem hn, rfl⟩
theorem eq_index {xs : List Str} {x : Str} (h : x ∈ xs) : pindex xs x = some ((xs.findIdx (· == x) : Nat) : Int) := if_pos h
end Wk

namespace K66
open PySem PySem.Spec PyProof.Rows L2 Evl Wk
def topS (i : Nat) : Stmt := PySem.Challenge.pw_walksago_k66_beside.main.body.getD i (.Pass ⟨0, 0, 0, 0⟩)
structure Cns (mg : Str → Option Value) : Prop where
  c_LETTERS : ∃ t, mg "LETTERS" = some (.str (Str.ofString "abcdefghijklmnopqrstuvwxyz") t)
  c_MOST : ∃ t, mg "MOST" = some (.int 8 t)
  c_MOST_WEIGHT : ∃ t, mg "MOST_WEIGHT" = some (.int 99 t)
section
variable {P : Program} {w : World} {K : PySem.W.Frag} {mg : Str → Option Value} {base : Heap}

noncomputable def m_l_take (k : Deck) (many : Int) : Option (Int × Deck) :=
  (pmod k.pos k.cells.length).bind fun v1 =>
  (pix k.cells v1).bind fun v2 =>
  if v2 = 0 ∨ v2 = -1 then
    (pmod (k.seed + 7919 * (k.pos + 1)) 2147483587).bind fun v3 =>
    (pmod (v3 * 69621) 2147483629).bind fun v4 =>
    (pmul v4 v4).bind fun v5 =>
    (pmod (v5 + 31 * (k.pos + 1)) 2147483563).bind fun v6 =>
    (pmod (v6 * 16807) 2147483549).bind fun v7 =>
    (pdiv v7 8).bind fun v8 =>
    (pmod v8 many).bind fun v9 => some (v9, ⟨k.cells, k.pos + 1, k.seed⟩)
  else
    (pdiv v2 many).bind fun v3 =>
    (pset k.cells v1 v3).bind fun v5 =>
    (pmod v2 many).bind fun v4 => some (v4, ⟨v5, k.pos + 1, k.seed⟩)
def R_l_take : List D → Mem → D → Mem → Prop := fun ds Mc d Mc' => ∃ (a c : Addr) (dk : Deck) (p_many : Int) (r : Int × Deck), ds = [D.adr a, D.int p_many] ∧ Mc = Deck.mem a c dk ∧ m_l_take dk p_many = some r ∧ d = D.int r.1 ∧ Mc' = Deck.mem a c r.2
abbrev s_l_take : Stmt := topS 10
theorem sc_l_take : FnScope ["deck", "many", "at", "cell", "one"] ["deck", "many"] (defScope s_l_take) := ⟨rfl, rfl, rfl, by decide +kernel, rfl, by decide +kernel, by decide +kernel⟩
theorem ok_l_take {f : Addr} {fd : FuncData} (F : Fun K "_law_take" "_law_take" s_l_take f fd) (B : Blt mg) : FnOk P w K mg base CX0 1 f fd ["deck", "many"] (spR K R_l_take) := by
  refine fn_ok F sc_l_take (fun ds Mc d Mc' h => ?_) (fun cdv A outer s H0 E hr G0 Fr ds Mc d Mc' Q h q => ?_)
  · obtain ⟨a, c, dk, many, r, rfl, _⟩ := h; rfl
  obtain ⟨a, c, dk, many, r, rfl, rfl, hm, rfl, rfl⟩ := h
  have nd := sc_l_take.nd
  unfold m_l_take at hm
  obtain ⟨v1, h1, hm⟩ := Option.bind_eq_some_iff.mp hm
  obtain ⟨v2, h2, hm⟩ := Option.bind_eq_some_iff.mp hm
  refine st_asg 2 (x_modO (x_ixO 0 (x_var 0 rfl) x_int rfl rfl) (x_lenm (f := D.int) (xs := dk.cells) (a_cons (x_ixO 0 (x_var 0 rfl) x_int rfl rfl) a_nil) (.own 1 c _ rfl) B.len) h1) ?_ nd
  refine st_setL 0 (x_add (x_ixO 0 (x_var 0 rfl) x_int rfl rfl) x_int) (x_var 0 rfl) x_int rfl rfl ?_
  refine st_asg 3 (x_ixOm (f := D.int) (xs := dk.cells) 1 (x_ixO 0 (x_var 0 rfl) x_int rfl rfl) (x_var 2 rfl) rfl h2) ?_ nd
  refine st_if (t_w (w_orP (t_cmp (c_eqI (x_var 3 rfl) x_int)) (fun _ => w_or1 (t_cmp (c_eqI (x_var 3 rfl) (x_neg x_int)))))) (fun hc => ?_) (fun hc => ?_)
  · rw [if_pos (by simpa using hc)] at hm
    obtain ⟨v3, h3, hm⟩ := Option.bind_eq_some_iff.mp hm
    obtain ⟨v4, h4, hm⟩ := Option.bind_eq_some_iff.mp hm
    obtain ⟨v5, h5, hm⟩ := Option.bind_eq_some_iff.mp hm
    obtain ⟨v6, h6, hm⟩ := Option.bind_eq_some_iff.mp hm
    obtain ⟨v7, h7, hm⟩ := Option.bind_eq_some_iff.mp hm
    obtain ⟨v8, h8, hm⟩ := Option.bind_eq_some_iff.mp hm
    obtain ⟨v9, h9, hm⟩ := Option.bind_eq_some_iff.mp hm
    cases hm
    refine st_asg 4 (x_modO (x_mulR (x_modO (x_add (x_ixO 0 (x_var 0 rfl) x_int rfl rfl) (x_mulL x_int (x_ixO 0 (x_var 0 rfl) x_int rfl rfl))) x_int h3) x_int) x_int h4) ?_ nd
    refine st_asg 4 (x_modO (x_mulR (x_modO (x_add (x_mulO (x_var 4 rfl) (x_var 4 rfl) h5) (x_mulL x_int (x_ixO 0 (x_var 0 rfl) x_int rfl rfl))) x_int h6) x_int) x_int h7) ?_ nd
    exact st_ret (x_modO (x_fdivO (x_var 4 rfl) x_int h8) (x_var 1 rfl) h9) q
  · rw [if_neg (by simpa using hc)] at hm
    obtain ⟨v3, h3, hm⟩ := Option.bind_eq_some_iff.mp hm
    obtain ⟨v5, h5, hm⟩ := Option.bind_eq_some_iff.mp hm
    obtain ⟨v4, h4, hm⟩ := Option.bind_eq_some_iff.mp hm
    cases hm
    refine st_go ?_
    refine st_setO (f := D.int) (xs := dk.cells) (v := v3) 1 (x_fdivO (x_var 3 rfl) (x_var 1 rfl) h3) (x_ixO 0 (x_var 0 rfl) x_int rfl rfl) (x_var 2 rfl) rfl h5 ?_
    exact st_ret (x_modO (x_var 3 rfl) (x_var 1 rfl) h4) q


def PlainN : Nat → D → Prop
  | _, .str _ => True
  | _, .int _ => True
  | n + 1, .tup ds => ds.length ≤ 16777216 ∧ ∀ d ∈ ds, PlainN n d
  | _, _ => False
open Classical in
noncomputable def m_l_same (f d : D) : Option Bool := if f = d ∧ PlainN 4 f then some true else none
def R_same (n : Nat) : List D → Mem → D → Mem → Prop := fun ds Mc d Mc' => ∃ x : D, ds = [x, x] ∧ Mc = [] ∧ PlainN n x ∧ d = D.bl true ∧ Mc' = []
def R_l_same : List D → Mem → D → Mem → Prop := fun ds Mc d Mc' => ∃ (x y : D) (r : Bool), ds = [x, y] ∧ Mc = [] ∧ m_l_same x y = some r ∧ d = D.bl r ∧ Mc' = []
abbrev s_l_same : Stmt := topS 18
theorem sc_l_same : FnScope ["found", "due", "k"] ["found", "due"] (defScope s_l_same) := ⟨rfl, rfl, rfl, by decide +kernel, rfl, by decide +kernel, by decide +kernel⟩
theorem ok_same {f : Addr} {fd : FuncData} (F : Fun K "_law_same" "_law_same" s_l_same f fd) (B : Blt mg) (hm : mg "_law_same" = some (.ref f)) (hk : PySem.W.keepIn K (.ref f) = true) (hb : Binds K fd ["found", "due"] []) :
    ∀ n, FnOk P w K mg base CX0 (n + 1) f fd ["found", "due"] (spR K (R_same n)) := by
  intro n
  induction n with
  | zero => 
    refine fn_ok F sc_l_same (fun ds Mc d Mc' h => ?_) (fun cdv A outer s H0 E hr G0 Fr ds Mc d Mc' Q h q => ?_)
    · obtain ⟨x, rfl, _⟩ := h; rfl
    obtain ⟨x, rfl, rfl, hp, rfl, rfl⟩ := h
    cases x with
    | str s => 
      refine st_if (k := false) (t_val (x_isinst2 (a_cons (x_var 1 rfl) (a_cons (x_ty boot_tuple B.tuple) a_nil)) (by simp [D.tyn]) (by simp) (by simp [tyIs, D.tyn]) B.isinstance)) (fun hc => (by cases hc)) (fun hc => st_go ?_)
      refine st_if (k := true) (t_val (x_isinst2 (a_cons (x_var 1 rfl) (a_cons (x_ty boot_str B.str) a_nil)) (by simp [D.tyn]) (by simp) (by simp [tyIs, D.tyn]) B.isinstance)) (fun hc => ?_) (fun hc => (by cases hc))
      exact st_ret (x_is (x_andP (x_isinst2 (k := true) (a_cons (x_var 0 rfl) (a_cons (x_ty boot_str B.str) a_nil)) (by simp [D.tyn]) (by simp) (by simp [tyIs, D.tyn]) B.isinstance) (fun _ => x_one (x_cmp (c_eqS (x_var 0 rfl) (x_var 1 rfl))))) (by simp)) q
    | int i =>
      refine st_if (k := false) (t_val (x_isinst2 (a_cons (x_var 1 rfl) (a_cons (x_ty boot_tuple B.tuple) a_nil)) (by simp [D.tyn]) (by simp) (by simp [tyIs, D.tyn]) B.isinstance)) (fun hc => (by cases hc)) (fun hc => st_go ?_)
      refine st_if (k := false) (t_val (x_isinst2 (a_cons (x_var 1 rfl) (a_cons (x_ty boot_str B.str) a_nil)) (by simp [D.tyn]) (by simp) (by simp [tyIs, D.tyn]) B.isinstance)) (fun hc => (by cases hc)) (fun hc => st_go ?_)
      exact st_ret (x_is (x_andP (x_isinst2 (k := true) (a_cons (x_var 0 rfl) (a_cons (x_ty boot_int B.int) a_nil)) (by simp [D.tyn]) (by simp) (by simp [tyIs, D.tyn]) B.isinstance) (fun _ => x_andP (x_not (x_isinst2 (k := false) (a_cons (x_var 0 rfl) (a_cons (x_ty boot_bool B.bool) a_nil)) (by simp [D.tyn]) (by simp) (by simp [tyIs, D.tyn]) B.isinstance)) (fun _ => x_one (x_cmp (c_eqI (x_var 0 rfl) (x_var 1 rfl)))))) (by simp)) q
    | _ => exact absurd hp (by simp [PlainN])
  | succ n ih =>
    have D_same : Def P w K mg base (n + 1) "_law_same" ["found", "due"] (R_same n) := ⟨f, fd, ih, hm, hk, hb⟩
    refine fn_ok F sc_l_same (fun ds Mc d Mc' h => ?_) (fun cdv A outer s H0 E hr G0 Fr ds Mc d Mc' Q h q => ?_)
    · obtain ⟨x, rfl, _⟩ := h; rfl
    obtain ⟨x, rfl, rfl, hp, rfl, rfl⟩ := h
    have nd := sc_l_same.nd
    have hu : (A.deeper (envOfC "_law_same" (defScope s_l_same) s.heap.objs.size f cdv)).units + 64 < cLine := hr.units
    cases x with
    | str s => 
      refine st_if (k := false) (t_val (x_isinst2 (a_cons (x_var 1 rfl) (a_cons (x_ty boot_tuple B.tuple) a_nil)) (by simp [D.tyn]) (by simp) (by simp [tyIs, D.tyn]) B.isinstance)) (fun hc => (by cases hc)) (fun hc => st_go ?_)
      refine st_if (k := true) (t_val (x_isinst2 (a_cons (x_var 1 rfl) (a_cons (x_ty boot_str B.str) a_nil)) (by simp [D.tyn]) (by simp) (by simp [tyIs, D.tyn]) B.isinstance)) (fun hc => ?_) (fun hc => (by cases hc))
      exact st_ret (x_is (x_andP (x_isinst2 (k := true) (a_cons (x_var 0 rfl) (a_cons (x_ty boot_str B.str) a_nil)) (by simp [D.tyn]) (by simp) (by simp [tyIs, D.tyn]) B.isinstance) (fun _ => x_one (x_cmp (c_eqS (x_var 0 rfl) (x_var 1 rfl))))) (by simp)) q
    | int i =>
      refine st_if (k := false) (t_val (x_isinst2 (a_cons (x_var 1 rfl) (a_cons (x_ty boot_tuple B.tuple) a_nil)) (by simp [D.tyn]) (by simp) (by simp [tyIs, D.tyn]) B.isinstance)) (fun hc => (by cases hc)) (fun hc => st_go ?_)
      refine st_if (k := false) (t_val (x_isinst2 (a_cons (x_var 1 rfl) (a_cons (x_ty boot_str B.str) a_nil)) (by simp [D.tyn]) (by simp) (by simp [tyIs, D.tyn]) B.isinstance)) (fun hc => (by cases hc)) (fun hc => st_go ?_)
      exact st_ret (x_is (x_andP (x_isinst2 (k := true) (a_cons (x_var 0 rfl) (a_cons (x_ty boot_int B.int) a_nil)) (by simp [D.tyn]) (by simp) (by simp [tyIs, D.tyn]) B.isinstance) (fun _ => x_andP (x_not (x_isinst2 (k := false) (a_cons (x_var 0 rfl) (a_cons (x_ty boot_bool B.bool) a_nil)) (by simp [D.tyn]) (by simp) (by simp [tyIs, D.tyn]) B.isinstance)) (fun _ => x_one (x_cmp (c_eqI (x_var 0 rfl) (x_var 1 rfl)))))) (by simp)) q
    | tup xs =>
      obtain ⟨hz, hp⟩ := hp
      refine st_if (k := true) (t_val (x_isinst2 (a_cons (x_var 1 rfl) (a_cons (x_ty boot_tuple B.tuple) a_nil)) (by simp [D.tyn]) (by simp) (by simp [tyIs, D.tyn]) B.isinstance)) (fun hc => ?_) (fun hc => (by cases hc))
      refine st_if (k := !true || !decide (((xs.length : Nat) : Int) = (xs.length : Nat))) (t_w (w_orP (t_not (t_val (x_isinst2 (k := true) (a_cons (x_var 0 rfl) (a_cons (x_ty boot_tuple B.tuple) a_nil)) (by simp [D.tyn]) (by simp) (by simp [tyIs, D.tyn]) B.isinstance))) (fun _ => w_or1 (t_cmp (c_neI (x_len (a_cons (x_var 0 rfl) a_nil) (.tup _) B.len) (x_len (a_cons (x_var 1 rfl) a_nil) (.tup _) B.len)))))) (fun hc => (by simp at hc)) (fun hc => st_go ?_)
      have hr0 : prng 0 ((xs.length : Nat) : Int) = some (rgI 0 (xs.length : Nat)) := if_pos ⟨by omega, by omega, by omega, by omega⟩
      have he : peq (eLs D.int (((rgI 0 (xs.length : Nat)).filter (fun _ => false)).map fun k => k)) (eLs D.int []) = some true := by
        have : (rgI 0 (xs.length : Nat)).filter (fun _ => false) = [] := List.filter_eq_nil_iff.mpr (by simp)
        rw [this]; rfl
      refine st_ret (x_is (x_cmp (c_eqQ hu (x_frz (n_lc (own := [("k", 2)]) (l_F (en2 := D.int) (en := D.int) (xs := rgI 0 (xs.length : Nat)) (g := fun k => k) (pr := fun _ => false) [("k", 2)] (i_rng1O (a_cons (x_len (a_cons (x_var 1 rfl) a_nil) (.tup _) B.len) a_nil) hr0 B.range) (prng_len hr0) (fun k hk => ?_)) rfl nd (blkOk_by (N := ["found", "due", "k"]) (sc := defScope s_l_same) (by decide +kernel)))) (x_frz (n_lst a_nil (by show (0:Nat) ≤ sizeLine; decide))) (RdD.self _) (RdD.self _) he)) rfl) q
      have hk' : ∃ n : Nat, k = (n : Nat) ∧ n < xs.length := by
        unfold rgI at hk
        obtain ⟨m, h1, h2⟩ := List.mem_map.mp hk
        exact ⟨m, by omega, by simpa using h1⟩
      obtain ⟨m, rfl, hm1⟩ := hk'
      have hat : L2.atI xs ((m : Nat) : Int) = some xs[m] := by
        unfold L2.atI L2.ixN
        rw [if_pos (by omega), if_pos (by omega)]
        show xs[((m : Nat) : Int).toNat]? = _
        rw [Int.toNat_natCast, List.getElem?_eq_getElem hm1]
      exact ⟨_, fun _ _ _ _ _ => (g_name 2 nd), fun _ _ _ _ _ qa acc => (ts_one (t_not (t_val (x_callD (d := D.bl true) D_same hr (Nat.le_refl _) [] [] _ (Mc' := []) (a_cons (x_ixT (x_var 0 rfl) (x_var 2 rfl) hat) (a_cons (x_ixT (x_var 1 rfl) (x_var 2 rfl) hat) a_nil)) ⟨xs[m], rfl, rfl, hp _ (List.getElem_mem hm1), rfl, rfl⟩)))), fun h => (by cases h)⟩
    | _ => exact absurd hp (by simp [PlainN])
theorem ok_l_same {f : Addr} {fd : FuncData} (F : Fun K "_law_same" "_law_same" s_l_same f fd) (B : Blt mg) (hm : mg "_law_same" = some (.ref f)) (hk : PySem.W.keepIn K (.ref f) = true) (hb : Binds K fd ["found", "due"] []) :
    FnOk P w K mg base CX0 5 f fd ["found", "due"] (spR K R_l_same) := by
  refine (ok_same F B hm hk hb 4).imp fun vs H Q E h => ?_
  obtain ⟨G, Fr, ds, Mc, d, Mc', r, wd, ⟨x, y, b, rfl, rfl, h, rfl, rfl⟩, q⟩ := h
  unfold m_l_same at h
  split at h
  · rename_i hc
    obtain ⟨rfl, hp⟩ := hc
    cases h
    exact ⟨G, Fr, _, _, _, _, r, wd, ⟨x, rfl, rfl, hp, rfl, rfl⟩, q⟩
  · cases h

noncomputable def m_l_deck_l1 (s25 : (List Int)) (x26 : Int) : Option (List Int) :=
  (pix s25 x26).bind fun v35 => (some (((((v35 % 2147483587) + (853 * x26)) + 11) * 69621) % 2147483629)).bind fun v36 => (pmul v36 v36).bind fun v37 => (some ((((v37 + (31 * x26)) % 2147483563) * 16807) % 2147483549)).bind fun v38 => (pmul v38 v38).bind fun v39 => (pset s25 x26 ((v39 * 2147483543) + ((v38 * 48271) % 2147483579))).bind fun v40 => some v40
noncomputable def m_l_deck (p_script : (List Int)) : Option Deck :=
  (pcat (cutD p_script none (some 63)) ([((p_script.length : Nat) : Int)])).bind fun v1 => (some ((((((cutD p_script none (some 63)).sum) * 48271) + (7 * ((p_script.length : Nat) : Int))) + 5) % 2147483647)).bind fun v3 => ((if (decide ((((cutD p_script none (some 63)).sum) % 2) = 1)) = true then ((prng 0 ((v1.length : Nat) : Int)).bind fun v24 => (foldO m_l_deck_l1 v1 v24).bind fun s27 => some s27) else (some v1) : Option (List Int))).bind fun s22 => some (⟨s22, 0, v3⟩ : Deck)
def R_l_deck : List D → Deck → Prop := fun ds dk => ∃ (p_script : (List Int)), ds = [(D.rlst (p_script.map D.int))] ∧ m_l_deck p_script = some dk
abbrev s_l_deck : Stmt := topS 9
abbrev N_l_deck : List Str := ["script", "cells", "seed", "k", "mixed"]
theorem sc_l_deck : FnScope N_l_deck ["script"] (defScope s_l_deck) := ⟨rfl, rfl, rfl, by decide +kernel, rfl, by decide +kernel, by decide +kernel⟩
theorem ok_l_deck {f : Addr} {fd : FuncData} (F : Fun K "_law_deck" "_law_deck" s_l_deck f fd) (B : Blt mg) (Cn : Cns mg) : FnOk P w K mg base CX0 1 f fd ["script"] (spDk K R_l_deck) := by
  refine fn_okDk F sc_l_deck (fun ds dk h => ?_) (fun cdv A outer s H0 E hr G0 Fr ds dk Q h q => ?_)
  · obtain ⟨p_script, rfl, _⟩ := h; rfl
  obtain ⟨p_script, rfl, hm⟩ := h
  have nd := sc_l_deck.nd
  have hu : (A.deeper (envOfC "_law_deck" (defScope s_l_deck) s.heap.objs.size f cdv)).units + 64 < cLine := hr.units
  unfold m_l_deck at hm
  obtain ⟨v1, h1, hm⟩ := Option.bind_eq_some_iff.mp hm
  refine st_new (o := MO.lst (v1.map D.int)) 1 (n_catQ (f := D.int) (xs := (cutD p_script none (some 63))) (ys := [((p_script.length : Nat) : Int)]) (x_frz (n_slRm (f := D.int) (xs := p_script) (x_var 0 rfl) o_none (o_some x_int))) (x_frz (n_lst (a_cons (x_lenm (f := D.int) (xs := p_script) (a_cons (x_var 0 rfl) a_nil) (SeqD.rlst _) B.len) a_nil) (by show (1:Nat) ≤ sizeLine; decide))) (LsD.lst _) (LsD.lst _) h1) (fun q2 => ?_) nd
  obtain ⟨v3, h3, hm⟩ := Option.bind_eq_some_iff.mp hm
  have h3 := Option.some.inj h3
  refine st_asg (d := (D.int v3)) 2 (x_is (x_modC (x_add (x_add (x_mulR (x_sum (ns := (cutD p_script none (some 63))) rfl (a_cons (x_frz (n_slRm (f := D.int) (xs := p_script) (x_var 0 rfl) o_none (o_some x_int))) a_nil) (SeqD.lst _) (ht := by intro _ h; cases h) B.sum) x_int) (x_mulL x_int (x_lenm (f := D.int) (xs := p_script) (a_cons (x_var 0 rfl) a_nil) (SeqD.rlst _) B.len))) x_int) x_int) (congrArg D.int h3)) ?_ nd
  obtain ⟨s22, hj23, hm⟩ := Option.bind_eq_some_iff.mp hm
  refine st_ifJ (k := (decide ((((cutD p_script none (some 63)).sum) % 2) = 1))) [some (D.rlst (p_script.map D.int)), some (D.adr q2), some (D.int v3), none, none] ((q2, MO.lst (s22.map D.int)) :: Fr) (t_cmp (c_eqI (x_modC (x_sum (ns := (cutD p_script none (some 63))) rfl (a_cons (x_frz (n_slRm (f := D.int) (xs := p_script) (x_var 0 rfl) o_none (o_some x_int))) a_nil) (SeqD.lst _) (ht := by intro _ h; cases h) B.sum) x_int) x_int)) (fun hc4 => ?_) (fun hc4 => ?_) ?_
  · have hj23 := (if_pos hc4).symm.trans hj23
    obtain ⟨v24, h24, hj23⟩ := Option.bind_eq_some_iff.mp hj23
    obtain ⟨s27, hy33, hj23⟩ := Option.bind_eq_some_iff.mp hj23
    refine st_forO (s0 := v1) (en := D.int) (xs := v24) (f := m_l_deck_l1) (s1 := s27) PassesOwn.never rfl (fun s25 => [some (D.rlst (p_script.map D.int)), some (D.adr q2), some (D.int v3), none, none]) (fun s25 => ((q2, MO.lst (s25.map D.int)) :: Fr)) (i_rng1O (a_cons (x_lenm (f := D.int) (xs := v1) (a_cons (x_var 1 rfl) a_nil) (SeqD.own 0 q2 (v1.map D.int) rfl) B.len) a_nil) h24 B.range) hy33 (fun G30 e31 s25 x26 s27' hx29 hf28 => ⟨_, _, (g_name 3 nd), ?_⟩) ?_
    · unfold m_l_deck_l1 at hf28
      obtain ⟨v35, h35, hf28⟩ := Option.bind_eq_some_iff.mp hf28
      obtain ⟨v36, h36, hf28⟩ := Option.bind_eq_some_iff.mp hf28
      have h36 := Option.some.inj h36
      refine st_asg (d := (D.int v36)) 4 (x_is (x_modC (x_mulR (x_add (x_add (x_modC (x_ixOm (f := D.int) (xs := s25) 0 (x_var 1 rfl) (x_var 3 rfl) rfl h35) x_int) (x_mulL x_int (x_var 3 rfl))) x_int) x_int) x_int) (congrArg D.int h36)) ?_ nd
      obtain ⟨v37, h37, hf28⟩ := Option.bind_eq_some_iff.mp hf28
      obtain ⟨v38, h38, hf28⟩ := Option.bind_eq_some_iff.mp hf28
      have h38 := Option.some.inj h38
      refine st_asg (d := (D.int v38)) 4 (x_is (x_modC (x_mulR (x_modC (x_add (x_mulO (x_var 4 rfl) (x_var 4 rfl) h37) (x_mulL x_int (x_var 3 rfl))) x_int) x_int) x_int) (congrArg D.int h38)) ?_ nd
      obtain ⟨v39, h39, hf28⟩ := Option.bind_eq_some_iff.mp hf28
      obtain ⟨v40, h40, hf28⟩ := Option.bind_eq_some_iff.mp hf28
      refine st_setO (f := D.int) (xs := s25) (v := ((v39 * 2147483543) + ((v38 * 48271) % 2147483579))) 0 (x_add (x_mulR (x_mulO (x_var 4 rfl) (x_var 4 rfl) h39) x_int) (x_modC (x_mulR (x_var 4 rfl) x_int) x_int)) (x_var 1 rfl) (x_var 3 rfl) rfl h40 ?_
      cases hf28
      exact st_end (fun σ H a => (a.wipe [3, 4]))
    cases hj23
    exact st_end (fun σ H a => a)
  · have hj23 := (if_neg (nf hc4)).symm.trans hj23
    cases hj23
    exact st_end (fun σ H a => a)
  cases hm
  exact st_retX (n_lst (a_cons (x_var 1 rfl) (a_cons x_int (a_cons (x_var 2 rfl) a_nil))) (by show (3:Nat) ≤ sizeLine; decide)) (fun p G H e w => q p _ G H e w)
noncomputable def m_l_names_c1 (s10 : ((List Str) × Deck)) (x7 : Int) :=
  (m_l_take s10.2 ((s10.1.length : Nat) : Int)).bind fun v11 => (ppop s10.1 v11.1).bind fun v12 => some (v12.1, (v12.2, v11.2))
noncomputable def m_l_names_w2 (p_many : Int) (s16 : ((List Str) × Deck)) : Option Bool :=
  some (decide (((s16.1.length : Nat) : Int) < p_many))
noncomputable def m_l_names_c3 (v1 : Str) (s28 : Deck) (x25 : Int) :=
  (m_l_take s28 26).bind fun v29 => (pixS v1 v29.1).bind fun v30 => some (v30, v29.2)
noncomputable def m_l_names_w4 (s16 : ((List Str) × Deck)) (s45 : (Str × Int)) : Option Bool :=
  some (decide (s45.1 ∈ s16.1))
noncomputable def m_l_names_b5 (v1 : Str) (s45 : (Str × Int)) : Option (Str × Int) :=
  (pixS v1 (s45.2 % 26)).bind fun v52 => (pixS v1 (s45.2 / 26)).bind fun v53 => (padd v52 v53).bind fun v54 => (some (s45.2 + 1)).bind fun v55 => some (v54, v55)
noncomputable def m_l_names_b6 (v1 : Str) (s16 : ((List Str) × Deck)) : Option ((List Str) × Deck) :=
  (m_l_take s16.2 8).bind fun v23 => (prng 0 (1 + v23.1)).bind fun v24 => (mapS (m_l_names_c3 v1) v23.2 v24).bind fun v31 => (pjoin (Str.ofString "") v31.1).bind fun v34 => (pcat ([(Str.ofString "a")]) s16.1).bind fun v35 => (pix v35 (-1)).bind fun v36 => (m_l_take v31.2 26).bind fun v37 => (pixS v1 v37.1).bind fun v38 => (padd v36 v38).bind fun v39 => (pcutS v39 none (some 8)).bind fun v40 => (m_l_take v37.2 26).bind fun v41 => (pixS v1 v41.1).bind fun v42 => (m_l_take v41.2 3).bind fun v43 => (pix ([v34, v40, v42]) v43.1).bind fun v44 => (whileO (m_l_names_w4 s16) (m_l_names_b5 v1) (v44, 0)).bind fun s46 => (psnoc s16.1 s46.1).bind fun v56 => some (v56, v43.2)
noncomputable def m_l_names (dk : Deck) (p_many : Int) : Option ((List Str) × Deck) :=
  (some (Str.ofString "abcdefghijklmnopqrstuvwxyz")).bind fun v1 => (m_l_take dk 4).bind fun v3 => if (decide (v3.1 = 0)) = true then ((prng 0 p_many).bind fun v6 => (mapS m_l_names_c1 ([(Str.ofString "a"), (Str.ofString "b"), (Str.ofString "ab"), (Str.ofString "ba"), (Str.ofString "aa"), (Str.ofString "bb"), (Str.ofString "aab"), (Str.ofString "abb"), (Str.ofString "aba"), (Str.ofString "bab")], v3.2) v6).bind fun v13 => some (v13.1, v13.2.2)) else ((whileO (m_l_names_w2 p_many) (m_l_names_b6 v1) (([] : List Str), v3.2)).bind fun s17 => some (s17.1, s17.2))
def R_l_names : List D → Mem → D → Mem → Prop := fun ds Mc d Mc' => ∃ (a c : Addr) (dk : Deck) (p_many : Int) (r : ((List Str) × Deck)), ds = [D.adr a, (D.int p_many)] ∧ Mc = Deck.mem a c dk ∧ m_l_names dk p_many = some r ∧ d = ((eLs D.str) r.1) ∧ Mc' = Deck.mem a c r.2
abbrev s_l_names : Stmt := topS 11
abbrev N_l_names : List Str := ["deck", "many", "letters", "found", "left", "k", "any_word", "ahead", "word", "turn"]
theorem sc_l_names : FnScope N_l_names ["deck", "many"] (defScope s_l_names) := ⟨rfl, rfl, rfl, by decide +kernel, rfl, by decide +kernel, by decide +kernel⟩
theorem ok_l_names {f : Addr} {fd : FuncData} (F : Fun K "_law_names" "_law_names" s_l_names f fd) (B : Blt mg) (Cn : Cns mg) (D_l_take : Def P w K mg base 1 "_law_take" ["deck", "many"] R_l_take) : FnOk P w K mg base CX0 2 f fd ["deck", "many"] (spR K R_l_names) := by
  refine fn_ok F sc_l_names (fun ds Mc d Mc' h => ?_) (fun cdv A outer s H0 E hr G0 Fr ds Mc d Mc' Q h q => ?_)
  · obtain ⟨a, c, dk, p_many, r, rfl, _⟩ := h; rfl
  obtain ⟨a, c, dk, p_many, r, rfl, rfl, hm, rfl, rfl⟩ := h
  have nd := sc_l_names.nd
  have hu : (A.deeper (envOfC "_law_names" (defScope s_l_names) s.heap.objs.size f cdv)).units + 64 < cLine := hr.units
  unfold m_l_names at hm
  obtain ⟨v1, h1, hm⟩ := Option.bind_eq_some_iff.mp hm
  have h1 := Option.some.inj h1
  refine st_asg (d := (D.str v1)) 2 (x_is x_str (congrArg D.str h1)) ?_ nd
  refine st_new (o := MO.lst (([] : List Str).map D.str)) 3 (n_lst a_nil (by show (0:Nat) ≤ sizeLine; decide)) (fun q2 => ?_) nd
  obtain ⟨v3, h3, hm⟩ := Option.bind_eq_some_iff.mp hm
  refine st_if (k := (decide (v3.1 = 0))) (t_cmp (c_eqI (x_callD (d := (D.int v3.1)) D_l_take hr (by decide) [(q2, MO.lst (([] : List Str).map D.str))] (Deck.mem a c dk) Fr (Mc' := Deck.mem a c v3.2) (a_cons (x_var 0 rfl) (a_cons x_int a_nil)) ⟨a, c, dk, 4, v3, rfl, rfl, h3, rfl, rfl⟩) x_int)) (fun hc4 => ?_) (fun hc4 => ?_)
  · have hm := (if_pos hc4).symm.trans hm
    refine st_new (o := MO.lst (([(Str.ofString "a"), (Str.ofString "b"), (Str.ofString "ab"), (Str.ofString "ba"), (Str.ofString "aa"), (Str.ofString "bb"), (Str.ofString "aab"), (Str.ofString "abb"), (Str.ofString "aba"), (Str.ofString "bab")]).map D.str)) 4 (n_lst (a_cons x_str (a_cons x_str (a_cons x_str (a_cons x_str (a_cons x_str (a_cons x_str (a_cons x_str (a_cons x_str (a_cons x_str (a_cons x_str a_nil)))))))))) (by show (10:Nat) ≤ sizeLine; decide)) (fun q5 => ?_) nd
    obtain ⟨v6, h6, hm⟩ := Option.bind_eq_some_iff.mp hm
    obtain ⟨v13, h13, hm⟩ := Option.bind_eq_some_iff.mp hm
    cases hm
    exact st_ret (x_frz (n_lc (own := [("k", 5)]) (l_S (en2 := D.str) (en := D.int) (s0 := ([(Str.ofString "a"), (Str.ofString "b"), (Str.ofString "ab"), (Str.ofString "ba"), (Str.ofString "aa"), (Str.ofString "bb"), (Str.ofString "aab"), (Str.ofString "abb"), (Str.ofString "aba"), (Str.ofString "bab")], v3.2)) (s1 := v13.2) (ys := v13.1) (f := m_l_names_c1) [("k", 5)] (fun s10 => ((q5, MO.lst (s10.1.map D.str)) :: ((q2, MO.lst (([] : List Str).map D.str)) :: (Deck.mem a c s10.2 ++ Fr)))) (i_rng1O (a_cons (x_var 1 rfl) a_nil) h6 B.range) h13 (prng_len h6) (fun s10 x7 y14 hx15 h => by unfold m_l_names_c1 at h; obtain ⟨v11, h11, h⟩ := Option.bind_eq_some_iff.mp h; obtain ⟨v12, h12, h⟩ := Option.bind_eq_some_iff.mp h; cases h; exact ⟨_, fun _ _ _ _ _ => (g_name 5 nd), fun _ _ _ _ _ q9 acc8 => (x_popO (f := D.str) (xs := s10.1) 1 (x_var 4 rfl) (a_cons (x_callD (d := (D.int v11.1)) D_l_take hr (by decide) [(q9, MO.lst acc8), (q5, MO.lst (s10.1.map D.str)), (q2, MO.lst (([] : List Str).map D.str))] (Deck.mem a c s10.2) Fr (Mc' := Deck.mem a c v11.2) (a_cons (x_var 0 rfl) (a_cons (x_lenm (f := D.str) (xs := s10.1) (a_cons (x_var 4 rfl) a_nil) (SeqD.own 1 q5 (s10.1.map D.str) rfl) B.len) a_nil)) ⟨a, c, s10.2, ((s10.1.length : Nat) : Int), v11, rfl, rfl, h11, rfl, rfl⟩) a_nil) rfl rfl h12)⟩)) rfl nd (blkOk_by (N := N_l_names) (sc := defScope s_l_names) (by decide +kernel)))) (fun v G H e w r => q v G H e (w.dropN 2) r)
  · have hm := (if_neg (nf hc4)).symm.trans hm
    refine st_go ?_
    obtain ⟨s17, hy22, hm⟩ := Option.bind_eq_some_iff.mp hm
    refine st_whileO (cf := (m_l_names_w2 p_many)) (f := (m_l_names_b6 v1)) (s0 := (([] : List Str), v3.2)) (s1 := s17) PassesOwn.never (fun s16 => [some (D.adr a), some (D.int p_many), some (D.str v1), some (D.adr q2), none, none, none, none, none, none]) (fun s16 => ((q2, MO.lst (s16.1.map D.str)) :: (Deck.mem a c s16.2 ++ Fr))) hy22 (fun s16 b20 hb21 => ?_) (fun _ => ?_)
    · unfold m_l_names_w2 at hb21
      cases hb21
      refine ⟨_, (t_cmp (c_lt (x_lenm (f := D.str) (xs := s16.1) (a_cons (x_var 3 rfl) a_nil) (SeqD.own 0 q2 (s16.1.map D.str) rfl) B.len) (x_var 1 rfl))), fun _ => rfl, fun _ s17' hf18 => ?_⟩
      unfold m_l_names_b6 at hf18
      obtain ⟨v23, h23, hf18⟩ := Option.bind_eq_some_iff.mp hf18
      obtain ⟨v24, h24, hf18⟩ := Option.bind_eq_some_iff.mp hf18
      obtain ⟨v31, h31, hf18⟩ := Option.bind_eq_some_iff.mp hf18
      obtain ⟨v34, h34, hf18⟩ := Option.bind_eq_some_iff.mp hf18
      refine st_asg (d := (D.str v34)) 6 (x_joinO x_str (a_cons (x_frz (n_lc (own := [("k", 5)]) (l_S (en2 := D.str) (en := D.int) (s0 := v23.2) (s1 := v31.2) (ys := v31.1) (f := (m_l_names_c3 v1)) [("k", 5)] (fun s28 => ((q2, MO.lst (s16.1.map D.str)) :: (Deck.mem a c s28 ++ Fr))) (i_rng1O (a_cons (x_add x_int (x_callD (d := (D.int v23.1)) D_l_take hr (by decide) [(q2, MO.lst (s16.1.map D.str))] (Deck.mem a c s16.2) Fr (Mc' := Deck.mem a c v23.2) (a_cons (x_var 0 rfl) (a_cons x_int a_nil)) ⟨a, c, s16.2, 8, v23, rfl, rfl, h23, rfl, rfl⟩)) a_nil) h24 B.range) h31 (prng_len h24) (fun s28 x25 y32 hx33 h => by unfold m_l_names_c3 at h; obtain ⟨v29, h29, h⟩ := Option.bind_eq_some_iff.mp h; obtain ⟨v30, h30, h⟩ := Option.bind_eq_some_iff.mp h; cases h; exact ⟨_, fun _ _ _ _ _ => (g_name 5 nd), fun _ _ _ _ _ q27 acc26 => (x_ixSm (x_var 2 rfl) (x_callD (d := (D.int v29.1)) D_l_take hr (by decide) [(q27, MO.lst acc26), (q2, MO.lst (s16.1.map D.str))] (Deck.mem a c s28) Fr (Mc' := Deck.mem a c v29.2) (a_cons (x_var 0 rfl) (a_cons x_int a_nil)) ⟨a, c, s28, 26, v29, rfl, rfl, h29, rfl, rfl⟩) h30)⟩)) rfl nd (blkOk_by (N := N_l_names) (sc := defScope s_l_names) (by decide +kernel)))) a_nil) (SeqD.lst _) h34) ?_ nd
      obtain ⟨v35, h35, hf18⟩ := Option.bind_eq_some_iff.mp hf18
      obtain ⟨v36, h36, hf18⟩ := Option.bind_eq_some_iff.mp hf18
      obtain ⟨v37, h37, hf18⟩ := Option.bind_eq_some_iff.mp hf18
      obtain ⟨v38, h38, hf18⟩ := Option.bind_eq_some_iff.mp hf18
      obtain ⟨v39, h39, hf18⟩ := Option.bind_eq_some_iff.mp hf18
      refine st_asg (d := (D.str v39)) 7 (x_addSO (x_ixLm (f := D.str) (xs := v35) (x_frz (n_catQ (f := D.str) (xs := [(Str.ofString "a")]) (ys := s16.1) (x_frz (n_lst (a_cons x_str a_nil) (by show (1:Nat) ≤ sizeLine; decide))) (x_var 3 rfl) (LsD.lst _) (LsD.own 0 q2 (s16.1.map D.str) rfl) h35)) (x_neg x_int) h36) (x_ixSm (x_var 2 rfl) (x_callD (d := (D.int v37.1)) D_l_take hr (by decide) [(q2, MO.lst (s16.1.map D.str))] (Deck.mem a c v31.2) Fr (Mc' := Deck.mem a c v37.2) (a_cons (x_var 0 rfl) (a_cons x_int a_nil)) ⟨a, c, v31.2, 26, v37, rfl, rfl, h37, rfl, rfl⟩) h38) h39) ?_ nd
      obtain ⟨v40, h40, hf18⟩ := Option.bind_eq_some_iff.mp hf18
      obtain ⟨v41, h41, hf18⟩ := Option.bind_eq_some_iff.mp hf18
      obtain ⟨v42, h42, hf18⟩ := Option.bind_eq_some_iff.mp hf18
      obtain ⟨v43, h43, hf18⟩ := Option.bind_eq_some_iff.mp hf18
      obtain ⟨v44, h44, hf18⟩ := Option.bind_eq_some_iff.mp hf18
      refine st_asg (d := (D.str v44)) 8 (x_ixLm (f := D.str) (xs := [v34, v40, v42]) (x_frz (n_lst (a_cons (x_var 6 rfl) (a_cons (x_slSO (x_var 7 rfl) o_none (o_some x_int) h40) (a_cons (x_ixSm (x_var 2 rfl) (x_callD (d := (D.int v41.1)) D_l_take hr (by decide) [(q2, MO.lst (s16.1.map D.str))] (Deck.mem a c v37.2) Fr (Mc' := Deck.mem a c v41.2) (a_cons (x_var 0 rfl) (a_cons x_int a_nil)) ⟨a, c, v37.2, 26, v41, rfl, rfl, h41, rfl, rfl⟩) h42) a_nil))) (by show (3:Nat) ≤ sizeLine; decide))) (x_callD (d := (D.int v43.1)) D_l_take hr (by decide) [(q2, MO.lst (s16.1.map D.str))] (Deck.mem a c v41.2) Fr (Mc' := Deck.mem a c v43.2) (a_cons (x_var 0 rfl) (a_cons x_int a_nil)) ⟨a, c, v41.2, 3, v43, rfl, rfl, h43, rfl, rfl⟩) h44) ?_ nd
      refine st_asg (d := (D.int 0)) 9 x_int ?_ nd
      obtain ⟨s46, hy51, hf18⟩ := Option.bind_eq_some_iff.mp hf18
      refine st_whileO (cf := (m_l_names_w4 s16)) (f := (m_l_names_b5 v1)) (s0 := (v44, 0)) (s1 := s46) PassesOwn.never (fun s45 => [some (D.adr a), some (D.int p_many), some (D.str v1), some (D.adr q2), none, none, some (D.str v34), some (D.str v39), some (D.str s45.1), some (D.int s45.2)]) (fun s45 => ((q2, MO.lst (s16.1.map D.str)) :: (Deck.mem a c v43.2 ++ Fr))) hy51 (fun s45 b49 hb50 => ?_) (fun _ => ?_)
      · unfold m_l_names_w4 at hb50
        cases hb50
        refine ⟨_, (t_cmp (c_inStrs (ns := s16.1) (x_var 8 rfl) (x_var 3 rfl) (SeqD.own 0 q2 (s16.1.map D.str) rfl))), fun _ => rfl, fun _ s46' hf47 => ?_⟩
        unfold m_l_names_b5 at hf47
        obtain ⟨v52, h52, hf47⟩ := Option.bind_eq_some_iff.mp hf47
        obtain ⟨v53, h53, hf47⟩ := Option.bind_eq_some_iff.mp hf47
        obtain ⟨v54, h54, hf47⟩ := Option.bind_eq_some_iff.mp hf47
        refine st_asg (d := (D.str v54)) 8 (x_addSO (x_ixSm (x_var 2 rfl) (x_modC (x_var 9 rfl) x_int) h52) (x_ixSm (x_var 2 rfl) (x_fdivC (x_var 9 rfl) x_int) h53) h54) ?_ nd
        obtain ⟨v55, h55, hf47⟩ := Option.bind_eq_some_iff.mp hf47
        have h55 := Option.some.inj h55
        refine st_asg (d := (D.int v55)) 9 (x_is (x_add (x_var 9 rfl) x_int) (congrArg D.int h55)) ?_ nd
        cases hf47
        exact st_end (fun σ H a => a)
      obtain ⟨v56, h56, hf18⟩ := Option.bind_eq_some_iff.mp hf18
      refine st_expr (x_appendO (f := D.str) (xs := s16.1) (v := s46.1) 0 (x_var 3 rfl) (a_cons (x_var 8 rfl) a_nil) rfl rfl h56) ?_
      cases hf18
      exact st_end (fun σ H a => (a.wipe [6, 7, 8, 9]))
    refine st_frz (ds := s17.1.map D.str) 3 0 rfl rfl ?_
    cases hm
    exact st_ret (x_var 3 rfl) (fun v G H e w r => q v G H e (w.dropN 0) r)
noncomputable def m_l_shuffled_c1 (s6 : ((List Int) × Deck)) (x3 : Int) :=
  (m_l_take s6.2 ((s6.1.length : Nat) : Int)).bind fun v7 => (ppop s6.1 v7.1).bind fun v8 => some (v8.1, (v8.2, v7.2))
noncomputable def m_l_shuffled (dk : Deck) (p_things : (List Int)) : Option ((List Int) × Deck) :=
  (prng 0 ((p_things.length : Nat) : Int)).bind fun v2 => (mapS m_l_shuffled_c1 (p_things, dk) v2).bind fun v9 => some (v9.1, v9.2.2)
def R_l_shuffled : List D → Mem → D → Mem → Prop := fun ds Mc d Mc' => ∃ (a c : Addr) (dk : Deck) (p_things : (List Int)) (r : ((List Int) × Deck)), ds = [D.adr a, ((eLs D.int) p_things)] ∧ Mc = Deck.mem a c dk ∧ m_l_shuffled dk p_things = some r ∧ d = ((eLs D.int) r.1) ∧ Mc' = Deck.mem a c r.2
abbrev s_l_shuffled : Stmt := topS 12
abbrev N_l_shuffled : List Str := ["deck", "things", "left", "k"]
theorem sc_l_shuffled : FnScope N_l_shuffled ["deck", "things"] (defScope s_l_shuffled) := ⟨rfl, rfl, rfl, by decide +kernel, rfl, by decide +kernel, by decide +kernel⟩
theorem ok_l_shuffled {f : Addr} {fd : FuncData} (F : Fun K "_law_shuffled" "_law_shuffled" s_l_shuffled f fd) (B : Blt mg) (Cn : Cns mg) (D_l_take : Def P w K mg base 1 "_law_take" ["deck", "many"] R_l_take) : FnOk P w K mg base CX0 2 f fd ["deck", "things"] (spR K R_l_shuffled) := by
  refine fn_ok F sc_l_shuffled (fun ds Mc d Mc' h => ?_) (fun cdv A outer s H0 E hr G0 Fr ds Mc d Mc' Q h q => ?_)
  · obtain ⟨a, c, dk, p_things, r, rfl, _⟩ := h; rfl
  obtain ⟨a, c, dk, p_things, r, rfl, rfl, hm, rfl, rfl⟩ := h
  have nd := sc_l_shuffled.nd
  have hu : (A.deeper (envOfC "_law_shuffled" (defScope s_l_shuffled) s.heap.objs.size f cdv)).units + 64 < cLine := hr.units
  unfold m_l_shuffled at hm
  refine st_new (o := MO.lst (p_things.map D.int)) 2 (n_listOf (a_cons (x_var 1 rfl) a_nil) (SeqD.lst _) B.list) (fun q1 => ?_) nd
  obtain ⟨v2, h2, hm⟩ := Option.bind_eq_some_iff.mp hm
  obtain ⟨v9, h9, hm⟩ := Option.bind_eq_some_iff.mp hm
  cases hm
  exact st_ret (x_frz (n_lc (own := [("k", 3)]) (l_S (en2 := D.int) (en := D.int) (s0 := (p_things, dk)) (s1 := v9.2) (ys := v9.1) (f := m_l_shuffled_c1) [("k", 3)] (fun s6 => ((q1, MO.lst (s6.1.map D.int)) :: (Deck.mem a c s6.2 ++ Fr))) (i_rng1O (a_cons (x_lenm (f := D.int) (xs := p_things) (a_cons (x_var 2 rfl) a_nil) (SeqD.own 0 q1 (p_things.map D.int) rfl) B.len) a_nil) h2 B.range) h9 (prng_len h2) (fun s6 x3 y10 hx11 h => by unfold m_l_shuffled_c1 at h; obtain ⟨v7, h7, h⟩ := Option.bind_eq_some_iff.mp h; obtain ⟨v8, h8, h⟩ := Option.bind_eq_some_iff.mp h; cases h; exact ⟨_, fun _ _ _ _ _ => (g_name 3 nd), fun _ _ _ _ _ q5 acc4 => (x_popO (f := D.int) (xs := s6.1) 1 (x_var 2 rfl) (a_cons (x_callD (d := (D.int v7.1)) D_l_take hr (by decide) [(q5, MO.lst acc4), (q1, MO.lst (s6.1.map D.int))] (Deck.mem a c s6.2) Fr (Mc' := Deck.mem a c v7.2) (a_cons (x_var 0 rfl) (a_cons (x_lenm (f := D.int) (xs := s6.1) (a_cons (x_var 2 rfl) a_nil) (SeqD.own 1 q1 (s6.1.map D.int) rfl) B.len) a_nil)) ⟨a, c, s6.2, ((s6.1.length : Nat) : Int), v7, rfl, rfl, h7, rfl, rfl⟩) a_nil) rfl rfl h8)⟩)) rfl nd (blkOk_by (N := N_l_shuffled) (sc := defScope s_l_shuffled) (by decide +kernel)))) (fun v G H e w r => q v G H e (w.dropN 1) r)
noncomputable def m_l_images_c1 (p_many : Int) (s26 : Deck) (x23 : Int) :=
  (m_l_take s26 p_many).bind fun v27 => some (v27.1, v27.2)
noncomputable def m_l_images (dk : Deck) (p_many : Int) : Option ((List Int) × Deck) :=
  (m_l_take dk 6).bind fun v1 => if (decide (v1.1 = 1)) = true then ((prng 0 p_many).bind fun v3 => (m_l_shuffled v1.2 v3).bind fun v4 => some (v4.1, v4.2)) else (if (decide (v1.1 = 2)) = true then ((m_l_take v1.2 p_many).bind fun v6 => (prep ([v6.1]) p_many).bind fun v7 => some (v7, v6.2)) else (if (decide (v1.1 = 3)) = true then ((prng 0 p_many).bind fun v9 => (m_l_take v1.2 p_many).bind fun v11 => (m_l_take v11.2 p_many).bind fun v12 => (pset v9 v12.1 v11.1).bind fun v13 => some (v13, v12.2)) else (if (decide (v1.1 = 5)) = true then ((prng 0 p_many).bind fun v15 => some (((v15.filter (fun x16 => true)).map (fun x16 => (max 0 (x16 - 1)))), v1.2)) else ((prng 0 p_many).bind fun v22 => (mapS (m_l_images_c1 p_many) v1.2 v22).bind fun v28 => (pix ([v28.1, (sortI v28.1)]) (if (decide (v1.1 = 4)) = true then (1 : Int) else 0)).bind fun v32 => some (v32, v28.2)))))
def R_l_images : List D → Mem → D → Mem → Prop := fun ds Mc d Mc' => ∃ (a c : Addr) (dk : Deck) (p_many : Int) (r : ((List Int) × Deck)), ds = [D.adr a, (D.int p_many)] ∧ Mc = Deck.mem a c dk ∧ m_l_images dk p_many = some r ∧ d = ((eLs D.int) r.1) ∧ Mc' = Deck.mem a c r.2
abbrev s_l_images : Stmt := topS 13
abbrev N_l_images : List Str := ["deck", "many", "way", "found", "k"]
theorem sc_l_images : FnScope N_l_images ["deck", "many"] (defScope s_l_images) := ⟨rfl, rfl, rfl, by decide +kernel, rfl, by decide +kernel, by decide +kernel⟩
theorem ok_l_images {f : Addr} {fd : FuncData} (F : Fun K "_law_images" "_law_images" s_l_images f fd) (B : Blt mg) (Cn : Cns mg) (D_l_take : Def P w K mg base 1 "_law_take" ["deck", "many"] R_l_take) (D_l_shuffled : Def P w K mg base 2 "_law_shuffled" ["deck", "things"] R_l_shuffled) : FnOk P w K mg base CX0 3 f fd ["deck", "many"] (spR K R_l_images) := by
  refine fn_ok F sc_l_images (fun ds Mc d Mc' h => ?_) (fun cdv A outer s H0 E hr G0 Fr ds Mc d Mc' Q h q => ?_)
  · obtain ⟨a, c, dk, p_many, r, rfl, _⟩ := h; rfl
  obtain ⟨a, c, dk, p_many, r, rfl, rfl, hm, rfl, rfl⟩ := h
  have nd := sc_l_images.nd
  have hu : (A.deeper (envOfC "_law_images" (defScope s_l_images) s.heap.objs.size f cdv)).units + 64 < cLine := hr.units
  unfold m_l_images at hm
  obtain ⟨v1, h1, hm⟩ := Option.bind_eq_some_iff.mp hm
  refine st_asg (d := (D.int v1.1)) 2 (x_callD (d := (D.int v1.1)) D_l_take hr (by decide) [] (Deck.mem a c dk) Fr (Mc' := Deck.mem a c v1.2) (a_cons (x_var 0 rfl) (a_cons x_int a_nil)) ⟨a, c, dk, 6, v1, rfl, rfl, h1, rfl, rfl⟩) ?_ nd
  refine st_if (k := (decide (v1.1 = 1))) (t_cmp (c_eqI (x_var 2 rfl) x_int)) (fun hc2 => ?_) (fun hc2 => ?_)
  · have hm := (if_pos hc2).symm.trans hm
    obtain ⟨v3, h3, hm⟩ := Option.bind_eq_some_iff.mp hm
    obtain ⟨v4, h4, hm⟩ := Option.bind_eq_some_iff.mp hm
    cases hm
    exact st_ret (x_callD (d := ((eLs D.int) v4.1)) D_l_shuffled hr (by decide) [] (Deck.mem a c v1.2) Fr (Mc' := Deck.mem a c v4.2) (a_cons (x_var 0 rfl) (a_cons (x_frz (n_listRgO rfl (r_1 (x_var 1 rfl) B.range) h3 B.list)) a_nil)) ⟨a, c, v1.2, v3, v4, rfl, rfl, h4, rfl, rfl⟩) (fun v G H e w r => q v G H e (w.dropN 0) r)
  · have hm := (if_neg (nf hc2)).symm.trans hm
    refine st_go ?_
    refine st_if (k := (decide (v1.1 = 2))) (t_cmp (c_eqI (x_var 2 rfl) x_int)) (fun hc5 => ?_) (fun hc5 => ?_)
    · have hm := (if_pos hc5).symm.trans hm
      obtain ⟨v6, h6, hm⟩ := Option.bind_eq_some_iff.mp hm
      obtain ⟨v7, h7, hm⟩ := Option.bind_eq_some_iff.mp hm
      cases hm
      exact st_ret (x_frz (n_repO (f := D.int) (xs := [v6.1]) (x_frz (n_lst (a_cons (x_callD (d := (D.int v6.1)) D_l_take hr (by decide) [] (Deck.mem a c v1.2) Fr (Mc' := Deck.mem a c v6.2) (a_cons (x_var 0 rfl) (a_cons (x_var 1 rfl) a_nil)) ⟨a, c, v1.2, p_many, v6, rfl, rfl, h6, rfl, rfl⟩) a_nil) (by show (1:Nat) ≤ sizeLine; decide))) (x_var 1 rfl) h7)) (fun v G H e w r => q v G H e (w.dropN 0) r)
    · have hm := (if_neg (nf hc5)).symm.trans hm
      refine st_go ?_
      refine st_if (k := (decide (v1.1 = 3))) (t_cmp (c_eqI (x_var 2 rfl) x_int)) (fun hc8 => ?_) (fun hc8 => ?_)
      · have hm := (if_pos hc8).symm.trans hm
        obtain ⟨v9, h9, hm⟩ := Option.bind_eq_some_iff.mp hm
        refine st_new (o := MO.lst (v9.map D.int)) 3 (n_listRgO rfl (r_1 (x_var 1 rfl) B.range) h9 B.list) (fun q10 => ?_) nd
        obtain ⟨v11, h11, hm⟩ := Option.bind_eq_some_iff.mp hm
        obtain ⟨v12, h12, hm⟩ := Option.bind_eq_some_iff.mp hm
        obtain ⟨v13, h13, hm⟩ := Option.bind_eq_some_iff.mp hm
        refine st_setO (f := D.int) (xs := v9) (v := v11.1) 0 (x_callD (d := (D.int v11.1)) D_l_take hr (by decide) [(q10, MO.lst (v9.map D.int))] (Deck.mem a c v1.2) Fr (Mc' := Deck.mem a c v11.2) (a_cons (x_var 0 rfl) (a_cons (x_var 1 rfl) a_nil)) ⟨a, c, v1.2, p_many, v11, rfl, rfl, h11, rfl, rfl⟩) (x_var 3 rfl) (x_callD (d := (D.int v12.1)) D_l_take hr (by decide) [(q10, MO.lst (v9.map D.int))] (Deck.mem a c v11.2) Fr (Mc' := Deck.mem a c v12.2) (a_cons (x_var 0 rfl) (a_cons (x_var 1 rfl) a_nil)) ⟨a, c, v11.2, p_many, v12, rfl, rfl, h12, rfl, rfl⟩) rfl h13 ?_
        refine st_frz (ds := v13.map D.int) 3 0 rfl rfl ?_
        cases hm
        exact st_ret (x_var 3 rfl) (fun v G H e w r => q v G H e (w.dropN 0) r)
      · have hm := (if_neg (nf hc8)).symm.trans hm
        refine st_go ?_
        refine st_if (k := (decide (v1.1 = 5))) (t_cmp (c_eqI (x_var 2 rfl) x_int)) (fun hc14 => ?_) (fun hc14 => ?_)
        · have hm := (if_pos hc14).symm.trans hm
          obtain ⟨v15, h15, hm⟩ := Option.bind_eq_some_iff.mp hm
          cases hm
          exact st_ret (x_frz (n_lc (own := [("k", 4)]) (l_F (en2 := D.int) (en := D.int) (xs := v15) (g := (fun x16 => (max 0 (x16 - 1)))) (pr := (fun x16 => true)) [("k", 4)] (i_rng1O (a_cons (x_var 1 rfl) a_nil) h15 B.range) (prng_len h15) (fun x16 hx20 => ⟨_, fun _ _ _ _ _ => (g_name 4 nd), fun _ _ _ _ _ q18 acc17 => ts_nil, fun _ _ _ _ _ _ q18 acc17 => (x_max2 rfl (a_cons x_int (a_cons (x_sub (x_var 4 rfl) x_int) a_nil)) B.max)⟩)) rfl nd (blkOk_by (N := N_l_images) (sc := defScope s_l_images) (by decide +kernel)))) (fun v G H e w r => q v G H e (w.dropN 0) r)
        · have hm := (if_neg (nf hc14)).symm.trans hm
          refine st_go ?_
          obtain ⟨v22, h22, hm⟩ := Option.bind_eq_some_iff.mp hm
          obtain ⟨v28, h28, hm⟩ := Option.bind_eq_some_iff.mp hm
          refine st_newLc (own := [("k", 4)]) 3 (l_S (en2 := D.int) (en := D.int) (s0 := v1.2) (s1 := v28.2) (ys := v28.1) (f := (m_l_images_c1 p_many)) [("k", 4)] (fun s26 => (Deck.mem a c s26 ++ Fr)) (i_rng1O (a_cons (x_var 1 rfl) a_nil) h22 B.range) h28 (prng_len h22) (fun s26 x23 y29 hx30 h => by unfold m_l_images_c1 at h; obtain ⟨v27, h27, h⟩ := Option.bind_eq_some_iff.mp h; cases h; exact ⟨_, fun _ _ _ _ _ => (g_name 4 nd), fun _ _ _ _ _ q25 acc24 => (x_callD (d := (D.int v27.1)) D_l_take hr (by decide) [(q25, MO.lst acc24)] (Deck.mem a c s26) Fr (Mc' := Deck.mem a c v27.2) (a_cons (x_var 0 rfl) (a_cons (x_var 1 rfl) a_nil)) ⟨a, c, s26, p_many, v27, rfl, rfl, h27, rfl, rfl⟩)⟩)) (fun q31 => ?_) rfl nd (ok := (blkOk_by (N := N_l_images) (sc := defScope s_l_images) (by decide +kernel)))
          refine st_frz (ds := v28.1.map D.int) 3 0 rfl rfl ?_
          obtain ⟨v32, h32, hm⟩ := Option.bind_eq_some_iff.mp hm
          cases hm
          exact st_ret (x_ixLm (f := (eLs D.int)) (xs := [v28.1, (sortI v28.1)]) (x_frz (n_lst (a_cons (x_var 3 rfl) (a_cons (x_frz (n_sortedO (a_cons (x_var 3 rfl) a_nil) (SeqD.lst _) (ht := by intro _ h; cases h) B.sorted)) a_nil)) (by show (2:Nat) ≤ sizeLine; decide))) (x_intB (a_cons (x_cmp (c_eqI (x_var 2 rfl) x_int)) a_nil) B.int) h32) (fun v G H e w r => q v G H e (w.dropN 0) r)
noncomputable def m_l_some_web_c1 (v1 : ((List Str) × Deck)) (s22 : Deck) (x19 : Int) :=
  (pix v1.1 x19).bind fun v23 => some (v23, s22)
noncomputable def m_l_some_web_l2 (p_size : Int) (p_heavy : Int) (v1 : ((List Str) × Deck)) (s4 : ((List (Str × Int × (List Str))) × Deck)) (x5 : Str) : Option ((List (Str × Int × (List Str))) × Deck) :=
  (m_l_take s4.2 p_heavy).bind fun v14 => (m_l_take v14.2 3).bind fun v15 => (pix ([1, (1 + v14.1), p_heavy]) v15.1).bind fun v16 => (m_l_images v15.2 p_size).bind fun v17 => (pfit v17.1.length ()).bind fun v18 => (mapS (m_l_some_web_c1 v1) v17.2 v17.1).bind fun v24 => (psnoc s4.1 (x5, v16, v24.1)).bind fun v27 => some (v27, v24.2)
noncomputable def m_l_some_web (dk : Deck) (p_size : Int) (p_count : Int) (p_heavy : Int) : Option (((List Str) × (List (Str × Int × (List Str)))) × Deck) :=
  (m_l_names dk p_size).bind fun v1 => (m_l_names v1.2 p_count).bind fun v3 => (foldO (m_l_some_web_l2 p_size p_heavy v1) (([] : List (Str × Int × (List Str))), v3.2) v3.1).bind fun s6 => some ((v1.1, s6.1), s6.2)
def R_l_some_web : List D → Mem → D → Mem → Prop := fun ds Mc d Mc' => ∃ (a c : Addr) (dk : Deck) (p_size : Int) (p_count : Int) (p_heavy : Int) (r : (((List Str) × (List (Str × Int × (List Str)))) × Deck)), ds = [D.adr a, (D.int p_size), (D.int p_count), (D.int p_heavy)] ∧ Mc = Deck.mem a c dk ∧ m_l_some_web dk p_size p_count p_heavy = some r ∧ d = ((eP2 (eTs D.str) (eTs (eP3 D.str D.int (eTs D.str)))) r.1) ∧ Mc' = Deck.mem a c r.2
abbrev s_l_some_web : Stmt := topS 14
abbrev N_l_some_web : List Str := ["deck", "size", "count", "heavy", "states", "found", "name", "weight", "place"]
theorem sc_l_some_web : FnScope N_l_some_web ["deck", "size", "count", "heavy"] (defScope s_l_some_web) := ⟨rfl, rfl, rfl, by decide +kernel, rfl, by decide +kernel, by decide +kernel⟩
theorem ok_l_some_web {f : Addr} {fd : FuncData} (F : Fun K "_law_some_web" "_law_some_web" s_l_some_web f fd) (B : Blt mg) (Cn : Cns mg) (D_l_take : Def P w K mg base 1 "_law_take" ["deck", "many"] R_l_take) (D_l_names : Def P w K mg base 2 "_law_names" ["deck", "many"] R_l_names) (D_l_images : Def P w K mg base 3 "_law_images" ["deck", "many"] R_l_images) : FnOk P w K mg base CX0 4 f fd ["deck", "size", "count", "heavy"] (spR K R_l_some_web) := by
  refine fn_ok F sc_l_some_web (fun ds Mc d Mc' h => ?_) (fun cdv A outer s H0 E hr G0 Fr ds Mc d Mc' Q h q => ?_)
  · obtain ⟨a, c, dk, p_size, p_count, p_heavy, r, rfl, _⟩ := h; rfl
  obtain ⟨a, c, dk, p_size, p_count, p_heavy, r, rfl, rfl, hm, rfl, rfl⟩ := h
  have nd := sc_l_some_web.nd
  have hu : (A.deeper (envOfC "_law_some_web" (defScope s_l_some_web) s.heap.objs.size f cdv)).units + 64 < cLine := hr.units
  unfold m_l_some_web at hm
  obtain ⟨v1, h1, hm⟩ := Option.bind_eq_some_iff.mp hm
  refine st_asg (d := ((eLs D.str) v1.1)) 4 (x_callD (d := ((eLs D.str) v1.1)) D_l_names hr (by decide) [] (Deck.mem a c dk) Fr (Mc' := Deck.mem a c v1.2) (a_cons (x_var 0 rfl) (a_cons (x_var 1 rfl) a_nil)) ⟨a, c, dk, p_size, v1, rfl, rfl, h1, rfl, rfl⟩) ?_ nd
  refine st_new (o := MO.lst (([] : List (Str × Int × (List Str))).map (eP3 D.str D.int (eTs D.str)))) 5 (n_lst a_nil (by show (0:Nat) ≤ sizeLine; decide)) (fun q2 => ?_) nd
  obtain ⟨v3, h3, hm⟩ := Option.bind_eq_some_iff.mp hm
  obtain ⟨s6, hy12, hm⟩ := Option.bind_eq_some_iff.mp hm
  refine st_forO (s0 := (([] : List (Str × Int × (List Str))), v3.2)) (en := D.str) (xs := v3.1) (f := (m_l_some_web_l2 p_size p_heavy v1)) (s1 := s6) PassesOwn.never rfl (fun s4 => [some (D.adr a), some (D.int p_size), some (D.int p_count), some (D.int p_heavy), some ((eLs D.str) v1.1), some (D.adr q2), none, none, none]) (fun s4 => ((q2, MO.lst (s4.1.map (eP3 D.str D.int (eTs D.str)))) :: (Deck.mem a c s4.2 ++ Fr))) (i_lst (x_callD (d := ((eLs D.str) v3.1)) D_l_names hr (by decide) [(q2, MO.lst (([] : List (Str × Int × (List Str))).map (eP3 D.str D.int (eTs D.str))))] (Deck.mem a c v1.2) Fr (Mc' := Deck.mem a c v3.2) (a_cons (x_var 0 rfl) (a_cons (x_var 2 rfl) a_nil)) ⟨a, c, v1.2, p_count, v3, rfl, rfl, h3, rfl, rfl⟩)) hy12 (fun G9 e10 s4 x5 s6' hx8 hf7 => ⟨_, _, (g_name 6 nd), ?_⟩) ?_
  · unfold m_l_some_web_l2 at hf7
    obtain ⟨v14, h14, hf7⟩ := Option.bind_eq_some_iff.mp hf7
    obtain ⟨v15, h15, hf7⟩ := Option.bind_eq_some_iff.mp hf7
    obtain ⟨v16, h16, hf7⟩ := Option.bind_eq_some_iff.mp hf7
    refine st_asg (d := (D.int v16)) 7 (x_ixLm (f := D.int) (xs := [1, (1 + v14.1), p_heavy]) (x_frz (n_lst (a_cons x_int (a_cons (x_add x_int (x_callD (d := (D.int v14.1)) D_l_take hr (by decide) [(q2, MO.lst (s4.1.map (eP3 D.str D.int (eTs D.str))))] (Deck.mem a c s4.2) Fr (Mc' := Deck.mem a c v14.2) (a_cons (x_var 0 rfl) (a_cons (x_var 3 rfl) a_nil)) ⟨a, c, s4.2, p_heavy, v14, rfl, rfl, h14, rfl, rfl⟩)) (a_cons (x_var 3 rfl) a_nil))) (by show (3:Nat) ≤ sizeLine; decide))) (x_callD (d := (D.int v15.1)) D_l_take hr (by decide) [(q2, MO.lst (s4.1.map (eP3 D.str D.int (eTs D.str))))] (Deck.mem a c v14.2) Fr (Mc' := Deck.mem a c v15.2) (a_cons (x_var 0 rfl) (a_cons x_int a_nil)) ⟨a, c, v14.2, 3, v15, rfl, rfl, h15, rfl, rfl⟩) h16) ?_ nd
    obtain ⟨v17, h17, hf7⟩ := Option.bind_eq_some_iff.mp hf7
    obtain ⟨v18, h18, hf7⟩ := Option.bind_eq_some_iff.mp hf7
    obtain ⟨v24, h24, hf7⟩ := Option.bind_eq_some_iff.mp hf7
    obtain ⟨v27, h27, hf7⟩ := Option.bind_eq_some_iff.mp hf7
    refine st_expr (x_appendO (f := (eP3 D.str D.int (eTs D.str))) (xs := s4.1) (v := (x5, v16, v24.1)) 0 (x_var 5 rfl) (a_cons (x_tup (a_cons (x_var 6 rfl) (a_cons (x_var 7 rfl) (a_cons (x_tupleOf (a_cons (x_frz (n_lc (own := [("place", 8)]) (l_S (en2 := D.str) (en := D.int) (s0 := v17.2) (s1 := v24.2) (ys := v24.1) (f := (m_l_some_web_c1 v1)) [("place", 8)] (fun s22 => ((q2, MO.lst (s4.1.map (eP3 D.str D.int (eTs D.str)))) :: (Deck.mem a c s22 ++ Fr))) (i_lst (x_callD (d := ((eLs D.int) v17.1)) D_l_images hr (by decide) [(q2, MO.lst (s4.1.map (eP3 D.str D.int (eTs D.str))))] (Deck.mem a c v15.2) Fr (Mc' := Deck.mem a c v17.2) (a_cons (x_var 0 rfl) (a_cons (x_var 1 rfl) a_nil)) ⟨a, c, v15.2, p_size, v17, rfl, rfl, h17, rfl, rfl⟩)) h24 (Nat.le_of_lt (pfit_some h18).1) (fun s22 x19 y25 hx26 h => by unfold m_l_some_web_c1 at h; obtain ⟨v23, h23, h⟩ := Option.bind_eq_some_iff.mp h; cases h; exact ⟨_, fun _ _ _ _ _ => (g_name 8 nd), fun _ _ _ _ _ q21 acc20 => (x_ixLm (f := D.str) (xs := v1.1) (x_var 4 rfl) (x_var 8 rfl) h23)⟩)) rfl nd (blkOk_by (N := N_l_some_web) (sc := defScope s_l_some_web) (by decide +kernel)))) a_nil) (SeqD.lst _) B.tuple) a_nil))) (by show (3:Nat) ≤ sizeLine; decide)) a_nil) rfl rfl h27) ?_
    cases hf7
    exact st_end (fun σ H a => (a.wipe [6, 7]))
  cases hm
  exact st_ret (x_tup (a_cons (x_tupleOf (a_cons (x_var 4 rfl) a_nil) (SeqD.lst _) B.tuple) (a_cons (x_tupleOf (a_cons (x_var 5 rfl) a_nil) (SeqD.own 0 q2 (s6.1.map (eP3 D.str D.int (eTs D.str))) rfl) B.tuple) a_nil)) (by show (2:Nat) ≤ sizeLine; decide)) (fun v G H e w r => q v G H e (w.dropN 1) r)
noncomputable def m_l_sizes (dk : Deck) : Option ((Int × Int) × Deck) :=
  (m_l_take dk 2).bind fun v1 => if (decide (v1.1 = 0)) = true then ((m_l_take v1.2 9).bind fun v3 => (pix ([(1, 8), (8, 1), (2, 4), (4, 2), (2, 3), (3, 2), (2, 2), (1, 3), (1, 1)]) v3.1).bind fun v4 => some (v4, v3.2)) else ((m_l_take v1.2 8).bind fun v5 => (some (1 + v5.1)).bind fun v6 => (pdiv 8 v6).bind fun v7 => (m_l_take v5.2 v7).bind fun v8 => some ((v6, (1 + v8.1)), v8.2))
def R_l_sizes : List D → Mem → D → Mem → Prop := fun ds Mc d Mc' => ∃ (a c : Addr) (dk : Deck) (r : ((Int × Int) × Deck)), ds = [D.adr a] ∧ Mc = Deck.mem a c dk ∧ m_l_sizes dk = some r ∧ d = ((eP2 D.int D.int) r.1) ∧ Mc' = Deck.mem a c r.2
abbrev s_l_sizes : Stmt := topS 15
abbrev N_l_sizes : List Str := ["deck", "first"]
theorem sc_l_sizes : FnScope N_l_sizes ["deck"] (defScope s_l_sizes) := ⟨rfl, rfl, rfl, by decide +kernel, rfl, by decide +kernel, by decide +kernel⟩
theorem ok_l_sizes {f : Addr} {fd : FuncData} (F : Fun K "_law_sizes" "_law_sizes" s_l_sizes f fd) (B : Blt mg) (Cn : Cns mg) (D_l_take : Def P w K mg base 1 "_law_take" ["deck", "many"] R_l_take) : FnOk P w K mg base CX0 2 f fd ["deck"] (spR K R_l_sizes) := by
  refine fn_ok F sc_l_sizes (fun ds Mc d Mc' h => ?_) (fun cdv A outer s H0 E hr G0 Fr ds Mc d Mc' Q h q => ?_)
  · obtain ⟨a, c, dk, r, rfl, _⟩ := h; rfl
  obtain ⟨a, c, dk, r, rfl, rfl, hm, rfl, rfl⟩ := h
  have nd := sc_l_sizes.nd
  have hu : (A.deeper (envOfC "_law_sizes" (defScope s_l_sizes) s.heap.objs.size f cdv)).units + 64 < cLine := hr.units
  unfold m_l_sizes at hm
  obtain ⟨v1, h1, hm⟩ := Option.bind_eq_some_iff.mp hm
  refine st_if (k := (decide (v1.1 = 0))) (t_cmp (c_eqI (x_callD (d := (D.int v1.1)) D_l_take hr (by decide) [] (Deck.mem a c dk) Fr (Mc' := Deck.mem a c v1.2) (a_cons (x_var 0 rfl) (a_cons x_int a_nil)) ⟨a, c, dk, 2, v1, rfl, rfl, h1, rfl, rfl⟩) x_int)) (fun hc2 => ?_) (fun hc2 => ?_)
  · have hm := (if_pos hc2).symm.trans hm
    obtain ⟨v3, h3, hm⟩ := Option.bind_eq_some_iff.mp hm
    obtain ⟨v4, h4, hm⟩ := Option.bind_eq_some_iff.mp hm
    cases hm
    exact st_ret (x_ixLm (f := (eP2 D.int D.int)) (xs := [(1, 8), (8, 1), (2, 4), (4, 2), (2, 3), (3, 2), (2, 2), (1, 3), (1, 1)]) (x_frz (n_lst (a_cons (x_tup (a_cons x_int (a_cons x_int a_nil)) (by show (2:Nat) ≤ sizeLine; decide)) (a_cons (x_tup (a_cons x_int (a_cons x_int a_nil)) (by show (2:Nat) ≤ sizeLine; decide)) (a_cons (x_tup (a_cons x_int (a_cons x_int a_nil)) (by show (2:Nat) ≤ sizeLine; decide)) (a_cons (x_tup (a_cons x_int (a_cons x_int a_nil)) (by show (2:Nat) ≤ sizeLine; decide)) (a_cons (x_tup (a_cons x_int (a_cons x_int a_nil)) (by show (2:Nat) ≤ sizeLine; decide)) (a_cons (x_tup (a_cons x_int (a_cons x_int a_nil)) (by show (2:Nat) ≤ sizeLine; decide)) (a_cons (x_tup (a_cons x_int (a_cons x_int a_nil)) (by show (2:Nat) ≤ sizeLine; decide)) (a_cons (x_tup (a_cons x_int (a_cons x_int a_nil)) (by show (2:Nat) ≤ sizeLine; decide)) (a_cons (x_tup (a_cons x_int (a_cons x_int a_nil)) (by show (2:Nat) ≤ sizeLine; decide)) a_nil))))))))) (by show (9:Nat) ≤ sizeLine; decide))) (x_callD (d := (D.int v3.1)) D_l_take hr (by decide) [] (Deck.mem a c v1.2) Fr (Mc' := Deck.mem a c v3.2) (a_cons (x_var 0 rfl) (a_cons x_int a_nil)) ⟨a, c, v1.2, 9, v3, rfl, rfl, h3, rfl, rfl⟩) h4) (fun v G H e w r => q v G H e (w.dropN 0) r)
  · have hm := (if_neg (nf hc2)).symm.trans hm
    refine st_go ?_
    obtain ⟨v5, h5, hm⟩ := Option.bind_eq_some_iff.mp hm
    obtain ⟨v6, h6, hm⟩ := Option.bind_eq_some_iff.mp hm
    have h6 := Option.some.inj h6
    refine st_asg (d := (D.int v6)) 1 (x_is (x_add x_int (x_callD (d := (D.int v5.1)) D_l_take hr (by decide) [] (Deck.mem a c v1.2) Fr (Mc' := Deck.mem a c v5.2) (a_cons (x_var 0 rfl) (a_cons x_int a_nil)) ⟨a, c, v1.2, 8, v5, rfl, rfl, h5, rfl, rfl⟩)) (congrArg D.int h6)) ?_ nd
    obtain ⟨v7, h7, hm⟩ := Option.bind_eq_some_iff.mp hm
    obtain ⟨v8, h8, hm⟩ := Option.bind_eq_some_iff.mp hm
    cases hm
    exact st_ret (x_tup (a_cons (x_var 1 rfl) (a_cons (x_add x_int (x_callD (d := (D.int v8.1)) D_l_take hr (by decide) [] (Deck.mem a c v5.2) Fr (Mc' := Deck.mem a c v8.2) (a_cons (x_var 0 rfl) (a_cons (x_fdivO x_int (x_var 1 rfl) h7) a_nil)) ⟨a, c, v5.2, v7, v8, rfl, rfl, h8, rfl, rfl⟩)) a_nil)) (by show (2:Nat) ≤ sizeLine; decide)) (fun v G H e w r => q v G H e (w.dropN 0) r)
noncomputable def m_l_two (dk : Deck) : Option ((((List Str) × (List (Str × Int × (List Str)))) × ((List Str) × (List (Str × Int × (List Str))))) × Deck) :=
  (m_l_sizes dk ).bind fun v1 => (m_l_sizes v1.2 ).bind fun v2 => (m_l_take v2.2 99).bind fun v3 => (some (1 + v3.1)).bind fun v4 => (pdiv 99 v4).bind fun v5 => (pdiv 99 v4).bind fun v6 => (pcat ([(9, 11), (11, 9), (99, 1), (1, 99), (3, 33), (1, 1), (v4, v5)]) ([(v6, v4)])).bind fun v7 => (m_l_take v3.2 8).bind fun v8 => (pix v7 v8.1).bind fun v9 => (m_l_some_web v8.2 v1.1.1 v2.1.1 v9.1).bind fun v10 => (m_l_some_web v10.2 v1.1.2 v2.1.2 v9.2).bind fun v11 => some ((v10.1, v11.1), v11.2)
def R_l_two : List D → Mem → D → Mem → Prop := fun ds Mc d Mc' => ∃ (a c : Addr) (dk : Deck) (r : ((((List Str) × (List (Str × Int × (List Str)))) × ((List Str) × (List (Str × Int × (List Str))))) × Deck)), ds = [D.adr a] ∧ Mc = Deck.mem a c dk ∧ m_l_two dk = some r ∧ d = ((eP2 (eP2 (eTs D.str) (eTs (eP3 D.str D.int (eTs D.str)))) (eP2 (eTs D.str) (eTs (eP3 D.str D.int (eTs D.str))))) r.1) ∧ Mc' = Deck.mem a c r.2
abbrev s_l_two : Stmt := topS 16
abbrev N_l_two : List Str := ["deck", "sizes", "counts", "first", "heavy", "one"]
theorem sc_l_two : FnScope N_l_two ["deck"] (defScope s_l_two) := ⟨rfl, rfl, rfl, by decide +kernel, rfl, by decide +kernel, by decide +kernel⟩
theorem ok_l_two {f : Addr} {fd : FuncData} (F : Fun K "_law_two" "_law_two" s_l_two f fd) (B : Blt mg) (Cn : Cns mg) (D_l_take : Def P w K mg base 1 "_law_take" ["deck", "many"] R_l_take) (D_l_some_web : Def P w K mg base 4 "_law_some_web" ["deck", "size", "count", "heavy"] R_l_some_web) (D_l_sizes : Def P w K mg base 2 "_law_sizes" ["deck"] R_l_sizes) : FnOk P w K mg base CX0 5 f fd ["deck"] (spR K R_l_two) := by
  refine fn_ok F sc_l_two (fun ds Mc d Mc' h => ?_) (fun cdv A outer s H0 E hr G0 Fr ds Mc d Mc' Q h q => ?_)
  · obtain ⟨a, c, dk, r, rfl, _⟩ := h; rfl
  obtain ⟨a, c, dk, r, rfl, rfl, hm, rfl, rfl⟩ := h
  have nd := sc_l_two.nd
  have hu : (A.deeper (envOfC "_law_two" (defScope s_l_two) s.heap.objs.size f cdv)).units + 64 < cLine := hr.units
  unfold m_l_two at hm
  obtain ⟨v1, h1, hm⟩ := Option.bind_eq_some_iff.mp hm
  refine st_asg (d := ((eP2 D.int D.int) v1.1)) 1 (x_callD (d := ((eP2 D.int D.int) v1.1)) D_l_sizes hr (by decide) [] (Deck.mem a c dk) Fr (Mc' := Deck.mem a c v1.2) (a_cons (x_var 0 rfl) a_nil) ⟨a, c, dk, v1, rfl, rfl, h1, rfl, rfl⟩) ?_ nd
  obtain ⟨v2, h2, hm⟩ := Option.bind_eq_some_iff.mp hm
  refine st_asg (d := ((eP2 D.int D.int) v2.1)) 2 (x_callD (d := ((eP2 D.int D.int) v2.1)) D_l_sizes hr (by decide) [] (Deck.mem a c v1.2) Fr (Mc' := Deck.mem a c v2.2) (a_cons (x_var 0 rfl) a_nil) ⟨a, c, v1.2, v2, rfl, rfl, h2, rfl, rfl⟩) ?_ nd
  obtain ⟨v3, h3, hm⟩ := Option.bind_eq_some_iff.mp hm
  obtain ⟨v4, h4, hm⟩ := Option.bind_eq_some_iff.mp hm
  have h4 := Option.some.inj h4
  refine st_asg (d := (D.int v4)) 3 (x_is (x_add x_int (x_callD (d := (D.int v3.1)) D_l_take hr (by decide) [] (Deck.mem a c v2.2) Fr (Mc' := Deck.mem a c v3.2) (a_cons (x_var 0 rfl) (a_cons x_int a_nil)) ⟨a, c, v2.2, 99, v3, rfl, rfl, h3, rfl, rfl⟩)) (congrArg D.int h4)) ?_ nd
  obtain ⟨v5, h5, hm⟩ := Option.bind_eq_some_iff.mp hm
  refine st_asg (d := ((eLs (eP2 D.int D.int)) ([(9, 11), (11, 9), (99, 1), (1, 99), (3, 33), (1, 1), (v4, v5)]))) 4 (x_frz (n_lst (a_cons (x_tup (a_cons x_int (a_cons x_int a_nil)) (by show (2:Nat) ≤ sizeLine; decide)) (a_cons (x_tup (a_cons x_int (a_cons x_int a_nil)) (by show (2:Nat) ≤ sizeLine; decide)) (a_cons (x_tup (a_cons x_int (a_cons x_int a_nil)) (by show (2:Nat) ≤ sizeLine; decide)) (a_cons (x_tup (a_cons x_int (a_cons x_int a_nil)) (by show (2:Nat) ≤ sizeLine; decide)) (a_cons (x_tup (a_cons x_int (a_cons x_int a_nil)) (by show (2:Nat) ≤ sizeLine; decide)) (a_cons (x_tup (a_cons x_int (a_cons x_int a_nil)) (by show (2:Nat) ≤ sizeLine; decide)) (a_cons (x_tup (a_cons (x_var 3 rfl) (a_cons (x_fdivO x_int (x_var 3 rfl) h5) a_nil)) (by show (2:Nat) ≤ sizeLine; decide)) a_nil))))))) (by show (7:Nat) ≤ sizeLine; decide))) ?_ nd
  obtain ⟨v6, h6, hm⟩ := Option.bind_eq_some_iff.mp hm
  obtain ⟨v7, h7, hm⟩ := Option.bind_eq_some_iff.mp hm
  obtain ⟨v8, h8, hm⟩ := Option.bind_eq_some_iff.mp hm
  obtain ⟨v9, h9, hm⟩ := Option.bind_eq_some_iff.mp hm
  refine st_asg (d := ((eP2 D.int D.int) v9)) 4 (x_ixLm (f := (eP2 D.int D.int)) (xs := v7) (x_frz (n_catQ (f := (eP2 D.int D.int)) (xs := [(9, 11), (11, 9), (99, 1), (1, 99), (3, 33), (1, 1), (v4, v5)]) (ys := [(v6, v4)]) (x_var 4 rfl) (x_frz (n_lst (a_cons (x_tup (a_cons (x_fdivO x_int (x_var 3 rfl) h6) (a_cons (x_var 3 rfl) a_nil)) (by show (2:Nat) ≤ sizeLine; decide)) a_nil) (by show (1:Nat) ≤ sizeLine; decide))) (LsD.lst _) (LsD.lst _) h7)) (x_callD (d := (D.int v8.1)) D_l_take hr (by decide) [] (Deck.mem a c v3.2) Fr (Mc' := Deck.mem a c v8.2) (a_cons (x_var 0 rfl) (a_cons x_int a_nil)) ⟨a, c, v3.2, 8, v8, rfl, rfl, h8, rfl, rfl⟩) h9) ?_ nd
  obtain ⟨v10, h10, hm⟩ := Option.bind_eq_some_iff.mp hm
  refine st_asg (d := ((eP2 (eTs D.str) (eTs (eP3 D.str D.int (eTs D.str)))) v10.1)) 5 (x_callD (d := ((eP2 (eTs D.str) (eTs (eP3 D.str D.int (eTs D.str)))) v10.1)) D_l_some_web hr (by decide) [] (Deck.mem a c v8.2) Fr (Mc' := Deck.mem a c v10.2) (a_cons (x_var 0 rfl) (a_cons (x_ixT (x_var 1 rfl) x_int rfl) (a_cons (x_ixT (x_var 2 rfl) x_int rfl) (a_cons (x_ixT (x_var 4 rfl) x_int rfl) a_nil)))) ⟨a, c, v8.2, v1.1.1, v2.1.1, v9.1, v10, rfl, rfl, h10, rfl, rfl⟩) ?_ nd
  obtain ⟨v11, h11, hm⟩ := Option.bind_eq_some_iff.mp hm
  cases hm
  exact st_ret (x_tup (a_cons (x_var 5 rfl) (a_cons (x_callD (d := ((eP2 (eTs D.str) (eTs (eP3 D.str D.int (eTs D.str)))) v11.1)) D_l_some_web hr (by decide) [] (Deck.mem a c v10.2) Fr (Mc' := Deck.mem a c v11.2) (a_cons (x_var 0 rfl) (a_cons (x_ixT (x_var 1 rfl) x_int rfl) (a_cons (x_ixT (x_var 2 rfl) x_int rfl) (a_cons (x_ixT (x_var 4 rfl) x_int rfl) a_nil)))) ⟨a, c, v10.2, v1.1.2, v2.1.2, v9.2, v11, rfl, rfl, h11, rfl, rfl⟩) a_nil)) (by show (2:Nat) ≤ sizeLine; decide)) (fun v G H e w r => q v G H e (w.dropN 0) r)
noncomputable def m_l_due_l1 (p_one : ((List Str) × (List (Str × Int × (List Str))))) (p_other : ((List Str) × (List (Str × Int × (List Str))))) (v1 : Int) (x25 : Str) (s34 : Str) (x35 : Str) : Option Str :=
  (pindex p_one.1 x25).bind fun v44 => (pmul v44 v1).bind fun v45 => (pindex p_other.1 x35).bind fun v46 => (pixS (Str.ofString "abcdefgh") (v45 + v46)).bind fun v47 => (padd s34 v47).bind fun v48 => some v48
noncomputable def m_l_due_l2 (p_one : ((List Str) × (List (Str × Int × (List Str))))) (p_other : ((List Str) × (List (Str × Int × (List Str))))) (v1 : Int) (x14 : (Str × Int × (List Str))) (s24 : Str) (x25 : Str) : Option Str :=
  (foldO (m_l_due_l1 p_one p_other v1 x25) s24 x14.2.2).bind fun s36 => some s36
noncomputable def m_l_due_l3 (p_one : ((List Str) × (List (Str × Int × (List Str))))) (p_other : ((List Str) × (List (Str × Int × (List Str))))) (v1 : Int) (x4 : (Str × Int × (List Str))) (s13 : (List (Str × Int × (List Str)))) (x14 : (Str × Int × (List Str))) : Option (List (Str × Int × (List Str))) :=
  (some (Str.ofString "")).bind fun v23 => (foldO (m_l_due_l2 p_one p_other v1 x14) v23 x4.2.2).bind fun s26 => (pixS (Str.ofString "abcdefgh") ((s13.length : Nat) : Int)).bind fun v49 => (pmul x4.2.1 x14.2.1).bind fun v50 => (pchars s26).bind fun v51 => (psnoc s13 (v49, v50, v51)).bind fun v52 => some v52
noncomputable def m_l_due_l4 (p_one : ((List Str) × (List (Str × Int × (List Str))))) (p_other : ((List Str) × (List (Str × Int × (List Str))))) (v1 : Int) (s3 : (List (Str × Int × (List Str)))) (x4 : (Str × Int × (List Str))) : Option (List (Str × Int × (List Str))) :=
  (foldO (m_l_due_l3 p_one p_other v1 x4) s3 p_other.2).bind fun s15 => some s15
noncomputable def m_l_due (p_one : ((List Str) × (List (Str × Int × (List Str))))) (p_other : ((List Str) × (List (Str × Int × (List Str))))) : Option ((List Str) × (List (Str × Int × (List Str)))) :=
  (some ((p_other.1.length : Nat) : Int)).bind fun v1 => (foldO (m_l_due_l4 p_one p_other v1) ([] : List (Str × Int × (List Str))) p_one.2).bind fun s5 => (pmul ((p_one.1.length : Nat) : Int) v1).bind fun v53 => (pcutS (Str.ofString "abcdefgh") none (some v53)).bind fun v54 => (pchars v54).bind fun v55 => some (v55, s5)
def R_l_due : List D → Mem → D → Mem → Prop := fun ds Mc d Mc' => ∃ (p_one : ((List Str) × (List (Str × Int × (List Str))))) (p_other : ((List Str) × (List (Str × Int × (List Str))))) (r : ((List Str) × (List (Str × Int × (List Str))))), ds = [((eP2 (eTs D.str) (eTs (eP3 D.str D.int (eTs D.str)))) p_one), ((eP2 (eTs D.str) (eTs (eP3 D.str D.int (eTs D.str)))) p_other)] ∧ Mc = [] ∧ m_l_due p_one p_other = some r ∧ d = ((eP2 (eTs D.str) (eTs (eP3 D.str D.int (eTs D.str)))) r) ∧ Mc' = []
abbrev s_l_due : Stmt := topS 17
abbrev N_l_due : List Str := ["one", "other", "size", "moves", "name", "weight", "images", "second", "more", "others", "led", "state", "beneath", "place"]
theorem sc_l_due : FnScope N_l_due ["one", "other"] (defScope s_l_due) := ⟨rfl, rfl, rfl, by decide +kernel, rfl, by decide +kernel, by decide +kernel⟩
theorem ok_l_due {f : Addr} {fd : FuncData} (F : Fun K "_law_due" "_law_due" s_l_due f fd) (B : Blt mg) (Cn : Cns mg) : FnOk P w K mg base CX0 1 f fd ["one", "other"] (spR K R_l_due) := by
  refine fn_ok F sc_l_due (fun ds Mc d Mc' h => ?_) (fun cdv A outer s H0 E hr G0 Fr ds Mc d Mc' Q h q => ?_)
  · obtain ⟨p_one, p_other, r, rfl, _⟩ := h; rfl
  obtain ⟨p_one, p_other, r, rfl, rfl, hm, rfl, rfl⟩ := h
  have nd := sc_l_due.nd
  have hu : (A.deeper (envOfC "_law_due" (defScope s_l_due) s.heap.objs.size f cdv)).units + 64 < cLine := hr.units
  unfold m_l_due at hm
  obtain ⟨v1, h1, hm⟩ := Option.bind_eq_some_iff.mp hm
  have h1 := Option.some.inj h1
  refine st_asg (d := (D.int v1)) 2 (x_is (x_lenm (f := D.str) (xs := p_other.1) (a_cons (x_ixT (x_var 1 rfl) x_int rfl) a_nil) (SeqD.tup _) B.len) (congrArg D.int h1)) ?_ nd
  refine st_new (o := MO.lst (([] : List (Str × Int × (List Str))).map (eP3 D.str D.int (eTs D.str)))) 3 (n_lst a_nil (by show (0:Nat) ≤ sizeLine; decide)) (fun q2 => ?_) nd
  obtain ⟨s5, hy11, hm⟩ := Option.bind_eq_some_iff.mp hm
  refine st_forO (s0 := ([] : List (Str × Int × (List Str)))) (en := (eP3 D.str D.int (eTs D.str))) (xs := p_one.2) (f := (m_l_due_l4 p_one p_other v1)) (s1 := s5) PassesOwn.never rfl (fun s3 => [some ((eP2 (eTs D.str) (eTs (eP3 D.str D.int (eTs D.str)))) p_one), some ((eP2 (eTs D.str) (eTs (eP3 D.str D.int (eTs D.str)))) p_other), some (D.int v1), some (D.adr q2), none, none, none, none, none, none, none, none, none, none]) (fun s3 => ((q2, MO.lst (s3.map (eP3 D.str D.int (eTs D.str)))) :: ([] ++ Fr))) (i_tup (x_ixT (x_var 0 rfl) x_int rfl)) hy11 (fun G8 e9 s3 x4 s5' hx7 hf6 => ⟨_, _, (g_tup rfl (gs_cons (g_name 4 nd) (gs_cons (g_name 5 nd) (gs_cons (g_name 6 nd) gs_nil)))), ?_⟩) ?_
  · unfold m_l_due_l4 at hf6
    obtain ⟨s15, hy21, hf6⟩ := Option.bind_eq_some_iff.mp hf6
    refine st_forO (s0 := s3) (en := (eP3 D.str D.int (eTs D.str))) (xs := p_other.2) (f := (m_l_due_l3 p_one p_other v1 x4)) (s1 := s15) PassesOwn.never rfl (fun s13 => [some ((eP2 (eTs D.str) (eTs (eP3 D.str D.int (eTs D.str)))) p_one), some ((eP2 (eTs D.str) (eTs (eP3 D.str D.int (eTs D.str)))) p_other), some (D.int v1), some (D.adr q2), some (D.str x4.1), some (D.int x4.2.1), some ((eTs D.str) x4.2.2), none, none, none, none, none, none, none]) (fun s13 => ((q2, MO.lst (s13.map (eP3 D.str D.int (eTs D.str)))) :: ([] ++ Fr))) (i_tup (x_ixT (x_var 1 rfl) x_int rfl)) hy21 (fun G18 e19 s13 x14 s15' hx17 hf16 => ⟨_, _, (g_tup rfl (gs_cons (g_name 7 nd) (gs_cons (g_name 8 nd) (gs_cons (g_name 9 nd) gs_nil)))), ?_⟩) ?_
    · unfold m_l_due_l3 at hf16
      obtain ⟨v23, h23, hf16⟩ := Option.bind_eq_some_iff.mp hf16
      have h23 := Option.some.inj h23
      refine st_asg (d := (D.str v23)) 10 (x_is x_str (congrArg D.str h23)) ?_ nd
      obtain ⟨s26, hy32, hf16⟩ := Option.bind_eq_some_iff.mp hf16
      refine st_forO (s0 := v23) (en := D.str) (xs := x4.2.2) (f := (m_l_due_l2 p_one p_other v1 x14)) (s1 := s26) PassesOwn.never rfl (fun s24 => [some ((eP2 (eTs D.str) (eTs (eP3 D.str D.int (eTs D.str)))) p_one), some ((eP2 (eTs D.str) (eTs (eP3 D.str D.int (eTs D.str)))) p_other), some (D.int v1), some (D.adr q2), some (D.str x4.1), some (D.int x4.2.1), some ((eTs D.str) x4.2.2), some (D.str x14.1), some (D.int x14.2.1), some ((eTs D.str) x14.2.2), some (D.str s24), none, none, none]) (fun s24 => ((q2, MO.lst (s13.map (eP3 D.str D.int (eTs D.str)))) :: ([] ++ Fr))) (i_tup (x_var 6 rfl)) hy32 (fun G29 e30 s24 x25 s26' hx28 hf27 => ⟨_, _, (g_name 11 nd), ?_⟩) ?_
      · unfold m_l_due_l2 at hf27
        obtain ⟨s36, hy42, hf27⟩ := Option.bind_eq_some_iff.mp hf27
        refine st_forO (s0 := s24) (en := D.str) (xs := x14.2.2) (f := (m_l_due_l1 p_one p_other v1 x25)) (s1 := s36) PassesOwn.never rfl (fun s34 => [some ((eP2 (eTs D.str) (eTs (eP3 D.str D.int (eTs D.str)))) p_one), some ((eP2 (eTs D.str) (eTs (eP3 D.str D.int (eTs D.str)))) p_other), some (D.int v1), some (D.adr q2), some (D.str x4.1), some (D.int x4.2.1), some ((eTs D.str) x4.2.2), some (D.str x14.1), some (D.int x14.2.1), some ((eTs D.str) x14.2.2), some (D.str s34), some (D.str x25), none, none]) (fun s34 => ((q2, MO.lst (s13.map (eP3 D.str D.int (eTs D.str)))) :: ([] ++ Fr))) (i_tup (x_var 9 rfl)) hy42 (fun G39 e40 s34 x35 s36' hx38 hf37 => ⟨_, _, (g_name 12 nd), ?_⟩) ?_
        · unfold m_l_due_l1 at hf37
          obtain ⟨v44, h44, hf37⟩ := Option.bind_eq_some_iff.mp hf37
          obtain ⟨v45, h45, hf37⟩ := Option.bind_eq_some_iff.mp hf37
          refine st_asg (d := (D.int v45)) 13 (x_mulO (x_indexTS (x_ixT (x_var 0 rfl) x_int rfl) (a_cons (x_var 11 rfl) a_nil) h44) (x_var 2 rfl) h45) ?_ nd
          obtain ⟨v46, h46, hf37⟩ := Option.bind_eq_some_iff.mp hf37
          obtain ⟨v47, h47, hf37⟩ := Option.bind_eq_some_iff.mp hf37
          obtain ⟨v48, h48, hf37⟩ := Option.bind_eq_some_iff.mp hf37
          refine st_asg (d := (D.str v48)) 10 (x_addSO (x_var 10 rfl) (x_ixSm x_str (x_add (x_var 13 rfl) (x_indexTS (x_ixT (x_var 1 rfl) x_int rfl) (a_cons (x_var 12 rfl) a_nil) h46)) h47) h48) ?_ nd
          cases hf37
          exact st_end (fun σ H a => (a.wipe [12, 13]))
        cases hf27
        exact st_end (fun σ H a => (a.wipe [11]))
      obtain ⟨v49, h49, hf16⟩ := Option.bind_eq_some_iff.mp hf16
      obtain ⟨v50, h50, hf16⟩ := Option.bind_eq_some_iff.mp hf16
      obtain ⟨v51, h51, hf16⟩ := Option.bind_eq_some_iff.mp hf16
      obtain ⟨v52, h52, hf16⟩ := Option.bind_eq_some_iff.mp hf16
      refine st_expr (x_appendO (f := (eP3 D.str D.int (eTs D.str))) (xs := s13) (v := (v49, v50, v51)) 0 (x_var 3 rfl) (a_cons (x_tup (a_cons (x_ixSm x_str (x_lenm (f := (eP3 D.str D.int (eTs D.str))) (xs := s13) (a_cons (x_var 3 rfl) a_nil) (SeqD.own 0 q2 (s13.map (eP3 D.str D.int (eTs D.str))) rfl) B.len) h49) (a_cons (x_mulO (x_var 5 rfl) (x_var 8 rfl) h50) (a_cons (x_tupleOf (a_cons (x_frz (n_listStr rfl (a_cons (x_var 10 rfl) a_nil) h51 B.list)) a_nil) (SeqD.lst _) B.tuple) a_nil))) (by show (3:Nat) ≤ sizeLine; decide)) a_nil) rfl rfl h52) ?_
      cases hf16
      exact st_end (fun σ H a => (a.wipe [7, 8, 9, 10]))
    cases hf6
    exact st_end (fun σ H a => (a.wipe [4, 5, 6]))
  obtain ⟨v53, h53, hm⟩ := Option.bind_eq_some_iff.mp hm
  obtain ⟨v54, h54, hm⟩ := Option.bind_eq_some_iff.mp hm
  obtain ⟨v55, h55, hm⟩ := Option.bind_eq_some_iff.mp hm
  cases hm
  exact st_ret (x_tup (a_cons (x_tupleOf (a_cons (x_frz (n_listStr rfl (a_cons (x_slSO x_str o_none (o_some (x_mulO (x_lenm (f := D.str) (xs := p_one.1) (a_cons (x_ixT (x_var 0 rfl) x_int rfl) a_nil) (SeqD.tup _) B.len) (x_var 2 rfl) h53)) h54) a_nil) h55 B.list)) a_nil) (SeqD.lst _) B.tuple) (a_cons (x_tupleOf (a_cons (x_var 3 rfl) a_nil) (SeqD.own 0 q2 (s5.map (eP3 D.str D.int (eTs D.str))) rfl) B.tuple) a_nil)) (by show (2:Nat) ≤ sizeLine; decide)) (fun v G H e w r => q v G H e (w.dropN 1) r)
noncomputable def m_beside_l1 (x7 : Str) (s16 : (List ((Str × Str) × Str))) (x17 : Str) : Option (List ((Str × Str) × Str)) :=
  (pixS (Str.ofString "abcdefghijklmnopqrstuvwxyz") ((s16.length : Nat) : Int)).bind fun v26 => (dput s16 (x7, x17) v26).bind fun v27 => some v27
noncomputable def m_beside_l2 (p_other : ((List Str) × (List (Str × Int × (List Str))))) (s6 : (List ((Str × Str) × Str))) (x7 : Str) : Option (List ((Str × Str) × Str)) :=
  (foldO (m_beside_l1 x7) s6 p_other.1).bind fun s18 => some s18
noncomputable def m_beside_c3 (s8 : (List ((Str × Str) × Str))) (x51 : Str) (x61 : Str) :=
  (dget s8 (x51, x61)).bind fun v65 => some v65
noncomputable def m_beside_l4 (s8 : (List ((Str × Str) × Str))) (x40 : (Str × Int × (List Str))) (s50 : (List Str)) (x51 : Str) : Option (List Str) :=
  (pfit x40.2.2.length ()).bind fun v60 => (mapO (m_beside_c3 s8 x51) x40.2.2).bind fun v68 => (pcat s50 v68).bind fun v69 => some v69
noncomputable def m_beside_l5 (s8 : (List ((Str × Str) × Str))) (x30 : (Str × Int × (List Str))) (s39 : (List (Str × Int × (List Str)))) (x40 : (Str × Int × (List Str))) : Option (List (Str × Int × (List Str))) :=
  (foldO (m_beside_l4 s8 x40) ([] : List Str) x30.2.2).bind fun s52 => (pixS (Str.ofString "abcdefghijklmnopqrstuvwxyz") ((s39.length : Nat) : Int)).bind fun v70 => (pmul x30.2.1 x40.2.1).bind fun v71 => (psnoc s39 (v70, v71, s52)).bind fun v72 => some v72
noncomputable def m_beside_l6 (p_other : ((List Str) × (List (Str × Int × (List Str))))) (s8 : (List ((Str × Str) × Str))) (s29 : (List (Str × Int × (List Str)))) (x30 : (Str × Int × (List Str))) : Option (List (Str × Int × (List Str))) :=
  (foldO (m_beside_l5 s8 x30) s29 p_other.2).bind fun s41 => some s41
noncomputable def m_beside (p_one : ((List Str) × (List (Str × Int × (List Str))))) (p_other : ((List Str) × (List (Str × Int × (List Str))))) : Option ((List Str) × (List (Str × Int × (List Str)))) :=
  (pmul ((p_one.1.length : Nat) : Int) ((p_other.1.length : Nat) : Int)).bind fun v1 => ((if (decide (8 < v1)) = true then some true else (pmul ((p_one.2.length : Nat) : Int) ((p_other.2.length : Nat) : Int)).bind fun v2 => some (decide (8 < v2)) : Option Bool)).bind fun v3 => if v3 = true then (none) else ((foldO (m_beside_l2 p_other) ([] : (List ((Str × Str) × Str))) p_one.1).bind fun s8 => (foldO (m_beside_l6 p_other s8) ([] : List (Str × Int × (List Str))) p_one.2).bind fun s31 => (pfit s31.length ()).bind fun v73 => (peq ((eLs (eP3 D.str D.int (eTs D.str))) ((s31.filter (fun x74 => (decide (99 < x74.2.1)))).map (fun x74 => x74))) ((eLs (eP3 D.str D.int (eTs D.str))) ([] : List (Str × Int × (List Str))))).bind fun v80 => if (!v80) = true then (none) else (some ((s8.map (·.2)), s31)))
def R_beside : List D → Mem → D → Mem → Prop := fun ds Mc d Mc' => ∃ (p_one : ((List Str) × (List (Str × Int × (List Str))))) (p_other : ((List Str) × (List (Str × Int × (List Str))))) (r : ((List Str) × (List (Str × Int × (List Str))))), ds = [((eP2 (eTs D.str) (eTs (eP3 D.str D.int (eTs D.str)))) p_one), ((eP2 (eTs D.str) (eTs (eP3 D.str D.int (eTs D.str)))) p_other)] ∧ Mc = [] ∧ m_beside p_one p_other = some r ∧ d = ((eP2 (eTs D.str) (eTs (eP3 D.str D.int (eTs D.str)))) r) ∧ Mc' = []
abbrev s_beside : Stmt := topS 7
abbrev N_beside : List Str := ["one", "other", "names", "first", "second", "moves", "move", "weight", "images", "name", "more", "others", "led"]
theorem sc_beside : FnScope N_beside ["one", "other"] (defScope s_beside) := ⟨rfl, rfl, rfl, by decide +kernel, rfl, by decide +kernel, by decide +kernel⟩
theorem ok_beside {f : Addr} {fd : FuncData} (F : Fun K "beside" "beside" s_beside f fd) (B : Blt mg) (Cn : Cns mg) : FnOk P w K mg base CX0 1 f fd ["one", "other"] (spR K R_beside) := by
  refine fn_ok F sc_beside (fun ds Mc d Mc' h => ?_) (fun cdv A outer s H0 E hr G0 Fr ds Mc d Mc' Q h q => ?_)
  · obtain ⟨p_one, p_other, r, rfl, _⟩ := h; rfl
  obtain ⟨p_one, p_other, r, rfl, rfl, hm, rfl, rfl⟩ := h
  have nd := sc_beside.nd
  have hu : (A.deeper (envOfC "beside" (defScope s_beside) s.heap.objs.size f cdv)).units + 64 < cLine := hr.units
  unfold m_beside at hm
  obtain ⟨v1, h1, hm⟩ := Option.bind_eq_some_iff.mp hm
  obtain ⟨v3, h3, hm⟩ := Option.bind_eq_some_iff.mp hm
  refine st_if (k := v3) (t_w (w_or (t_cmp (c_gt (x_mulO (x_lenm (f := D.str) (xs := p_one.1) (a_cons (x_ixT (x_var 0 rfl) x_int rfl) a_nil) (SeqD.tup _) B.len) (x_lenm (f := D.str) (xs := p_other.1) (a_cons (x_ixT (x_var 1 rfl) x_int rfl) a_nil) (SeqD.tup _) B.len) h1) (x_gIe Cn.c_MOST))) (fun hk => by have h3 := (if_neg (nf hk)).symm.trans h3; obtain ⟨v2, h2, h3⟩ := Option.bind_eq_some_iff.mp h3; cases h3; exact (w_or1 (t_cmp (c_gt (x_mulO (x_lenm (f := (eP3 D.str D.int (eTs D.str))) (xs := p_one.2) (a_cons (x_ixT (x_var 0 rfl) x_int rfl) a_nil) (SeqD.tup _) B.len) (x_lenm (f := (eP3 D.str D.int (eTs D.str))) (xs := p_other.2) (a_cons (x_ixT (x_var 1 rfl) x_int rfl) a_nil) (SeqD.tup _) B.len) h2) (x_gIe Cn.c_MOST))))) (fun hk => by have h3 := (if_pos hk).symm.trans h3; cases h3; exact ⟨rfl, rfl⟩))) (fun hc4 => ?_) (fun hc4 => ?_)
  · have hm := (if_pos hc4).symm.trans hm
    cases hm
  · have hm := (if_neg (nf hc4)).symm.trans hm
    refine st_go ?_
    refine st_new (o := mDT (kP2 Sum.inr Sum.inr) D.str ([] : (List ((Str × Str) × Str)))) 2 n_dctT (fun q5 => ?_) nd
    obtain ⟨s8, hy14, hm⟩ := Option.bind_eq_some_iff.mp hm
    refine st_forO (s0 := ([] : (List ((Str × Str) × Str)))) (en := D.str) (xs := p_one.1) (f := (m_beside_l2 p_other)) (s1 := s8) PassesOwn.never rfl (fun s6 => [some ((eP2 (eTs D.str) (eTs (eP3 D.str D.int (eTs D.str)))) p_one), some ((eP2 (eTs D.str) (eTs (eP3 D.str D.int (eTs D.str)))) p_other), some (D.adr q5), none, none, none, none, none, none, none, none, none, none]) (fun s6 => ((q5, (mDT (kP2 Sum.inr Sum.inr) D.str s6)) :: ([] ++ Fr))) (i_tup (x_ixT (x_var 0 rfl) x_int rfl)) hy14 (fun G11 e12 s6 x7 s8' hx10 hf9 => ⟨_, _, (g_name 3 nd), ?_⟩) ?_
    · unfold m_beside_l2 at hf9
      obtain ⟨s18, hy24, hf9⟩ := Option.bind_eq_some_iff.mp hf9
      refine st_forO (s0 := s6) (en := D.str) (xs := p_other.1) (f := (m_beside_l1 x7)) (s1 := s18) PassesOwn.never rfl (fun s16 => [some ((eP2 (eTs D.str) (eTs (eP3 D.str D.int (eTs D.str)))) p_one), some ((eP2 (eTs D.str) (eTs (eP3 D.str D.int (eTs D.str)))) p_other), some (D.adr q5), some (D.str x7), none, none, none, none, none, none, none, none, none]) (fun s16 => ((q5, (mDT (kP2 Sum.inr Sum.inr) D.str s16)) :: ([] ++ Fr))) (i_tup (x_ixT (x_var 1 rfl) x_int rfl)) hy24 (fun G21 e22 s16 x17 s18' hx20 hf19 => ⟨_, _, (g_name 4 nd), ?_⟩) ?_
      · unfold m_beside_l1 at hf19
        obtain ⟨v26, h26, hf19⟩ := Option.bind_eq_some_iff.mp hf19
        obtain ⟨v27, h27, hf19⟩ := Option.bind_eq_some_iff.mp hf19
        refine st_dput (kf := (kP2 Sum.inr Sum.inr)) (vf := D.str) (al := s16) (key := (x7, x17)) (v := v26) (hu1 hu) (fun _ _ => kP2_ss) 0 (x_ixSm (x_gSe Cn.c_LETTERS) (x_lenDT (kf := (kP2 Sum.inr Sum.inr)) (vf := D.str) (al := s16) 0 (a_cons (x_var 2 rfl) a_nil) rfl B.len) h26) (x_var 2 rfl) (x_ktup (a_cons (x_var 3 rfl) (a_cons (x_var 4 rfl) a_nil)) (by show (2:Nat) ≤ sizeLine; decide)) rfl h27 ?_
        cases hf19
        exact st_end (fun σ H a => (a.wipe [4]))
      cases hf9
      exact st_end (fun σ H a => (a.wipe [3]))
    refine st_new (o := MO.lst (([] : List (Str × Int × (List Str))).map (eP3 D.str D.int (eTs D.str)))) 5 (n_lst a_nil (by show (0:Nat) ≤ sizeLine; decide)) (fun q28 => ?_) nd
    obtain ⟨s31, hy37, hm⟩ := Option.bind_eq_some_iff.mp hm
    refine st_forO (s0 := ([] : List (Str × Int × (List Str)))) (en := (eP3 D.str D.int (eTs D.str))) (xs := p_one.2) (f := (m_beside_l6 p_other s8)) (s1 := s31) PassesOwn.never rfl (fun s29 => [some ((eP2 (eTs D.str) (eTs (eP3 D.str D.int (eTs D.str)))) p_one), some ((eP2 (eTs D.str) (eTs (eP3 D.str D.int (eTs D.str)))) p_other), some (D.adr q5), none, none, some (D.adr q28), none, none, none, none, none, none, none]) (fun s29 => ((q28, MO.lst (s29.map (eP3 D.str D.int (eTs D.str)))) :: ((q5, (mDT (kP2 Sum.inr Sum.inr) D.str s8)) :: ([] ++ Fr)))) (i_tup (x_ixT (x_var 0 rfl) x_int rfl)) hy37 (fun G34 e35 s29 x30 s31' hx33 hf32 => ⟨_, _, (g_tup rfl (gs_cons (g_name 6 nd) (gs_cons (g_name 7 nd) (gs_cons (g_name 8 nd) gs_nil)))), ?_⟩) ?_
    · unfold m_beside_l6 at hf32
      obtain ⟨s41, hy47, hf32⟩ := Option.bind_eq_some_iff.mp hf32
      refine st_forO (s0 := s29) (en := (eP3 D.str D.int (eTs D.str))) (xs := p_other.2) (f := (m_beside_l5 s8 x30)) (s1 := s41) PassesOwn.never rfl (fun s39 => [some ((eP2 (eTs D.str) (eTs (eP3 D.str D.int (eTs D.str)))) p_one), some ((eP2 (eTs D.str) (eTs (eP3 D.str D.int (eTs D.str)))) p_other), some (D.adr q5), none, none, some (D.adr q28), some (D.str x30.1), some (D.int x30.2.1), some ((eTs D.str) x30.2.2), none, none, none, none]) (fun s39 => ((q28, MO.lst (s39.map (eP3 D.str D.int (eTs D.str)))) :: ((q5, (mDT (kP2 Sum.inr Sum.inr) D.str s8)) :: ([] ++ Fr)))) (i_tup (x_ixT (x_var 1 rfl) x_int rfl)) hy47 (fun G44 e45 s39 x40 s41' hx43 hf42 => ⟨_, _, (g_tup rfl (gs_cons (g_name 9 nd) (gs_cons (g_name 10 nd) (gs_cons (g_name 11 nd) gs_nil)))), ?_⟩) ?_
      · unfold m_beside_l5 at hf42
        refine st_new (o := MO.lst (([] : List Str).map D.str)) 12 (n_lst a_nil (by show (0:Nat) ≤ sizeLine; decide)) (fun q49 => ?_) nd
        obtain ⟨s52, hy58, hf42⟩ := Option.bind_eq_some_iff.mp hf42
        refine st_forO (s0 := ([] : List Str)) (en := D.str) (xs := x30.2.2) (f := (m_beside_l4 s8 x40)) (s1 := s52) PassesOwn.never rfl (fun s50 => [some ((eP2 (eTs D.str) (eTs (eP3 D.str D.int (eTs D.str)))) p_one), some ((eP2 (eTs D.str) (eTs (eP3 D.str D.int (eTs D.str)))) p_other), some (D.adr q5), none, none, some (D.adr q28), some (D.str x30.1), some (D.int x30.2.1), some ((eTs D.str) x30.2.2), some (D.str x40.1), some (D.int x40.2.1), some ((eTs D.str) x40.2.2), some (D.adr q49)]) (fun s50 => ((q49, MO.lst (s50.map D.str)) :: ((q28, MO.lst (s39.map (eP3 D.str D.int (eTs D.str)))) :: ((q5, (mDT (kP2 Sum.inr Sum.inr) D.str s8)) :: ([] ++ Fr))))) (i_tup (x_var 8 rfl)) hy58 (fun G55 e56 s50 x51 s52' hx54 hf53 => ⟨_, _, (g_name 3 nd), ?_⟩) ?_
        · unfold m_beside_l4 at hf53
          obtain ⟨v60, h60, hf53⟩ := Option.bind_eq_some_iff.mp hf53
          obtain ⟨v68, h68, hf53⟩ := Option.bind_eq_some_iff.mp hf53
          obtain ⟨v69, h69, hf53⟩ := Option.bind_eq_some_iff.mp hf53
          refine st_expr (x_extendO (f := D.str) (xs := s50) (zs := v68) 0 (x_var 12 rfl) (a_cons (x_frz (n_lc (own := [("second", 4)]) (l_O (en2 := D.str) (en := D.str) (xs := x40.2.2) (ys := v68) (f := (m_beside_c3 s8 x51)) [("second", 4)] (i_tup (x_var 11 rfl)) h68 (Nat.le_of_lt (pfit_some h60).1) (fun x61 y67 hx66 h => by unfold m_beside_c3 at h; obtain ⟨v65, h65, h⟩ := Option.bind_eq_some_iff.mp h; cases h; exact ⟨_, fun _ _ _ _ _ => (g_name 4 nd), fun _ _ _ _ _ q63 acc62 => (x_dget (kf := (kP2 Sum.inr Sum.inr)) (vf := D.str) (al := s8) (key := (x51, x61)) (hu1 hu) (fun _ _ => kP2_ss) 3 (x_var 2 rfl) (x_ktup (a_cons (x_var 3 rfl) (a_cons (x_var 4 rfl) a_nil)) (by show (2:Nat) ≤ sizeLine; decide)) rfl h65)⟩)) rfl nd (blkOk_by (N := N_beside) (sc := defScope s_beside) (by decide +kernel)))) a_nil) rfl rfl h69) ?_
          cases hf53
          exact st_end (fun σ H a => (a.wipe [3]))
        obtain ⟨v70, h70, hf42⟩ := Option.bind_eq_some_iff.mp hf42
        obtain ⟨v71, h71, hf42⟩ := Option.bind_eq_some_iff.mp hf42
        obtain ⟨v72, h72, hf42⟩ := Option.bind_eq_some_iff.mp hf42
        refine st_expr (x_appendO (f := (eP3 D.str D.int (eTs D.str))) (xs := s39) (v := (v70, v71, s52)) 1 (x_var 5 rfl) (a_cons (x_tup (a_cons (x_ixSm (x_gSe Cn.c_LETTERS) (x_lenm (f := (eP3 D.str D.int (eTs D.str))) (xs := s39) (a_cons (x_var 5 rfl) a_nil) (SeqD.own 1 q28 (s39.map (eP3 D.str D.int (eTs D.str))) rfl) B.len) h70) (a_cons (x_mulO (x_var 7 rfl) (x_var 10 rfl) h71) (a_cons (x_tupleOf (a_cons (x_var 12 rfl) a_nil) (SeqD.own 0 q49 (s52.map D.str) rfl) B.tuple) a_nil))) (by show (3:Nat) ≤ sizeLine; decide)) a_nil) rfl rfl h72) ?_
        cases hf42
        exact st_end (fun σ H a => ((a.wipe [9, 10, 11, 12]).dropN 1))
      cases hf32
      exact st_end (fun σ H a => (a.wipe [6, 7, 8]))
    refine st_frz (ds := s31.map (eP3 D.str D.int (eTs D.str))) 5 0 rfl rfl ?_
    obtain ⟨v73, h73, hm⟩ := Option.bind_eq_some_iff.mp hm
    obtain ⟨v80, h80, hm⟩ := Option.bind_eq_some_iff.mp hm
    refine st_if (k := (!v80)) (t_cmp (c_neQ hu (x_frz (n_lc (own := [("move", 6)]) (l_F (en2 := (eP3 D.str D.int (eTs D.str))) (en := (eP3 D.str D.int (eTs D.str))) (xs := s31) (g := (fun x74 => x74)) (pr := (fun x74 => (decide (99 < x74.2.1)))) [("move", 6)] (i_lst (x_var 5 rfl)) (Nat.le_of_lt (pfit_some h73).1) (fun x74 hx78 => ⟨_, fun _ _ _ _ _ => (g_name 6 nd), fun _ _ _ _ _ q76 acc75 => (ts_one (t_cmp (c_gt (x_ixT (x_var 6 rfl) x_int rfl) (x_gIe Cn.c_MOST_WEIGHT)))), fun _ _ _ _ _ _ q76 acc75 => (x_var 6 rfl)⟩)) rfl nd (blkOk_by (N := N_beside) (sc := defScope s_beside) (by decide +kernel)))) (x_frz (n_lst a_nil (by show (0:Nat) ≤ sizeLine; decide))) (RdD.self _) (RdD.self _) h80)) (fun hc81 => ?_) (fun hc81 => ?_)
    · have hm := (if_pos hc81).symm.trans hm
      cases hm
    · have hm := (if_neg (nf hc81)).symm.trans hm
      refine st_go ?_
      cases hm
      exact st_ret (x_tup (a_cons (x_is (x_tupVals (kf := (kP2 Sum.inr Sum.inr)) (vf := D.str) (al := s8) rfl 0 (x_var 2 rfl) rfl B.tuple) (congrArg D.tup (map_snd _ _).symm)) (a_cons (x_tupleOf (a_cons (x_var 5 rfl) a_nil) (SeqD.lst _) B.tuple) a_nil)) (by show (2:Nat) ≤ sizeLine; decide)) (fun v G H e w r => q v G H e (w.dropN 1) r)
noncomputable def m_law_l1 (s5 : Deck) (x6 : Int) : Option (Fl Deck Bool) :=
  (m_l_two s5 ).bind fun v15 => (m_l_due v15.1.1 v15.1.2).bind fun v16 => (m_beside v15.1.1 v15.1.2).bind fun v17 => (m_l_same ((eP2 (eTs D.str) (eTs (eP3 D.str D.int (eTs D.str)))) v17) ((eP2 (eTs D.str) (eTs (eP3 D.str D.int (eTs D.str)))) v16)).bind fun v18 => ((if (!v18) = true then some true else (m_beside v15.1.1 v15.1.2).bind fun v19 => (m_l_same ((eP2 (eTs D.str) (eTs (eP3 D.str D.int (eTs D.str)))) v19) ((eP2 (eTs D.str) (eTs (eP3 D.str D.int (eTs D.str)))) v16)).bind fun v20 => some (!v20) : Option Bool)).bind fun v21 => if v21 = true then (some (Fl.rt false)) else (some (Fl.nx v15.2))
noncomputable def m_law (p_script : (List Int)) : Option Bool :=
  (m_l_deck p_script).bind fun v1 => (prng 0 8).bind fun v4 => (forR m_law_l1 v1 v4).bind fun y12 => (match y12 with | .rt r23 => some r23 | .nx s7 => some true)
def R_law : List D → Mem → D → Mem → Prop := fun ds Mc d Mc' => ∃ (p_script : (List Int)) (r : Bool), ds = [(D.rlst (p_script.map D.int))] ∧ Mc = [] ∧ m_law p_script = some r ∧ d = (D.bl r) ∧ Mc' = []
abbrev s_law : Stmt := topS 19
abbrev N_law : List Str := ["script", "deck", "turn", "one", "other", "due"]
theorem sc_law : FnScope N_law ["script"] (defScope s_law) := ⟨rfl, rfl, rfl, by decide +kernel, rfl, by decide +kernel, by decide +kernel⟩
theorem ok_law {f : Addr} {fd : FuncData} (F : Fun K "law" "law" s_law f fd) (B : Blt mg) (Cn : Cns mg) (D_l_deck : DefDk P w K mg base 1 "_law_deck" ["script"] R_l_deck) (D_l_two : Def P w K mg base 5 "_law_two" ["deck"] R_l_two) (D_l_due : Def P w K mg base 1 "_law_due" ["one", "other"] R_l_due) (D_beside : Def P w K mg base 1 "beside" ["one", "other"] R_beside) (D_l_same : Def P w K mg base 5 "_law_same" ["found", "due"] R_l_same) : FnOk P w K mg base CX0 6 f fd ["script"] (spR K R_law) := by
  refine fn_ok F sc_law (fun ds Mc d Mc' h => ?_) (fun cdv A outer s H0 E hr G0 Fr ds Mc d Mc' Q h q => ?_)
  · obtain ⟨p_script, r, rfl, _⟩ := h; rfl
  obtain ⟨p_script, r, rfl, rfl, hm, rfl, rfl⟩ := h
  have nd := sc_law.nd
  have hu : (A.deeper (envOfC "law" (defScope s_law) s.heap.objs.size f cdv)).units + 64 < cLine := hr.units
  unfold m_law at hm
  obtain ⟨v1, h1, hm⟩ := Option.bind_eq_some_iff.mp hm
  refine st_newDk 1 (x_callDk D_l_deck hr (by decide) (a_cons (x_var 0 rfl) a_nil) ⟨p_script, rfl, h1⟩) (fun a2 c3 => ?_) nd
  obtain ⟨v4, h4, hm⟩ := Option.bind_eq_some_iff.mp hm
  obtain ⟨y12, hy13, hm⟩ := Option.bind_eq_some_iff.mp hm
  refine st_forR (s0 := v1) (en := D.int) (xs := v4) (f := m_law_l1) (y := y12) PassesOwn.never rfl (fun s5 => [some (D.rlst (p_script.map D.int)), some (D.adr a2), none, none, none, none]) (fun s5 => (Deck.mem a2 c3 s5 ++ ([] ++ Fr))) (i_rng1O (a_cons x_int a_nil) h4 B.range) hy13 (fun G10 e11 s5 x6 s7' hx9 hf8 hz14 => ⟨_, _, (g_name 2 nd), ?_⟩) (fun s7 hs => ?_)
  · unfold m_law_l1 at hf8
    obtain ⟨v15, h15, hf8⟩ := Option.bind_eq_some_iff.mp hf8
    refine st_asgG (d := ((eP2 (eP2 (eTs D.str) (eTs (eP3 D.str D.int (eTs D.str)))) (eP2 (eTs D.str) (eTs (eP3 D.str D.int (eTs D.str))))) v15.1)) (x_callD (d := ((eP2 (eP2 (eTs D.str) (eTs (eP3 D.str D.int (eTs D.str)))) (eP2 (eTs D.str) (eTs (eP3 D.str D.int (eTs D.str))))) v15.1)) D_l_two hr (by decide) [] (Deck.mem a2 c3 s5) ([] ++ Fr) (Mc' := Deck.mem a2 c3 v15.2) (a_cons (x_var 1 rfl) a_nil) ⟨a2, c3, s5, v15, rfl, rfl, h15, rfl, rfl⟩) (g_tup rfl (gs_cons (g_name 3 nd) (gs_cons (g_name 4 nd) gs_nil))) ?_
    obtain ⟨v16, h16, hf8⟩ := Option.bind_eq_some_iff.mp hf8
    refine st_asg (d := ((eP2 (eTs D.str) (eTs (eP3 D.str D.int (eTs D.str)))) v16)) 5 (x_callD (d := ((eP2 (eTs D.str) (eTs (eP3 D.str D.int (eTs D.str)))) v16)) D_l_due hr (by decide) [] [] (Deck.mem a2 c3 v15.2 ++ ([] ++ Fr)) (Mc' := []) (a_cons (x_var 3 rfl) (a_cons (x_var 4 rfl) a_nil)) ⟨v15.1.1, v15.1.2, v16, rfl, rfl, h16, rfl, rfl⟩) ?_ nd
    obtain ⟨v17, h17, hf8⟩ := Option.bind_eq_some_iff.mp hf8
    obtain ⟨v18, h18, hf8⟩ := Option.bind_eq_some_iff.mp hf8
    obtain ⟨v21, h21, hf8⟩ := Option.bind_eq_some_iff.mp hf8
    refine st_if (k := v21) (t_w (w_or (t_not (t_val (x_callD (d := (D.bl v18)) D_l_same hr (by decide) [] [] (Deck.mem a2 c3 v15.2 ++ ([] ++ Fr)) (Mc' := []) (a_cons (x_callD (d := ((eP2 (eTs D.str) (eTs (eP3 D.str D.int (eTs D.str)))) v17)) D_beside hr (by decide) [] [] (Deck.mem a2 c3 v15.2 ++ ([] ++ Fr)) (Mc' := []) (a_cons (x_var 3 rfl) (a_cons (x_var 4 rfl) a_nil)) ⟨v15.1.1, v15.1.2, v17, rfl, rfl, h17, rfl, rfl⟩) (a_cons (x_var 5 rfl) a_nil)) ⟨((eP2 (eTs D.str) (eTs (eP3 D.str D.int (eTs D.str)))) v17), ((eP2 (eTs D.str) (eTs (eP3 D.str D.int (eTs D.str)))) v16), v18, rfl, rfl, h18, rfl, rfl⟩))) (fun hk => by have h21 := (if_neg (nf hk)).symm.trans h21; obtain ⟨v19, h19, h21⟩ := Option.bind_eq_some_iff.mp h21; obtain ⟨v20, h20, h21⟩ := Option.bind_eq_some_iff.mp h21; cases h21; exact (w_or1 (t_not (t_val (x_callD (d := (D.bl v20)) D_l_same hr (by decide) [] [] (Deck.mem a2 c3 v15.2 ++ ([] ++ Fr)) (Mc' := []) (a_cons (x_callD (d := ((eP2 (eTs D.str) (eTs (eP3 D.str D.int (eTs D.str)))) v19)) D_beside hr (by decide) [] [] (Deck.mem a2 c3 v15.2 ++ ([] ++ Fr)) (Mc' := []) (a_cons (x_var 3 rfl) (a_cons (x_var 4 rfl) a_nil)) ⟨v15.1.1, v15.1.2, v19, rfl, rfl, h19, rfl, rfl⟩) (a_cons (x_var 5 rfl) a_nil)) ⟨((eP2 (eTs D.str) (eTs (eP3 D.str D.int (eTs D.str)))) v19), ((eP2 (eTs D.str) (eTs (eP3 D.str D.int (eTs D.str)))) v16), v20, rfl, rfl, h20, rfl, rfl⟩))))) (fun hk => by have h21 := (if_pos hk).symm.trans h21; cases h21; exact ⟨rfl, rfl⟩))) (fun hc22 => ?_) (fun hc22 => ?_)
    · have hf8 := (if_pos hc22).symm.trans hf8
      cases hf8
      have hy := hz14 _ rfl; subst hy
      cases hm
      exact st_ret x_bl (fun v G H e w r => q v G H (e11.trans e) (w.dropN 2) r)
    · have hf8 := (if_neg (nf hc22)).symm.trans hf8
      refine st_go ?_
      cases hf8
      exact st_end (fun σ H a => ⟨_, rfl, (a.wipe [2, 3, 4, 5])⟩)
  subst hs
  cases hm
  exact st_ret x_bl (fun v G H e w r => q v G H e (w.dropN 2) r)
end
end K66

namespace K66
open PySem PySem.Spec PyProof.Rows L2 Evl Wk
/-! the deck's plain laws -/
def DeckOk (k : Deck) : Prop := 0 < k.cells.length ∧ k.cells.length ≤ 64
theorem take_ok {k : Deck} {many : Int} (h : DeckOk k) (h0 : 0 < many) (h1 : many < 2 ^ 64) : Ok (m_l_take k many) (fun r => (0 ≤ r.1 ∧ r.1 < many) ∧ DeckOk r.2) := by
  unfold m_l_take
  obtain ⟨hc, hc2⟩ := h
  refine Ok.bind (ok_mod (by omega)) fun v1 ⟨_, b1, b2⟩ => Ok.bind (ok_pix b1 b2) fun v2 _ => Ok.itep (fun _ => ?_) fun _ => ?_
  · refine Ok.bind (ok_mod (by decide)) fun v3 ⟨_, _, _⟩ => Ok.bind (ok_mod (by decide)) fun v4 ⟨_, c1, c2⟩ => Ok.bind (ok_mul (by omega) (by omega) (by omega) (by omega)) fun v5 _ => Ok.bind (ok_mod (by decide)) fun v6 _ => Ok.bind (ok_mod (by decide)) fun v7 _ => Ok.bind (ok_div (by decide) (by decide)) fun v8 _ => Ok.bind (ok_mod h0) fun v9 ⟨_, d1, d2⟩ => Ok.ret ⟨⟨d1, d2⟩, hc, hc2⟩
  · refine Ok.bind (ok_div h0 h1) fun v3 _ => Ok.bind (ok_set b1 b2) fun v5 e => Ok.bind (ok_mod h0) fun v4 ⟨_, d1, d2⟩ => Ok.ret ⟨⟨d1, d2⟩, ?_⟩
    subst e
    exact ⟨by show 0 < (k.cells.set _ _).length; rw [List.length_set]; exact hc, by show (k.cells.set _ _).length ≤ 64; rw [List.length_set]; exact hc2⟩
theorem cut_len {α : Type} (xs : List α) (n : Nat) : (Wk.cutD xs none (some (n : Nat))).length = min n xs.length := by
  unfold Wk.cutD
  rw [HT.sIx_none, HT.sIx_nat, List.length_take, List.length_drop]
  omega
theorem deck_ok {ns : List Int} (h : ns.length ≤ 63) : Ok (m_l_deck ns) DeckOk := by
  unfold m_l_deck
  have hl : (Wk.cutD ns none (some 63)).length ≤ 63 := by
    have := cut_len ns 63
    have e : ((63 : Nat) : Int) = 63 := rfl
    rw [e] at this
    omega
  refine Ok.eqn (eq_cat (by rw [List.length_singleton]; omega)) (Ok.let (Ok.bind (P := fun v : List Int => 0 < v.length ∧ v.length ≤ 64) (Ok.ite (fun _ => ?_) fun _ => Ok.ret ?_) fun v hv => Ok.ret hv))
  · have hz : ((Wk.cutD ns none (some 63) ++ [((ns.length : Nat) : Int)]).length) = (Wk.cutD ns none (some 63)).length + 1 := by rw [List.length_append]; rfl
    generalize Wk.cutD ns none (some 63) ++ [((ns.length : Nat) : Int)] = cs at hz
    refine Ok.eqn (eq_rng (by decide) (by decide) (by omega) (by omega)) (Ok.bind (foldO_inv (I := fun s => s.length = cs.length) rfl fun s x hx hs => ?_) fun s hs => Ok.ret (by omega))
    unfold m_l_deck_l1
    have hx := rgI_mem.mp hx
    refine Ok.bind (ok_pix (by omega) (by omega)) fun v35 _ => Ok.let (Ok.bind (ok_mul (by omega) (by omega) (by omega) (by omega)) fun v37 _ => Ok.let (Ok.bind (ok_mul (by omega) (by omega) (by omega) (by omega)) fun v39 _ => Ok.bind (ok_set (by omega) (by omega)) fun v40 e => Ok.ret ?_))
    subst e
    rw [List.length_set]; exact hs
  · rw [List.length_append, List.length_singleton]; omega
/-- a name: one to eight small letters -/
def NameOk (w : Str) : Prop := 1 ≤ w.length ∧ w.length ≤ 8 ∧ ∀ c ∈ w.cps.toList, 97 ≤ c ∧ c ≤ 122
theorem abc_all : (Str.ofString "abcdefghijklmnopqrstuvwxyz").length = 26 ∧ ∀ c ∈ (Str.ofString "abcdefghijklmnopqrstuvwxyz").cps.toList, 97 ≤ c ∧ c ≤ 122 := by decide +kernel
theorem letter_ok {i : Int} (h0 : 0 ≤ i) (h1 : i < 26) : Ok (pixS (Str.ofString "abcdefghijklmnopqrstuvwxyz") i) (fun r => ∃ c, (97 ≤ c ∧ c ≤ 122) ∧ r = ⟨#[c]⟩) := by
  refine (ok_pixS h0 (by rw [abc_all.1]; exact h1) (by rw [abc_all.1]; decide)).imp fun r ⟨c, hc, e⟩ => ⟨c, abc_all.2 c hc, e⟩
theorem name_one {c : Nat} (h : 97 ≤ c ∧ c ≤ 122) : NameOk ⟨#[c]⟩ := ⟨by show 1 ≤ 1; omega, by show 1 ≤ 8; omega, fun d hd => by
  have : d = c := by simpa using hd
  subst this; exact h⟩
theorem str_len_app (a b : Str) : (a ++ b).length = a.length + b.length := by
  show (a.cps ++ b.cps).size = a.cps.size + b.cps.size
  exact Array.size_append
theorem str_mem_app {a b : Str} {c : Nat} (h : c ∈ (a ++ b).cps.toList) : c ∈ a.cps.toList ∨ c ∈ b.cps.toList := by
  have e : (a ++ b).cps.toList = a.cps.toList ++ b.cps.toList := by
    show (a.cps ++ b.cps).toList = _
    simp
  rw [e] at h
  exact List.mem_append.mp h
theorem txt_join (s : Str) (ls : List Str) : Txt.join s ls = Str.join s ls := StrLaws.glued_eq_join _ _
theorem join_ones0 : ∀ (ls : List Str), (∀ l ∈ ls, ∃ c, (97 ≤ c ∧ c ≤ 122) ∧ l = ⟨#[c]⟩) → (Str.join (Str.ofString "") ls).length = ls.length ∧ ∀ c ∈ (Str.join (Str.ofString "") ls).cps.toList, 97 ≤ c ∧ c ≤ 122
  | [], _ => ⟨rfl, fun c hc => by have : c ∈ ([] : List Nat) := hc; simp at this⟩
  | [x], h => by
    obtain ⟨c, hc, rfl⟩ := h x List.mem_cons_self
    exact ⟨rfl, (name_one hc).2.2⟩
  | x :: y :: r, h => by
    obtain ⟨c, hc, rfl⟩ := h x List.mem_cons_self
    obtain ⟨h1, h2⟩ := join_ones0 (y :: r) fun l hl => h l (List.mem_cons_of_mem _ hl)
    have e : Str.join (Str.ofString "") (⟨#[c]⟩ :: y :: r) = ((⟨#[c]⟩ : Str) ++ Str.ofString "") ++ Str.join (Str.ofString "") (y :: r) := rfl
    have z : (Str.ofString "").length = 0 := by decide +kernel
    have z2 : (Str.ofString "").cps.toList = [] := by decide +kernel
    rw [e]
    refine ⟨?_, fun d hd => ?_⟩
    · rw [str_len_app, str_len_app, h1, z]
      show 1 + 0 + (y :: r).length = _
      rw [List.length_cons, List.length_cons, List.length_cons]; omega
    · rcases str_mem_app hd with hd | hd
      · rcases str_mem_app hd with hd | hd
        · exact (name_one hc).2.2 d hd
        · rw [z2] at hd; simp at hd
      · exact h2 d hd
theorem join_ones (ls : List Str) (h : ∀ l ∈ ls, ∃ c, (97 ≤ c ∧ c ≤ 122) ∧ l = ⟨#[c]⟩) : (Txt.join (Str.ofString "") ls).length = ls.length ∧ ∀ c ∈ (Txt.join (Str.ofString "") ls).cps.toList, 97 ≤ c ∧ c ≤ 122 := by
  rw [txt_join]; exact join_ones0 ls h
theorem sum_ones : ∀ (ls : List Str), (∀ l ∈ ls, ∃ c, (97 ≤ c ∧ c ≤ 122) ∧ l = ⟨#[c]⟩) → (ls.map (·.length)).sum = ls.length
  | [], _ => rfl
  | x :: r, h => by
    obtain ⟨c, hc, rfl⟩ := h x List.mem_cons_self
    rw [List.map_cons, List.sum_cons, sum_ones r fun l hl => h l (List.mem_cons_of_mem _ hl), List.length_cons]
    show 1 + r.length = _
    omega
theorem cut8 {w : Str} {c : Nat} (hw : NameOk w) (hc : 97 ≤ c ∧ c ≤ 122) : NameOk (cutS (w ++ ⟨#[c]⟩) none (some 8)) := by
  have hl : (w ++ (⟨#[c]⟩ : Str)).length = w.length + 1 := str_len_app _ _
  have e : cutS (w ++ ⟨#[c]⟩) none (some 8) = ⟨((w ++ (⟨#[c]⟩ : Str)).cps.toList.take (min 8 (w.length + 1))).toArray⟩ := by
    unfold cutS
    rw [HT.sIx_none, show (some 8 : Option Int) = some ((8 : Nat) : Int) from rfl, HT.sIx_nat, hl, List.drop_zero, Nat.sub_zero]
  have hw1 := hw.1
  have hs : (w ++ (⟨#[c]⟩ : Str)).cps.toList.length = w.length + 1 := by rw [Array.length_toList]; exact hl
  rw [e]
  refine ⟨?_, ?_, fun d hd => ?_⟩
  · show 1 ≤ (List.toArray _).size
    rw [List.size_toArray, List.length_take, hs]; omega
  · show (List.toArray _).size ≤ 8
    rw [List.size_toArray, List.length_take, hs]; omega
  · have hd := List.mem_of_mem_take (show d ∈ List.take (min 8 (w.length + 1)) (w ++ (⟨#[c]⟩ : Str)).cps.toList from hd)
    rcases str_mem_app hd with hd | hd
    · exact hw.2.2 d hd
    · exact (name_one hc).2.2 d hd
/-- the words by turns: the first nine are unlike -/
def turnWord (n : Nat) : Str := ⟨#[97 + n, 97]⟩
theorem turn_word {n : Nat} (h : n < 26) : Ok (pixS (Str.ofString "abcdefghijklmnopqrstuvwxyz") (((n : Nat) : Int) % 26)) (fun r => r = ⟨#[97 + n]⟩) := by
  have key : ∀ n : Fin 26, pixS (Str.ofString "abcdefghijklmnopqrstuvwxyz") (((n : Nat) : Int) % 26) = some ⟨#[97 + n]⟩ := by decide +kernel
  exact ⟨_, key ⟨n, h⟩, rfl⟩
theorem turn_word2 {n : Nat} (h : n < 26) : Ok (pixS (Str.ofString "abcdefghijklmnopqrstuvwxyz") (((n : Nat) : Int) / 26)) (fun r => r = ⟨#[97]⟩) := by
  have key : pixS (Str.ofString "abcdefghijklmnopqrstuvwxyz") 0 = some ⟨#[97]⟩ := by decide +kernel
  have : ((n : Nat) : Int) / 26 = 0 := by omega
  rw [this]
  exact ⟨_, key, rfl⟩
theorem turnWord_ok {n : Nat} (h : n < 26) : NameOk (turnWord n) := ⟨by show 1 ≤ 2; omega, by show 2 ≤ 8; omega, fun d hd => by
  have : d = 97 + n ∨ d = 97 := by simpa [turnWord] using hd
  omega⟩
theorem nodup_sub : ∀ {xs ys : List Str}, xs.Nodup → (∀ x ∈ xs, x ∈ ys) → xs.length ≤ ys.length
  | [], ys, _, _ => Nat.zero_le _
  | x :: xs, ys, hn, h => by
    have hx := h x List.mem_cons_self
    have hn := List.nodup_cons.mp hn
    have := nodup_sub (ys := ys.erase x) hn.2 fun y hy => by
      refine (List.mem_erase_of_ne fun e => ?_).mpr (h y (List.mem_cons_of_mem _ hy))
      subst e; exact hn.1 hy
    rw [List.length_erase_of_mem hx] at this
    have : 0 < ys.length := List.length_pos_of_mem hx
    rw [List.length_cons]; omega
theorem words_nodup (n : Nat) : ((List.range n).map turnWord).Nodup := by
  refine List.pairwise_map.mpr (List.nodup_range.imp fun {a b} h e => h ?_)
  have : (97 + a) = (97 + b) := by
    have := congrArg (fun s : Str => s.cps.toList.head?) e
    simpa [turnWord] using this
  omega
theorem names_ok {k : Deck} {many : Int} (h : DeckOk k) (h0 : 0 ≤ many) (h1 : many ≤ 10) : Ok (m_l_names k many) (fun r => ((r.1.length : Nat) : Int) = many ∧ r.1.Nodup ∧ (∀ w ∈ r.1, NameOk w) ∧ DeckOk r.2) := by
  unfold m_l_names
  refine Ok.let (Ok.bind (take_ok h (by decide) (by decide)) fun v3 ⟨_, hd3⟩ => Ok.ite (fun _ => ?_) fun _ => ?_)
  · have l10 : ∀ (s : List Str × Deck), True := fun _ => trivial
    refine Ok.eqn (eq_rng (by decide) (by decide) h0 (by omega)) ?_
    have hlen : ((rgI 0 many).length : Int) = many := by rw [rgI_len]; omega
    refine Ok.bind (mapS_acc (I := fun acc s => (acc ++ s.1).Perm [(Str.ofString "a"), (Str.ofString "b"), (Str.ofString "ab"), (Str.ofString "ba"), (Str.ofString "aa"), (Str.ofString "bb"), (Str.ofString "aab"), (Str.ofString "abb"), (Str.ofString "aba"), (Str.ofString "bab")] ∧ DeckOk s.2) ⟨List.Perm.refl _, hd3⟩ fun acc s x hx hl hi => ?_) fun r hr => Ok.ret ?_
    · unfold m_l_names_c1
      obtain ⟨hp, hd⟩ := hi
      have hlp := hp.length_eq
      rw [List.length_append] at hlp
      have h10 : ([(Str.ofString "a"), (Str.ofString "b"), (Str.ofString "ab"), (Str.ofString "ba"), (Str.ofString "aa"), (Str.ofString "bb"), (Str.ofString "aab"), (Str.ofString "abb"), (Str.ofString "aba"), (Str.ofString "bab")] : List Str).length = 10 := rfl
      rw [h10] at hlp
      refine Ok.bind (take_ok hd (by omega) (by omega)) fun v11 ⟨⟨b1, b2⟩, hd'⟩ => Ok.bind (ok_pop b1 b2 (by omega)) fun v12 ⟨hp2, _⟩ => Ok.ret ⟨?_, hd'⟩
      show ((acc ++ [v12.1]) ++ v12.2).Perm _
      rw [List.append_assoc]
      exact (List.Perm.append_left acc hp2).trans hp
    · obtain ⟨hl, hp, hd⟩ := hr
      have hn : ([(Str.ofString "a"), (Str.ofString "b"), (Str.ofString "ab"), (Str.ofString "ba"), (Str.ofString "aa"), (Str.ofString "bb"), (Str.ofString "aab"), (Str.ofString "abb"), (Str.ofString "aba"), (Str.ofString "bab")] : List Str).Nodup := by decide +kernel
      have ha : ∀ w ∈ ([(Str.ofString "a"), (Str.ofString "b"), (Str.ofString "ab"), (Str.ofString "ba"), (Str.ofString "aa"), (Str.ofString "bb"), (Str.ofString "aab"), (Str.ofString "abb"), (Str.ofString "aba"), (Str.ofString "bab")] : List Str), 1 ≤ w.length ∧ w.length ≤ 8 ∧ ∀ c ∈ w.cps.toList, 97 ≤ c ∧ c ≤ 122 := by decide +kernel
      have hn2 := hp.nodup_iff.mpr hn
      refine ⟨by show ((r.1.length : Nat) : Int) = many; rw [hl]; exact hlen, (List.nodup_append.mp hn2).1, fun w hw => ha w (hp.mem_iff.mp (List.mem_append_left _ hw)), hd⟩
  · refine Ok.bind (whileO_ok (I := fun s => ((s.1.length : Nat) : Int) ≤ many ∧ s.1.Nodup ∧ (∀ w ∈ s.1, NameOk w) ∧ DeckOk s.2) (fun s => (many - (s.1.length : Nat)).toNat) (fun s hs => ?_) ⟨by simpa using h0, List.nodup_nil, fun w hw => absurd hw (by simp), hd3⟩) fun s hs => Ok.ret ?_
    · obtain ⟨hl, hn, ha, hd⟩ := hs
      refine Ok.of rfl fun hb => ?_
      have hb : ((s.1.length : Nat) : Int) < many := by simpa using hb
      unfold m_l_names_b6
      refine Ok.bind (take_ok hd (by decide) (by decide)) fun v23 ⟨⟨b1, b2⟩, hd1⟩ => Ok.eqn (eq_rng (by decide) (by decide) (by omega) (by omega)) ?_
      refine Ok.bind (mapS_inv (I := DeckOk) (Q := fun l => ∃ c, (97 ≤ c ∧ c ≤ 122) ∧ l = ⟨#[c]⟩) hd1 fun t x hx ht => ?_) fun v31 ⟨hl31, hq31, hd31⟩ => ?_
      · unfold m_l_names_c3
        exact Ok.bind (take_ok ht (by decide) (by decide)) fun v29 ⟨⟨c1, c2⟩, hd2⟩ => Ok.bind (letter_ok c1 c2) fun v30 h30 => Ok.ret ⟨h30, hd2⟩
      have hl31 : ((v31.1.length : Nat) : Int) = 1 + v23.1 := by rw [hl31, rgI_len]; omega
      obtain ⟨j1, j2⟩ := join_ones v31.1 hq31
      have z : (Str.ofString "").length = 0 := by decide +kernel
      refine Ok.eqn (show pjoin (Str.ofString "") v31.1 = some (Txt.join (Str.ofString "") v31.1) from if_pos (by rw [sum_ones v31.1 hq31, z]; omega)) ?_
      refine Ok.eqn (eq_cat (by rw [List.length_singleton]; omega)) ?_
      have hA : NameOk (Str.ofString "a") := by
        have : 1 ≤ (Str.ofString "a").length ∧ (Str.ofString "a").length ≤ 8 ∧ ∀ c ∈ (Str.ofString "a").cps.toList, 97 ≤ c ∧ c ≤ 122 := by decide +kernel
        exact this
      refine Ok.bind (P := NameOk) ?_ fun v36 h36 => ?_
      · rcases List.eq_nil_or_concat s.1 with e | ⟨l, b, e⟩
        · rw [e]; exact Ok.of (x := Str.ofString "a") (eq_last (xs := [])) hA
        · rw [e, List.concat_eq_append, ← List.append_assoc]
          exact Ok.of eq_last (ha b (by rw [e, List.concat_eq_append]; exact List.mem_append_right _ List.mem_cons_self))
      refine Ok.bind (take_ok hd31 (by decide) (by decide)) fun v37 ⟨⟨c1, c2⟩, hd37⟩ => Ok.bind (letter_ok c1 c2) fun v38 ⟨c38, hc38, e38⟩ => ?_
      subst e38
      have h36l := h36.2.1
      have hl1 : (⟨#[c38]⟩ : Str).length = 1 := rfl
      refine Ok.eqn (eq_add (by omega)) (Ok.eqn (eq_cutS (by rw [str_len_app]; omega)) ?_)
      have h40 := cut8 h36 hc38
      refine Ok.bind (take_ok hd37 (by decide) (by decide)) fun v41 ⟨⟨c3, c4⟩, hd41⟩ => Ok.bind (letter_ok c3 c4) fun v42 ⟨c42, hc42, e42⟩ => ?_
      subst e42
      refine Ok.bind (take_ok hd41 (by decide) (by decide)) fun v43 ⟨⟨c5, c6⟩, hd43⟩ => Ok.bind (ok_pix c5 c6) fun v44 ⟨_, h44⟩ => ?_
      have hn44 : NameOk v44 := by
        rcases List.mem_cons.mp h44 with e | h44
        · subst e; exact ⟨by omega, by omega, j2⟩
        rcases List.mem_cons.mp h44 with e | h44
        · subst e; exact h40
        rw [List.mem_singleton.mp h44]; exact name_one hc42
      refine Ok.bind (whileO_ok (I := fun t : Str × Int => ∃ n : Nat, t.2 = ((n : Nat) : Int) ∧ NameOk t.1 ∧ n ≤ 11 ∧ (n = 0 ∨ (t.1 = turnWord (n - 1) ∧ ∀ j, j + 1 < n → turnWord j ∈ s.1))) (fun t => 12 - t.2.toNat) (fun t ht => ?_) ⟨0, rfl, hn44, by omega, .inl rfl⟩) fun s46 ⟨⟨n, _, hn46, _⟩, h46⟩ => ?_
      · obtain ⟨n, hn2, ht1, hn11, ht3⟩ := ht
        refine Ok.of rfl fun hb2 => ?_
        have hb2 : t.1 ∈ s.1 := by simpa using hb2
        have hall : ∀ j, j < n → turnWord j ∈ s.1 := by
          rcases ht3 with e | ⟨e, hj⟩
          · intro j hj; omega
          · intro j hj'
            by_cases hjn : j + 1 < n
            · exact hj j hjn
            · have : j = n - 1 := by omega
              rw [this, ← e]; exact hb2
        have hle : n ≤ s.1.length := by
          have := nodup_sub (ys := s.1) (words_nodup n) fun x hx => by
            obtain ⟨j, hj, rfl⟩ := List.mem_map.mp hx
            exact hall j (List.mem_range.mp hj)
          rwa [List.length_map, List.length_range] at this
        have hn9 : n ≤ 9 := by omega
        unfold m_l_names_b5
        rw [hn2]
        refine Ok.bind (turn_word (by omega)) fun v52 e52 => Ok.bind (turn_word2 (by omega)) fun v53 e53 => ?_
        subst e52; subst e53
        refine Ok.eqn (eq_add (by show 1 + 1 ≤ 16777216; decide)) (Ok.let (Ok.ret ?_))
        have ew : (⟨#[97 + n]⟩ : Str) ++ ⟨#[97]⟩ = turnWord n := rfl
        refine ⟨⟨n + 1, rfl, by show NameOk ((⟨#[97 + n]⟩ : Str) ++ ⟨#[97]⟩); rw [ew]; exact turnWord_ok (by omega), by omega, .inr ⟨by show (⟨#[97 + n]⟩ : Str) ++ ⟨#[97]⟩ = _; rw [ew]; rfl, fun j hj => hall j (by omega)⟩⟩, ?_⟩
        show 12 - (((n : Nat) : Int) + 1).toNat < 12 - ((n : Nat) : Int).toNat
        omega
      · have hnot : s46.1 ∉ s.1 := by
          have : decide (s46.1 ∈ s.1) = false := Option.some.inj h46
          simpa using this
        refine Ok.eqn (eq_snoc (by omega)) (Ok.ret ⟨⟨?_, ?_, ?_, hd43⟩, ?_⟩)
        · show (((s.1 ++ [s46.1]).length : Nat) : Int) ≤ many
          rw [List.length_append, List.length_singleton]; omega
        · show (s.1 ++ [s46.1]).Nodup
          refine List.nodup_append.mpr ⟨hn, by simp, fun a ha b hb e => ?_⟩
          rw [List.mem_singleton.mp hb] at e
          subst e; exact hnot ha
        · intro w hw
          rcases List.mem_append.mp (show w ∈ s.1 ++ [s46.1] from hw) with hw | hw
          · exact ha w hw
          · rw [List.mem_singleton.mp hw]; exact hn46
        · show (many - (((s.1 ++ [s46.1]).length : Nat) : Int)).toNat < _
          rw [List.length_append, List.length_singleton]; omega
    · obtain ⟨⟨hl, hn, ha, hd⟩, hc⟩ := hs
      have hc : ¬ ((s.1.length : Nat) : Int) < many := by
        have : decide (((s.1.length : Nat) : Int) < many) = false := Option.some.inj hc
        simpa using this
      exact ⟨by show ((s.1.length : Nat) : Int) = many; omega, hn, ha, hd⟩
theorem shuffled_ok {k : Deck} {ts : List Int} (h : DeckOk k) (hl : ts.length ≤ 1000) : Ok (m_l_shuffled k ts) (fun r => r.1.Perm ts ∧ DeckOk r.2) := by
  unfold m_l_shuffled
  refine Ok.eqn (eq_rng (by decide) (by decide) (by omega) (by omega)) (Ok.bind (mapS_acc (I := fun acc s => (acc ++ s.1).Perm ts ∧ DeckOk s.2) ⟨List.Perm.refl _, h⟩ fun acc s x hx hla hi => ?_) fun r hr => Ok.ret ?_)
  · unfold m_l_shuffled_c1
    obtain ⟨hp, hd⟩ := hi
    have hlp := hp.length_eq
    rw [List.length_append] at hlp
    rw [rgI_len] at hla
    refine Ok.bind (take_ok hd (by omega) (by omega)) fun v11 ⟨⟨b1, b2⟩, hd'⟩ => Ok.bind (ok_pop b1 b2 (by omega)) fun v12 ⟨hp2, _⟩ => Ok.ret ⟨?_, hd'⟩
    show ((acc ++ [v12.1]) ++ v12.2).Perm _
    rw [List.append_assoc]
    exact (List.Perm.append_left acc hp2).trans hp
  · obtain ⟨hlr, hp, hd⟩ := hr
    have hlp := hp.length_eq
    rw [List.length_append, hlr, rgI_len] at hlp
    have : r.2.1 = [] := List.length_eq_zero_iff.mp (by omega)
    rw [this, List.append_nil] at hp
    exact ⟨hp, hd⟩
theorem fil_true {α : Type} (xs : List α) : xs.filter (fun _ => true) = xs := List.filter_eq_self.mpr (fun _ _ => rfl)
theorem images_ok {k : Deck} {many : Int} (h : DeckOk k) (h0 : 0 < many) (h1 : many ≤ 1000) : Ok (m_l_images k many) (fun r => ((r.1.length : Nat) : Int) = many ∧ (∀ i ∈ r.1, 0 ≤ i ∧ i < many) ∧ DeckOk r.2) := by
  unfold m_l_images
  have hlen : (((rgI 0 many).length : Nat) : Int) = many := by rw [rgI_len]; omega
  have er := eq_rng (lo := 0) (hi := many) (by decide) (by decide) (by omega) (by omega)
  refine Ok.bind (take_ok h (by decide) (by decide)) fun v1 ⟨_, hd1⟩ => Ok.ite (fun _ => ?_) fun _ => Ok.ite (fun _ => ?_) fun _ => Ok.ite (fun _ => ?_) fun _ => Ok.ite (fun _ => ?_) fun _ => ?_
  · refine Ok.eqn er (Ok.bind (shuffled_ok hd1 (by omega)) fun v4 ⟨hp, hd⟩ => Ok.ret ⟨?_, fun i hi => rgI_mem.mp (hp.mem_iff.mp hi), hd⟩)
    show ((v4.1.length : Nat) : Int) = many
    rw [hp.length_eq]; exact hlen
  · refine Ok.bind (take_ok hd1 h0 (by omega)) fun v6 ⟨b, hd⟩ => Ok.eqn (eq_rep (by omega) (by omega) (by rw [List.length_singleton]; omega)) (Ok.ret ⟨?_, fun i hi => ?_, hd⟩)
    · show ((((List.replicate many.toNat [v6.1]).flatten).length : Nat) : Int) = many
      rw [List.length_flatten, List.map_replicate, List.sum_replicate_nat, List.length_singleton]; omega
    · obtain ⟨l, hl, hil⟩ := List.mem_flatten.mp (show i ∈ (List.replicate many.toNat [v6.1]).flatten from hi)
      rw [List.eq_of_mem_replicate hl] at hil
      rw [List.mem_singleton.mp hil]; exact b
  · refine Ok.eqn er (Ok.bind (take_ok hd1 h0 (by omega)) fun v11 ⟨b, hd⟩ => Ok.bind (take_ok hd h0 (by omega)) fun v12 ⟨c, hd2⟩ => Ok.bind (ok_set c.1 (by omega)) fun v13 e => Ok.ret ⟨?_, fun i hi => ?_, hd2⟩)
    · subst e; show ((((rgI 0 many).set _ _).length : Nat) : Int) = many
      rw [List.length_set]; exact hlen
    · subst e
      rcases List.mem_or_eq_of_mem_set (show i ∈ (rgI 0 many).set _ _ from hi) with hi | hi
      · exact rgI_mem.mp hi
      · rw [hi]; exact b
  · refine Ok.eqn er (Ok.ret ⟨?_, fun i hi => ?_, hd1⟩)
    · show ((((List.filter (fun _ => true) (rgI 0 many)).map _).length : Nat) : Int) = many
      rw [fil_true, List.length_map]; exact hlen
    · obtain ⟨j, hj, rfl⟩ := List.mem_map.mp (show i ∈ (List.filter (fun _ => true) (rgI 0 many)).map _ from hi)
      rw [fil_true] at hj
      have := rgI_mem.mp hj
      omega
  · refine Ok.eqn er (Ok.bind (mapS_inv (I := DeckOk) (Q := fun i => 0 ≤ i ∧ i < many) hd1 fun s x hx hs => ?_) fun v28 ⟨hl, hq, hd⟩ => ?_)
    · unfold m_l_images_c1
      exact Ok.bind (take_ok hs h0 (by omega)) fun v27 ⟨b, hd⟩ => Ok.ret ⟨b, hd⟩
    · have key : ∀ b : Bool, Ok (pix [v28.1, sortI v28.1] (if b = true then (1 : Int) else 0)) (fun r => r.Perm v28.1) := fun b => by
        cases b with
        | true => exact Ok.of (x := sortI v28.1) rfl (sortI_perm _)
        | false => exact Ok.of (x := v28.1) rfl (List.Perm.refl _)
      refine Ok.bind (key _) fun v32 hp => Ok.ret ⟨?_, fun i hi => hq i (hp.mem_iff.mp hi), hd⟩
      show ((v32.length : Nat) : Int) = many
      rw [hp.length_eq, hl]; exact hlen
end K66

namespace K66
open PySem PySem.Spec PyProof.Rows L2 Evl Wk
abbrev Web := List Str × List (Str × Int × List Str)
structure WebOk (size count heavy : Int) (w : Web) : Prop where
  sl : ((w.1.length : Nat) : Int) = size
  sn : w.1.Nodup
  sa : ∀ x ∈ w.1, NameOk x
  ml : ((w.2.length : Nat) : Int) = count
  mn : (w.2.map (·.1)).Nodup
  ma : ∀ m ∈ w.2, NameOk m.1 ∧ (1 ≤ m.2.1 ∧ m.2.1 ≤ heavy) ∧ ((m.2.2.length : Nat) : Int) = size ∧ ∀ x ∈ m.2.2, x ∈ w.1
theorem some_web_ok {k : Deck} {size count heavy : Int} (h : DeckOk k) (s0 : 0 < size) (s1 : size ≤ 8) (c0 : 0 < count) (c1 : count ≤ 8) (w0 : 0 < heavy) (w1 : heavy ≤ 99) :
    Ok (m_l_some_web k size count heavy) (fun r => WebOk size count heavy r.1 ∧ DeckOk r.2) := by
  unfold m_l_some_web
  refine Ok.bind (names_ok h (by omega) (by omega)) fun v1 ⟨hl1, hn1, ha1, hd1⟩ => Ok.bind (names_ok hd1 (by omega) (by omega)) fun v3 ⟨hl3, hn3, ha3, hd3⟩ => ?_
  refine Ok.bind (foldO_pre (I := fun pre s => s.1.map (·.1) = pre ∧ (∀ m ∈ s.1, NameOk m.1 ∧ (1 ≤ m.2.1 ∧ m.2.1 ≤ heavy) ∧ ((m.2.2.length : Nat) : Int) = size ∧ ∀ x ∈ m.2.2, x ∈ v1.1) ∧ DeckOk s.2) ⟨rfl, fun m hm => absurd hm (by simp), hd3⟩ fun pre x post s e hi => ?_) fun s6 ⟨g1, g2, g3⟩ => Ok.ret ⟨⟨hl1, hn1, ha1, ?_, ?_, g2⟩, g3⟩
  · obtain ⟨hp, hm, hd⟩ := hi
    unfold m_l_some_web_l2
    have hx : x ∈ v3.1 := by rw [e]; exact List.mem_append_right _ List.mem_cons_self
    have hlp : s.1.length = pre.length := by rw [← hp, List.length_map]
    have hlt : s.1.length < v3.1.length := by rw [hlp, e, List.length_append, List.length_cons]; omega
    refine Ok.bind (take_ok hd w0 (by omega)) fun v14 ⟨⟨b1, b2⟩, hd14⟩ => Ok.bind (take_ok hd14 (by decide) (by decide)) fun v15 ⟨⟨b3, b4⟩, hd15⟩ => Ok.bind (ok_pix b3 b4) fun v16 ⟨_, h16⟩ => ?_
    have hw : 1 ≤ v16 ∧ v16 ≤ heavy := by
      simp only [List.mem_cons, List.not_mem_nil, or_false] at h16
      omega
    refine Ok.bind (images_ok hd15 s0 (by omega)) fun v17 ⟨hl17, hi17, hd17⟩ => Ok.eqn (eq_fit (by omega)) ?_
    refine Ok.bind (mapS_inv (I := DeckOk) (Q := fun y => y ∈ v1.1) hd17 fun t z hz ht => ?_) fun v24 ⟨hl24, hq24, hd24⟩ => Ok.eqn (eq_snoc (by omega)) (Ok.ret ⟨?_, fun m hm2 => ?_, hd24⟩)
    · unfold m_l_some_web_c1
      have := hi17 z hz
      exact Ok.bind (ok_pix this.1 (by omega)) fun v23 h23 => Ok.ret ⟨h23.2, ht⟩
    · show (s.1 ++ [(x, v16, v24.1)]).map (·.1) = pre ++ [x]
      rw [List.map_append, hp]; rfl
    · rcases List.mem_append.mp (show m ∈ s.1 ++ [(x, v16, v24.1)] from hm2) with hm2 | hm2
      · exact hm m hm2
      · rw [List.mem_singleton.mp hm2]
        exact ⟨ha3 x hx, hw, by show ((v24.1.length : Nat) : Int) = size; rw [hl24]; exact hl17, hq24⟩
  · show ((s6.1.length : Nat) : Int) = count
    have : s6.1.length = v3.1.length := by rw [← g1, List.length_map]
    rw [this]; exact hl3
  · show (s6.1.map (·.1)).Nodup
    rw [g1]; exact hn3
theorem sizes_ok {k : Deck} (h : DeckOk k) : Ok (m_l_sizes k) (fun r => (1 ≤ r.1.1 ∧ 1 ≤ r.1.2 ∧ r.1.1 * r.1.2 ≤ 8) ∧ DeckOk r.2) := by
  unfold m_l_sizes
  refine Ok.bind (take_ok h (by decide) (by decide)) fun v1 ⟨_, hd1⟩ => Ok.ite (fun _ => ?_) fun _ => ?_
  · refine Ok.bind (take_ok hd1 (by decide) (by decide)) fun v3 ⟨⟨b1, b2⟩, hd3⟩ => Ok.bind (ok_pix b1 b2) fun v4 ⟨_, h4⟩ => Ok.ret ⟨?_, hd3⟩
    have : ∀ p ∈ ([(1, 8), (8, 1), (2, 4), (4, 2), (2, 3), (3, 2), (2, 2), (1, 3), (1, 1)] : List (Int × Int)), 1 ≤ p.1 ∧ 1 ≤ p.2 ∧ p.1 * p.2 ≤ 8 := by decide
    exact this v4 h4
  · refine Ok.bind (take_ok hd1 (by decide) (by decide)) fun v5 ⟨⟨b1, b2⟩, hd5⟩ => Ok.let (Ok.bind (ok_div (by omega) (by omega)) fun v7 e => ?_)
    have h7 : 1 ≤ v7 ∧ (1 + v5.1) * v7 ≤ 8 := by
      subst e
      have h1 : 1 ≤ 8 / (1 + v5.1) := by
        refine (Int.le_ediv_iff_mul_le (by omega)).mpr (by omega)
      exact ⟨h1, Int.mul_ediv_self_le (x := 8) (by omega)⟩
    have h78 : v7 ≤ 8 := by
      have : v7 ≤ (1 + v5.1) * v7 := by
        have := Int.mul_le_mul_of_nonneg_right (show (1 : Int) ≤ 1 + v5.1 by omega) (show 0 ≤ v7 by omega)
        omega
      omega
    refine Ok.bind (take_ok hd5 (by omega) (by omega)) fun v8 ⟨⟨c1, c2⟩, hd8⟩ => Ok.ret ⟨⟨by show 1 ≤ 1 + v5.1; omega, by show 1 ≤ 1 + v8.1; omega, ?_⟩, hd8⟩
    show (1 + v5.1) * (1 + v8.1) ≤ 8
    have := Int.mul_le_mul_of_nonneg_left (show 1 + v8.1 ≤ v7 by omega) (show 0 ≤ 1 + v5.1 by omega)
    omega
theorem le8 {a b : Int} (ha : 1 ≤ a) (hb : 1 ≤ b) (h : a * b ≤ 8) : a ≤ 8 ∧ b ≤ 8 := by
  constructor
  · have := Int.mul_le_mul_of_nonneg_left hb (show 0 ≤ a by omega)
    omega
  · have := Int.mul_le_mul_of_nonneg_right ha (show 0 ≤ b by omega)
    omega
theorem le99 {a b : Int} (ha : 1 ≤ a) (hb : 1 ≤ b) (h : a * b ≤ 99) : a ≤ 99 ∧ b ≤ 99 := by
  constructor
  · have := Int.mul_le_mul_of_nonneg_left hb (show 0 ≤ a by omega)
    omega
  · have := Int.mul_le_mul_of_nonneg_right ha (show 0 ≤ b by omega)
    omega
/-- two webs that are let -/
structure TwoOk (one other : Web) : Prop where
  ex : ∃ s1 s2 c1 c2 h1 h2 : Int, WebOk s1 c1 h1 one ∧ WebOk s2 c2 h2 other ∧ (1 ≤ s1 ∧ 1 ≤ s2 ∧ s1 * s2 ≤ 8) ∧ (1 ≤ c1 ∧ 1 ≤ c2 ∧ c1 * c2 ≤ 8) ∧ (1 ≤ h1 ∧ 1 ≤ h2 ∧ h1 * h2 ≤ 99)
theorem two_ok {k : Deck} (h : DeckOk k) : Ok (m_l_two k) (fun r => TwoOk r.1.1 r.1.2 ∧ DeckOk r.2) := by
  unfold m_l_two
  refine Ok.bind (sizes_ok h) fun v1 ⟨⟨s1, s2, s3⟩, hd1⟩ => Ok.bind (sizes_ok hd1) fun v2 ⟨⟨c1, c2, c3⟩, hd2⟩ => Ok.bind (take_ok hd2 (by decide) (by decide)) fun v3 ⟨⟨b1, b2⟩, hd3⟩ => Ok.let (Ok.bind (ok_div (by omega) (by omega)) fun v5 e5 => Ok.bind (ok_div (by omega) (by omega)) fun v6 e6 => ?_)
  have q1 : 1 ≤ 99 / (1 + v3.1) := (Int.le_ediv_iff_mul_le (by omega)).mpr (by omega)
  have q2 : (1 + v3.1) * (99 / (1 + v3.1)) ≤ 99 := Int.mul_ediv_self_le (x := 99) (by omega)
  have q3 : (99 / (1 + v3.1)) * (1 + v3.1) ≤ 99 := by rw [Int.mul_comm]; exact q2
  refine Ok.eqn (eq_cat (by show 7 + 1 ≤ 16777216; decide)) (Ok.bind (take_ok hd3 (by decide) (by decide)) fun v8 ⟨⟨d1, d2⟩, hd8⟩ => Ok.bind (ok_pix d1 d2) fun v9 ⟨_, h9⟩ => ?_)
  have hh : 1 ≤ v9.1 ∧ 1 ≤ v9.2 ∧ v9.1 * v9.2 ≤ 99 := by
    subst e5; subst e6
    simp only [List.cons_append, List.nil_append, List.mem_cons, List.not_mem_nil, or_false] at h9
    rcases h9 with rfl | rfl | rfl | rfl | rfl | rfl | rfl | rfl
    · decide
    · decide
    · decide
    · decide
    · decide
    · decide
    · exact ⟨by show 1 ≤ 1 + v3.1; omega, q1, q2⟩
    · exact ⟨q1, by show 1 ≤ 1 + v3.1; omega, q3⟩
  have l1 := le8 s1 s2 s3
  have l2 := le8 c1 c2 c3
  have l3 := le99 hh.1 hh.2.1 hh.2.2
  refine Ok.bind (some_web_ok hd8 (by omega) l1.1 (by omega) l2.1 (by omega) l3.1) fun v10 ⟨w1, hd10⟩ => Ok.bind (some_web_ok hd10 (by omega) l1.2 (by omega) l2.2 (by omega) l3.2) fun v11 ⟨w2, hd11⟩ => Ok.ret ⟨⟨_, _, _, _, _, _, w1, w2, ⟨s1, s2, s3⟩, ⟨c1, c2, c3⟩, hh⟩, hd11⟩
end K66

namespace K66
open PySem PySem.Spec PyProof.Rows L2 Evl Wk
/-! what stands beside -/
theorem bnd {α β : Type} {m : Option α} {x : α} {f : α → Option β} {r : Option β} (h : m = some x) (k : f x = r) : m.bind f = r := by rw [h]; exact k
theorem foldO_len {α S : Type} {f : S → α → Option S} {g : S → α → S} (len : S → Nat) (c N : Nat) : ∀ {xs : List α} {s : S}, len s + c * xs.length ≤ N → (∀ s x, x ∈ xs → len s + c ≤ N → f s x = some (g s x) ∧ len (g s x) = len s + c) →
    foldO f s xs = some (xs.foldl g s) ∧ len (xs.foldl g s) = len s + c * xs.length
  | [], s, _, _ => ⟨rfl, by simp⟩
  | x :: xs, s, h, k => by
    rw [List.length_cons, Nat.mul_succ] at h
    obtain ⟨h1, h2⟩ := k s x List.mem_cons_self (by omega)
    obtain ⟨h3, h4⟩ := foldO_len (f := f) (g := g) len c N (xs := xs) (s := g s x) (by omega) fun s y hy hi => k s y (List.mem_cons_of_mem _ hy) hi
    refine ⟨?_, ?_⟩
    · show (f s x).bind _ = _
      rw [h1]; exact h3
    · rw [List.foldl_cons, h4, h2, List.length_cons, Nat.mul_succ]; omega
theorem foldl_keep {α S : Type} {g : S → α → S} {I : S → Prop} : ∀ {xs : List α} {s : S}, I s → (∀ s x, x ∈ xs → I s → I (g s x)) → I (xs.foldl g s)
  | [], s, h, _ => h
  | x :: xs, s, h, k => foldl_keep (xs := xs) (k s x List.mem_cons_self h) fun s y hy hi => k s y (List.mem_cons_of_mem _ hy) hi
abbrev Move := Str × Int × List Str
def lett (i : Nat) : Str := ⟨#[97 + i]⟩
def idx (xs : List Str) (x : Str) : Nat := xs.findIdx (· == x)
theorem idx_lt {xs : List Str} {x : Str} (h : x ∈ xs) : idx xs x < xs.length := List.findIdx_lt_length_of_exists ⟨x, h, by simp⟩
theorem idx_get {xs : List Str} {x : Str} (h : x ∈ xs) : xs[idx xs x]? = some x := by
  have hl := idx_lt h
  rw [List.getElem?_eq_getElem hl]
  have := List.findIdx_getElem (w := hl)
  exact congrArg some (by simpa using this : xs[List.findIdx (· == x) xs] = x)
def imgs (one other : Web) (as bs : List Str) : List Str := as.flatMap fun a => bs.map fun b => lett (idx one.1 a * other.1.length + idx other.1 b)
def step1 (one other : Web) (x : Move) (s : List Move) (y : Move) : List Move := s ++ [(lett s.length, x.2.1 * y.2.1, imgs one other x.2.2 y.2.2)]
def stepO (one other : Web) (s : List Move) (x : Move) : List Move := other.2.foldl (step1 one other x) s
def movesX (one other : Web) : List Move := one.2.foldl (stepO one other) []
def namesX (one other : Web) : List Str := (List.range (one.1.length * other.1.length)).map lett
/-- what is asked of the two -/
structure Fits (one other : Web) : Prop where
  n1 : one.1.length ≤ 8
  n2 : other.1.length ≤ 8
  nn : one.1.length * other.1.length ≤ 8
  mm : one.2.length * other.2.length ≤ 8
  m1 : one.2.length ≤ 8
  m2 : other.2.length ≤ 8
  d1 : one.1.Nodup
  d2 : other.1.Nodup
  i1 : ∀ m ∈ one.2, m.2.2.length ≤ 8 ∧ ∀ x ∈ m.2.2, x ∈ one.1
  i2 : ∀ m ∈ other.2, m.2.2.length ≤ 8 ∧ ∀ x ∈ m.2.2, x ∈ other.1
  w1 : ∀ m ∈ one.2, 1 ≤ m.2.1 ∧ m.2.1 ≤ 99
  w2 : ∀ m ∈ other.2, 1 ≤ m.2.1 ∧ m.2.1 ≤ 99
  ww : ∀ m ∈ one.2, ∀ m2 ∈ other.2, m.2.1 * m2.2.1 ≤ 99
theorem TwoOk.fits {one other : Web} (h : TwoOk one other) : Fits one other := by
  obtain ⟨s1, s2, c1, c2, h1, h2, a, b, ⟨e1, e2, e3⟩, ⟨f1, f2, f3⟩, ⟨g1, g2, g3⟩⟩ := h.ex
  have l1 := le8 e1 e2 e3
  have l2 := le8 f1 f2 f3
  have l3 := le99 g1 g2 g3
  refine ⟨by have := a.sl; omega, by have := b.sl; omega, ?_, ?_, by have := a.ml; omega, by have := b.ml; omega, a.sn, b.sn, fun m hm => ⟨by have := (a.ma m hm).2.2.1; omega, (a.ma m hm).2.2.2⟩, fun m hm => ⟨by have := (b.ma m hm).2.2.1; omega, (b.ma m hm).2.2.2⟩, fun m hm => ⟨(a.ma m hm).2.1.1, by have := (a.ma m hm).2.1.2; omega⟩, fun m hm => ⟨(b.ma m hm).2.1.1, by have := (b.ma m hm).2.1.2; omega⟩, fun m hm m2 hm2 => ?_⟩
  · have : ((one.1.length * other.1.length : Nat) : Int) ≤ 8 := by rw [Int.natCast_mul, a.sl, b.sl]; exact e3
    omega
  · have : ((one.2.length * other.2.length : Nat) : Int) ≤ 8 := by rw [Int.natCast_mul, a.ml, b.ml]; exact f3
    omega
  · have w1 := (a.ma m hm).2.1
    have w2 := (b.ma m2 hm2).2.1
    have := Int.mul_le_mul w1.2 w2.2 (by omega) (by omega)
    omega
theorem place_lt {n m i j : Nat} (hi : i < n) (hj : j < m) : i * m + j < n * m := by
  have : (i + 1) * m ≤ n * m := Nat.mul_le_mul_right m hi
  rw [Nat.succ_mul] at this
  omega
theorem abc8 {k : Nat} (h : k < 8) : pixS (Str.ofString "abcdefgh") ((k : Nat) : Int) = some (lett k) := by
  have key : ∀ k : Fin 8, pixS (Str.ofString "abcdefgh") ((k : Nat) : Int) = some (lett k) := by decide +kernel
  exact key ⟨k, h⟩
theorem abc26 {k : Nat} (h : k < 26) : pixS (Str.ofString "abcdefghijklmnopqrstuvwxyz") ((k : Nat) : Int) = some (lett k) := by
  have key : ∀ k : Fin 26, pixS (Str.ofString "abcdefghijklmnopqrstuvwxyz") ((k : Nat) : Int) = some (lett k) := by decide +kernel
  exact key ⟨k, h⟩
/-! the asked one -/
def toS (l : List Nat) : Str := ⟨l.toArray⟩
theorem toS_add (l : List Nat) (k : Nat) : toS l ++ lett k = toS (l ++ [97 + k]) := by
  show (⟨l.toArray ++ #[97 + k]⟩ : Str) = ⟨(l ++ [97 + k]).toArray⟩
  simp
theorem toS_len (l : List Nat) : (toS l).length = l.length := List.size_toArray
def code (one other : Web) (a b : Str) : Nat := 97 + (idx one.1 a * other.1.length + idx other.1 b)
def codes (one other : Web) (as bs : List Str) : List Nat := as.flatMap fun a => bs.map fun b => code one other a b
theorem codes_len (one other : Web) (as bs : List Str) : (codes one other as bs).length = as.length * bs.length := by
  unfold codes
  induction as with
  | nil => simp
  | cons a as ih => rw [List.flatMap_cons, List.length_append, ih, List.length_map, List.length_cons, Nat.succ_mul]; omega
theorem due_l1 {one other : Web} (F : Fits one other) {a b : Str} (ha : a ∈ one.1) (hb : b ∈ other.1) {l : List Nat} (hl : l.length ≤ 1000) : m_l_due_l1 one other ((other.1.length : Nat) : Int) a (toS l) b = some (toS (l ++ [code one other a b])) := by
  unfold m_l_due_l1
  have i1 := idx_lt ha
  have i2 := idx_lt hb
  have n1 := F.n1
  have n2 := F.n2
  rw [eq_index ha, eq_index hb]
  show (pmul ((idx one.1 a : Nat) : Int) ((other.1.length : Nat) : Int)).bind _ = _
  rw [eq_mul (by omega) (by omega) (by omega) (by omega)]
  show (pixS (Str.ofString "abcdefgh") (((idx one.1 a : Nat) : Int) * ((other.1.length : Nat) : Int) + ((idx other.1 b : Nat) : Int))).bind _ = _
  rw [← Int.natCast_mul, ← Int.natCast_add, abc8 (Nat.lt_of_lt_of_le (place_lt i1 i2) F.nn)]
  show (padd (toS l) (lett _)).bind _ = _
  rw [eq_add (by rw [toS_len]; show l.length + 1 ≤ _; omega), toS_add]
  rfl
theorem due_l2 {one other : Web} (F : Fits one other) {a : Str} (ha : a ∈ one.1) {y : Move} (hy : y ∈ other.2) {l : List Nat} (hl : l.length ≤ 64) : m_l_due_l2 one other ((other.1.length : Nat) : Int) y (toS l) a = some (toS (l ++ y.2.2.map fun b => code one other a b)) := by
  unfold m_l_due_l2
  have hb := F.i2 y hy
  have : Ok (foldO (m_l_due_l1 one other ((other.1.length : Nat) : Int) a) (toS l) y.2.2) (fun s => s = toS (l ++ y.2.2.map fun b => code one other a b)) := by
    refine foldO_pre (I := fun pre s => s = toS (l ++ pre.map fun b => code one other a b)) (by simp) fun pre b post s e hi => ?_
    subst hi
    have hbm : b ∈ y.2.2 := by rw [e]; exact List.mem_append_right _ List.mem_cons_self
    have hpl : pre.length ≤ 8 := by
      have := congrArg List.length e
      rw [List.length_append] at this
      omega
    refine Ok.of (due_l1 F ha (hb.2 b hbm) (by rw [List.length_append, List.length_map]; omega)) ?_
    rw [List.map_append, List.append_assoc]; rfl
  obtain ⟨r, e, rfl⟩ := this
  rw [e]; rfl
theorem due_str {one other : Web} (F : Fits one other) {x y : Move} (hx : x ∈ one.2) (hy : y ∈ other.2) : foldO (m_l_due_l2 one other ((other.1.length : Nat) : Int) y) (Str.ofString "") x.2.2 = some (toS (codes one other x.2.2 y.2.2)) := by
  have hx := F.i1 x hx
  have hyl := (F.i2 y hy).1
  have e0 : Str.ofString "" = toS [] := by decide +kernel
  have : Ok (foldO (m_l_due_l2 one other ((other.1.length : Nat) : Int) y) (Str.ofString "") x.2.2) (fun s => s = toS (codes one other x.2.2 y.2.2)) := by
    refine foldO_pre (I := fun pre s => s = toS (codes one other pre y.2.2)) e0 fun pre a post s e hi => ?_
    subst hi
    have ham : a ∈ x.2.2 := by rw [e]; exact List.mem_append_right _ List.mem_cons_self
    have hpl : pre.length ≤ 8 := by
      have := congrArg List.length e
      rw [List.length_append] at this
      omega
    refine Ok.of (due_l2 F (hx.2 a ham) hy ?_) ?_
    · rw [codes_len]
      exact Nat.mul_le_mul hpl hyl
    · unfold codes
      rw [List.flatMap_append, List.flatMap_cons, List.flatMap_nil, List.append_nil]
  obtain ⟨r, e, rfl⟩ := this
  exact e
theorem chars_codes (one other : Web) (as bs : List Str) (h : as.length * bs.length ≤ 64) : pchars (toS (codes one other as bs)) = some (imgs one other as bs) := by
  rw [eq_chars (by show (List.toArray _).size ≤ _; rw [List.size_toArray, codes_len]; omega)]
  show some ((codes one other as bs).map _) = _
  unfold codes imgs
  rw [List.map_flatMap]
  refine congrArg some (congrArg (fun g => List.flatMap g as) (funext fun a => ?_))
  rw [List.map_map]
  rfl
theorem due_l3 {one other : Web} (F : Fits one other) {x y : Move} (hx : x ∈ one.2) (hy : y ∈ other.2) {s : List Move} (hs : s.length + 1 ≤ 8) : m_l_due_l3 one other ((other.1.length : Nat) : Int) x s y = some (step1 one other x s y) := by
  unfold m_l_due_l3
  have a1 := F.w1 x hx
  have a2 := F.w2 y hy
  show (foldO (m_l_due_l2 one other ((other.1.length : Nat) : Int) y) (Str.ofString "") x.2.2).bind _ = _
  rw [due_str F hx hy]
  show (pixS (Str.ofString "abcdefgh") ((s.length : Nat) : Int)).bind _ = _
  rw [abc8 (by omega)]
  show (pmul x.2.1 y.2.1).bind _ = _
  rw [eq_mul (by omega) (by omega) (by omega) (by omega)]
  show (pchars (toS (codes one other x.2.2 y.2.2))).bind _ = _
  rw [chars_codes one other x.2.2 y.2.2 (Nat.mul_le_mul (F.i1 x hx).1 (F.i2 y hy).1)]
  show (psnoc s _).bind _ = _
  rw [eq_snoc (by omega)]
  rfl
theorem step1_len {one other : Web} {x y : Move} {s : List Move} : (step1 one other x s y).length = s.length + 1 := by
  unfold step1; rw [List.length_append]; rfl
theorem due_moves {one other : Web} (F : Fits one other) : foldO (m_l_due_l4 one other ((other.1.length : Nat) : Int)) [] one.2 = some (movesX one other) := by
  refine (foldO_len (g := stepO one other) List.length other.2.length 8 (by rw [Nat.mul_comm]; show 0 + _ ≤ 8; rw [Nat.zero_add]; exact F.mm) fun s x hx hl => ?_).1
  have := foldO_len (f := m_l_due_l3 one other ((other.1.length : Nat) : Int) x) (g := step1 one other x) List.length 1 8 (xs := other.2) (s := s) (by omega) fun s y hy hl => ⟨due_l3 F hx hy hl, step1_len⟩
  unfold m_l_due_l4
  rw [this.1]
  exact ⟨rfl, by show (List.foldl _ s other.2).length = _; rw [this.2]; omega⟩
theorem due_names {k : Nat} (h : k ≤ 8) : ∃ v, pcutS (Str.ofString "abcdefgh") none (some ((k : Nat) : Int)) = some v ∧ pchars v = some ((List.range k).map lett) := by
  have key : ∀ k : Fin 9, (pcutS (Str.ofString "abcdefgh") none (some ((k : Nat) : Int))).bind pchars = some ((List.range k).map lett) := by decide +kernel
  exact Option.bind_eq_some_iff.mp (key ⟨k, by omega⟩)
theorem due_is {one other : Web} (F : Fits one other) : m_l_due one other = some (namesX one other, movesX one other) := by
  unfold m_l_due
  have n1 := F.n1
  have n2 := F.n2
  show (foldO (m_l_due_l4 one other ((other.1.length : Nat) : Int)) [] one.2).bind _ = _
  rw [due_moves F]
  obtain ⟨v, h1, h2⟩ := due_names F.nn
  refine bnd (x := ((one.1.length * other.1.length : Nat) : Int)) (by rw [eq_mul (by omega) (by omega) (by omega) (by omega), ← Int.natCast_mul]) ?_
  exact bnd h1 (bnd h2 rfl)
/-! the told one -/
structure DictOk (one other : Web) (ps : List (Str × Str)) (s : List ((Str × Str) × Str)) : Prop where
  k : s.map (·.1) = ps
  v : s.map (·.2) = (List.range s.length).map lett
theorem dput_new {s : List ((Str × Str) × Str)} {k : Str × Str} {v : Str} (h : k ∉ s.map (·.1)) (hl : s.length < 16777216) : dput s k v = some (s ++ [(k, v)]) := by
  unfold dput
  rw [if_pos (by rw [sizeLine_eq]; exact hl)]
  unfold dputT
  rw [if_neg]
  intro ha
  obtain ⟨p, hp, e⟩ := List.any_eq_true.mp ha
  exact h (List.mem_map.mpr ⟨p, hp, by simpa using e⟩)
theorem dictOk_put {one other : Web} {ps : List (Str × Str)} {s : List ((Str × Str) × Str)} (h : DictOk one other ps s) {k : Str × Str} : DictOk one other (ps ++ [k]) (s ++ [(k, lett s.length)]) := by
  refine ⟨by rw [List.map_append, h.k]; rfl, ?_⟩
  rw [List.map_append, h.v, List.length_append, List.length_singleton, List.range_succ, List.map_append]; rfl
def pairs (as bs : List Str) : List (Str × Str) := as.flatMap fun a => bs.map fun b => (a, b)
theorem pairs_len (as bs : List Str) : (pairs as bs).length = as.length * bs.length := by
  unfold pairs
  induction as with
  | nil => simp
  | cons a as ih => rw [List.flatMap_cons, List.length_append, ih, List.length_map, List.length_cons, Nat.succ_mul]; omega
theorem pairs_mem {as bs : List Str} {p : Str × Str} : p ∈ pairs as bs ↔ p.1 ∈ as ∧ p.2 ∈ bs := by
  unfold pairs
  rw [List.mem_flatMap]
  constructor
  · rintro ⟨a, ha, hp⟩
    obtain ⟨b, hb, rfl⟩ := List.mem_map.mp hp
    exact ⟨ha, hb⟩
  · rintro ⟨h1, h2⟩
    exact ⟨p.1, h1, List.mem_map.mpr ⟨p.2, h2, rfl⟩⟩
theorem pairs_get : ∀ {as bs : List Str} {i j : Nat} {a b : Str}, as[i]? = some a → bs[j]? = some b → (pairs as bs)[i * bs.length + j]? = some (a, b)
  | [], bs, i, j, a, b, h, _ => by simp at h
  | c :: as, bs, 0, j, a, b, h, h2 => by
    simp at h; subst h
    unfold pairs
    have hj := (List.getElem?_eq_some_iff.mp h2).1
    rw [List.flatMap_cons, Nat.zero_mul, Nat.zero_add, List.getElem?_append_left (by rw [List.length_map]; exact hj), List.getElem?_map, h2]; rfl
  | c :: as, bs, i + 1, j, a, b, h, h2 => by
    have ih := pairs_get (as := as) (i := i) (by simpa using h) h2
    unfold pairs at ih ⊢
    rw [List.flatMap_cons, List.getElem?_append_right (by rw [List.length_map, Nat.succ_mul]; omega), List.length_map]
    rw [show (i + 1) * bs.length + j - bs.length = i * bs.length + j by rw [Nat.succ_mul]; omega]
    exact ih
theorem nodup_mid {pre post : List Str} {x : Str} {xs : List Str} (hn : xs.Nodup) (e : xs = pre ++ x :: post) : x ∉ pre := fun h => by
  rw [e] at hn
  exact (List.nodup_append.mp hn).2.2 x h x List.mem_cons_self rfl
theorem beside_dict {one other : Web} (F : Fits one other) : Ok (foldO (m_beside_l2 other) [] one.1) (DictOk one other (pairs one.1 other.1)) := by
  have nn := F.nn
  refine foldO_pre (I := fun pre s => DictOk one other (pairs pre other.1) s) ⟨rfl, rfl⟩ fun pre a post s e hi => ?_
  have ha := nodup_mid F.d1 e
  have hpl : pre.length < one.1.length := by rw [e, List.length_append, List.length_cons]; omega
  unfold m_beside_l2
  have : Ok (foldO (m_beside_l1 a) s other.1) (DictOk one other (pairs pre other.1 ++ other.1.map fun b => (a, b))) := by
    refine foldO_pre (I := fun pre2 s => DictOk one other (pairs pre other.1 ++ pre2.map fun b => (a, b)) s) (by simpa using hi) fun pre2 b post2 s2 e2 hi2 => ?_
    have hb := nodup_mid F.d2 e2
    have hl := congrArg List.length hi2.k
    rw [List.length_map, List.length_append, pairs_len, List.length_map] at hl
    have hp2 : pre2.length < other.1.length := by rw [e2, List.length_append, List.length_cons]; omega
    have hlt : s2.length < 8 := by
      have := place_lt hpl hp2
      omega
    have hnew : (a, b) ∉ s2.map (·.1) := by
      rw [hi2.k]
      intro hm
      rcases List.mem_append.mp hm with hm | hm
      · exact ha (pairs_mem.mp hm).1
      · obtain ⟨c, hc, ec⟩ := List.mem_map.mp hm
        have : c = b := (Prod.mk.inj ec).2
        subst this; exact hb hc
    refine Ok.of (x := s2 ++ [((a, b), lett s2.length)]) ?_ ?_
    · unfold m_beside_l1
      rw [abc26 (by omega)]
      show (dput s2 (a, b) (lett s2.length)).bind _ = _
      rw [dput_new hnew (by omega)]; rfl
    · have := dictOk_put hi2 (k := (a, b))
      rw [List.append_assoc] at this
      rw [List.map_append]
      exact this
  obtain ⟨r, er, hr⟩ := this
  rw [er]
  refine Ok.ret ?_
  have e3 : pairs (pre ++ [a]) other.1 = pairs pre other.1 ++ other.1.map fun b => (a, b) := by
    unfold pairs
    rw [List.flatMap_append, List.flatMap_cons, List.flatMap_nil, List.append_nil]
  rw [e3]; exact hr
theorem dget_at : ∀ {s : List ((Str × Str) × Str)} {i : Nat} {p : (Str × Str) × Str}, (s.map (·.1)).Nodup → s[i]? = some p → dget s p.1 = some p.2
  | [], i, p, _, h => by simp at h
  | q :: s, 0, p, _, h => by
    simp at h; subst h
    unfold dget
    rw [List.find?_cons, decide_eq_true rfl]; rfl
  | q :: s, i + 1, p, hn, h => by
    have hn := List.nodup_cons.mp (show (q.1 :: s.map (·.1)).Nodup from hn)
    have h : s[i]? = some p := by simpa using h
    have ih := dget_at hn.2 h
    unfold dget at ih ⊢
    rw [List.find?_cons, decide_eq_false]
    · exact ih
    · intro e
      exact hn.1 (by rw [e]; exact List.mem_map.mpr ⟨p, List.mem_of_getElem? h, rfl⟩)
theorem pairs_nodup {as bs : List Str} (h1 : as.Nodup) (h2 : bs.Nodup) : (pairs as bs).Nodup := by
  induction as with
  | nil => exact List.nodup_nil
  | cons a as ih =>
    have h1 := List.nodup_cons.mp h1
    unfold pairs
    rw [List.flatMap_cons]
    refine List.nodup_append.mpr ⟨List.pairwise_map.mpr (h2.imp fun {x y} h e => h (Prod.mk.inj e).2), ih h1.2, fun p hp q hq e => ?_⟩
    obtain ⟨b, hb, rfl⟩ := List.mem_map.mp hp
    subst e
    exact h1.1 (pairs_mem (as := as) (bs := bs) |>.mp hq).1
theorem dict_get {one other : Web} (F : Fits one other) {s : List ((Str × Str) × Str)} (h : DictOk one other (pairs one.1 other.1) s) {a b : Str} (ha : a ∈ one.1) (hb : b ∈ other.1) :
    dget s (a, b) = some (lett (idx one.1 a * other.1.length + idx other.1 b)) := by
  have hg := pairs_get (idx_get ha) (idx_get hb)
  have hlt := (List.getElem?_eq_some_iff.mp hg).1
  have hl := congrArg List.length h.k
  rw [List.length_map] at hl
  have hs : idx one.1 a * other.1.length + idx other.1 b < s.length := by rw [hl]; exact hlt
  have e1 : (s.map (·.1))[idx one.1 a * other.1.length + idx other.1 b]? = some (a, b) := by rw [h.k]; exact hg
  have e2 : (s.map (·.2))[idx one.1 a * other.1.length + idx other.1 b]? = some (lett (idx one.1 a * other.1.length + idx other.1 b)) := by
    rw [h.v, List.getElem?_map, List.getElem?_range hs]; rfl
  rw [List.getElem?_map, List.getElem?_eq_getElem hs] at e1 e2
  have e3 := dget_at (by rw [h.k]; exact pairs_nodup F.d1 F.d2) (List.getElem?_eq_getElem hs)
  have e1' : s[idx one.1 a * other.1.length + idx other.1 b].1 = (a, b) := Option.some.inj e1
  have e2' := Option.some.inj e2
  rw [e1'] at e3
  rw [e3]
  exact congrArg some e2'
theorem imgs_len (one other : Web) (as bs : List Str) : (imgs one other as bs).length = as.length * bs.length := by
  unfold imgs
  induction as with
  | nil => simp
  | cons a as ih => rw [List.flatMap_cons, List.length_append, ih, List.length_map, List.length_cons, Nat.succ_mul]; omega
theorem beside_imgs {one other : Web} (F : Fits one other) {s : List ((Str × Str) × Str)} (h : DictOk one other (pairs one.1 other.1) s) {x y : Move} (hx : x ∈ one.2) (hy : y ∈ other.2) :
    foldO (m_beside_l4 s y) [] x.2.2 = some (imgs one other x.2.2 y.2.2) := by
  have hx := F.i1 x hx
  have hy := F.i2 y hy
  have : Ok (foldO (m_beside_l4 s y) [] x.2.2) (fun r => r = imgs one other x.2.2 y.2.2) := by
    refine foldO_pre (I := fun pre r => r = imgs one other pre y.2.2) rfl fun pre a post r e hi => ?_
    subst hi
    have ham : a ∈ x.2.2 := by rw [e]; exact List.mem_append_right _ List.mem_cons_self
    have hpl : pre.length ≤ 8 := by
      have := congrArg List.length e
      rw [List.length_append] at this
      omega
    unfold m_beside_l4
    rw [eq_fit (by omega)]
    show Ok ((mapO (m_beside_c3 s a) y.2.2).bind _) _
    rw [mapO_eq (g := fun b => lett (idx one.1 a * other.1.length + idx other.1 b)) fun b hb => by
      unfold m_beside_c3
      rw [dict_get F h (hx.2 a ham) (hy.2 b hb)]; rfl]
    show Ok ((pcat (imgs one other pre y.2.2) _).bind _) _
    have hb := Nat.mul_le_mul hpl hy.1
    have hyl := hy.1
    rw [eq_cat (by rw [imgs_len, List.length_map]; omega)]
    refine Ok.ret ?_
    unfold imgs
    rw [List.flatMap_append, List.flatMap_cons, List.flatMap_nil, List.append_nil]
  obtain ⟨r, e, rfl⟩ := this
  exact e
theorem beside_l5 {one other : Web} (F : Fits one other) {d : List ((Str × Str) × Str)} (h : DictOk one other (pairs one.1 other.1) d) {x y : Move} (hx : x ∈ one.2) (hy : y ∈ other.2) {s : List Move} (hs : s.length + 1 ≤ 8) : m_beside_l5 d x s y = some (step1 one other x s y) := by
  unfold m_beside_l5
  have a1 := F.w1 x hx
  have a2 := F.w2 y hy
  rw [beside_imgs F h hx hy]
  show (pixS (Str.ofString "abcdefghijklmnopqrstuvwxyz") ((s.length : Nat) : Int)).bind _ = _
  rw [abc26 (by omega)]
  show (pmul x.2.1 y.2.1).bind _ = _
  rw [eq_mul (by omega) (by omega) (by omega) (by omega)]
  show (psnoc s _).bind _ = _
  rw [eq_snoc (by omega)]
  rfl
theorem beside_moves {one other : Web} (F : Fits one other) {d : List ((Str × Str) × Str)} (h : DictOk one other (pairs one.1 other.1) d) : foldO (m_beside_l6 other d) [] one.2 = some (movesX one other) ∧ (movesX one other).length ≤ 8 := by
  have key := foldO_len (f := m_beside_l6 other d) (g := stepO one other) (xs := one.2) (s := []) List.length other.2.length 8 (by rw [Nat.mul_comm]; show 0 + _ ≤ 8; rw [Nat.zero_add]; exact F.mm) fun s x hx hl => by
    have := foldO_len (f := m_beside_l5 d x) (g := step1 one other x) List.length 1 8 (xs := other.2) (s := s) (by omega) fun s y hy hl => ⟨beside_l5 F h hx hy hl, step1_len⟩
    unfold m_beside_l6
    rw [this.1]
    exact ⟨rfl, by show (List.foldl _ s other.2).length = _; rw [this.2]; omega⟩
  refine ⟨key.1, ?_⟩
  have : (movesX one other).length = 0 + other.2.length * one.2.length := key.2
  have mm := F.mm
  rw [Nat.mul_comm] at mm
  omega
theorem moves_all {one other : Web} : ∀ m ∈ movesX one other, ∃ x ∈ one.2, ∃ y ∈ other.2, m.2 = (x.2.1 * y.2.1, imgs one other x.2.2 y.2.2) := by
  unfold movesX
  refine foldl_keep (I := fun s : List Move => ∀ m ∈ s, ∃ x ∈ one.2, ∃ y ∈ other.2, m.2 = (x.2.1 * y.2.1, imgs one other x.2.2 y.2.2)) (fun m hm => absurd hm (by simp)) fun s x hx hs => ?_
  unfold stepO
  refine foldl_keep (I := fun s : List Move => ∀ m ∈ s, ∃ x ∈ one.2, ∃ y ∈ other.2, m.2 = (x.2.1 * y.2.1, imgs one other x.2.2 y.2.2)) hs fun s y hy hs m hm => ?_
  rcases List.mem_append.mp (show m ∈ s ++ [_] from hm) with hm | hm
  · exact hs m hm
  · rw [List.mem_singleton.mp hm]
    exact ⟨x, hx, y, hy, rfl⟩
theorem peq_nil {α : Type} {f : α → D} : peq (eLs f []) (eLs f []) = some true := rfl
theorem beside_is {one other : Web} (F : Fits one other) : m_beside one other = some (namesX one other, movesX one other) := by
  unfold m_beside
  have n1 := F.n1
  have n2 := F.n2
  have nn := F.nn
  have mm := F.mm
  obtain ⟨d, hd, hk⟩ := beside_dict F
  have z1 := F.m1
  have z2 := F.m2
  refine bnd (x := ((one.1.length * other.1.length : Nat) : Int)) (by rw [eq_mul (by omega) (by omega) (by omega) (by omega), Int.natCast_mul]) ?_
  refine bnd (x := false) ?_ ?_
  · rw [if_neg (by simp; omega)]
    refine bnd (x := ((one.2.length * other.2.length : Nat) : Int)) (by rw [eq_mul (by omega) (by omega) (by omega) (by omega), Int.natCast_mul]) ?_
    exact congrArg some (decide_eq_false (by omega))
  rw [if_neg Bool.false_ne_true]
  obtain ⟨h1, h2⟩ := beside_moves F hk
  refine bnd hd (bnd h1 (bnd (eq_fit (by omega)) ?_))
  have hf : (movesX one other).filter (fun x => decide (99 < x.2.1)) = [] := by
    refine List.filter_eq_nil_iff.mpr fun m hm => ?_
    obtain ⟨x, hx, y, hy, e⟩ := moves_all m hm
    have := F.ww x hx y hy
    rw [e]
    simp
    omega
  refine bnd (x := true) (by rw [hf]; exact peq_nil) ?_
  rw [if_neg (by decide)]
  have hl := congrArg List.length hk.k
  rw [List.length_map, pairs_len] at hl
  rw [hk.v, hl]
  rfl
end K66

namespace K66
open PySem PySem.Spec PyProof.Rows L2 Evl Wk
theorem plain_names {xs : List Str} (h : xs.length ≤ 16777216) (n : Nat) : PlainN (n + 1) (eTs D.str xs) := by
  refine ⟨by rw [List.length_map]; exact h, fun d hd => ?_⟩
  obtain ⟨x, hx, rfl⟩ := List.mem_map.mp hd
  cases n <;> trivial
theorem same_web {w : Web} (h1 : w.1.length ≤ 16777216) (h2 : w.2.length ≤ 16777216) (h3 : ∀ m ∈ w.2, m.2.2.length ≤ 16777216) : m_l_same (eP2 (eTs D.str) (eTs (eP3 D.str D.int (eTs D.str))) w) (eP2 (eTs D.str) (eTs (eP3 D.str D.int (eTs D.str))) w) = some true := by
  unfold m_l_same
  rw [if_pos]
  refine ⟨rfl, ?_⟩
  refine ⟨by show 2 ≤ 16777216; decide, fun d hd => ?_⟩
  rcases List.mem_cons.mp hd with rfl | hd
  · exact plain_names h1 2
  · rw [List.mem_singleton.mp hd]
    refine ⟨by rw [List.length_map]; exact h2, fun d hd => ?_⟩
    obtain ⟨m, hm, rfl⟩ := List.mem_map.mp hd
    refine ⟨by show 3 ≤ 16777216; decide, fun d hd => ?_⟩
    rcases List.mem_cons.mp hd with rfl | hd
    · trivial
    rcases List.mem_cons.mp hd with rfl | hd
    · trivial
    rw [List.mem_singleton.mp hd]
    exact plain_names (h3 m hm) 0
theorem main : ∀ ns : List Int, ns.length ≤ 63 → m_law ns = some true := by
  intro ns hl
  obtain ⟨dk, h1, hd⟩ := deck_ok hl
  unfold m_law
  refine bnd h1 (bnd (eq_rng (by decide) (by decide) (by decide) (by decide)) ?_)
  have key : Ok (forR m_law_l1 dk (rgI 0 8)) (fun y => ∃ s', y = Fl.nx s' ∧ DeckOk s') := by
    refine forR_nx hd fun s x hx hs => ?_
    unfold m_law_l1
    refine Ok.bind (two_ok hs) fun v15 ⟨ht, hd15⟩ => ?_
    have F := ht.fits
    refine Ok.eqn (due_is F) (Ok.eqn (beside_is F) ?_)
    have nn := F.nn
    obtain ⟨d, hdd, hk⟩ := beside_dict F
    have hm := (beside_moves F hk).2
    have hs2 := same_web (w := (namesX v15.1.1 v15.1.2, movesX v15.1.1 v15.1.2)) (by show ((List.range _).map lett).length ≤ _; rw [List.length_map, List.length_range]; omega) (by show (movesX _ _).length ≤ _; omega) (fun m hm => by
      obtain ⟨x, hx, y, hy, e⟩ := moves_all m hm
      rw [e]
      show (imgs _ _ _ _).length ≤ _
      rw [imgs_len]
      have := Nat.mul_le_mul (F.i1 x hx).1 (F.i2 y hy).1
      omega)
    refine Ok.eqn hs2 (Ok.eqn (x := false) ?_ ?_)
    · rw [if_neg (by decide)]
      exact bnd (beside_is F) (bnd hs2 rfl)
    · rw [if_neg (by decide)]
      exact Ok.ret ⟨_, rfl, hd15⟩
  obtain ⟨y, hy, s', rfl, _⟩ := key
  exact bnd hy rfl
end K66

open PySem PySem.Spec PyProof.Rows L2 Evl Wk K66
namespace K66
theorem all_mk {l : PySem.W.OpenLaw} {w : World} {K : PySem.W.Frag} {h : Heap} {mg : Str → Option Value} {fa : Addr} (X : K.In h) (G : h.Ns mainGlobals mg) (hfa : mg "law" = some (.ref fa))
    {f0 f1 f2 f3 f4 f5 f6 f7 f8 f9 f10 f11 : Addr}
    {od0 an0 od1 an1 od2 an2 od3 an3 od4 an4 od5 an5 od6 an6 od7 an7 od8 an8 od9 an9 od10 an10 od11 an11 : Option Addr}
    {sl0 sl1 sl2 sl3 sl4 sl5 sl6 sl7 sl8 sl9 sl10 sl11 : Array (Option Value)}
    {oc0 kv0 dc0 pm0 cd0 ct0 oc1 kv1 dc1 pm1 cd1 ct1 oc2 kv2 dc2 pm2 cd2 ct2 oc3 kv3 dc3 pm3 cd3 ct3 oc4 kv4 dc4 pm4 cd4 ct4 oc5 kv5 dc5 pm5 cd5 ct5 oc6 kv6 dc6 pm6 cd6 ct6 oc7 kv7 dc7 pm7 cd7 ct7 oc8 kv8 dc8 pm8 cd8 ct8 oc9 kv9 dc9 pm9 cd9 ct9 oc10 kv10 dc10 pm10 cd10 ct10 oc11 kv11 dc11 pm11 cd11 ct11 : Value}
    {t_LETTERS t_MOST t_MOST_WEIGHT : Tok}
    (a0 : PySem.W.nsIn K mainGlobals "_law_deck" = some (some (.ref f0)))
    (l0 : K.lookup f0 = some ⟨oc0, od0, .func (PySem.W.fnOf "_law_deck" "_law_deck" (defArgs s_l_deck) (defBody s_l_deck) (defScope s_l_deck) .none kv0 dc0 pm0 an0 cd0 ct0), sl0⟩)
    (c0 : PySem.W.codeIn K cd0 "_law_deck" = true)
    (k0 : PySem.W.keepIn K (.ref f0) = true)
    (a1 : PySem.W.nsIn K mainGlobals "_law_take" = some (some (.ref f1)))
    (l1 : K.lookup f1 = some ⟨oc1, od1, .func (PySem.W.fnOf "_law_take" "_law_take" (defArgs s_l_take) (defBody s_l_take) (defScope s_l_take) .none kv1 dc1 pm1 an1 cd1 ct1), sl1⟩)
    (c1 : PySem.W.codeIn K cd1 "_law_take" = true)
    (k1 : PySem.W.keepIn K (.ref f1) = true)
    (a2 : PySem.W.nsIn K mainGlobals "_law_names" = some (some (.ref f2)))
    (l2 : K.lookup f2 = some ⟨oc2, od2, .func (PySem.W.fnOf "_law_names" "_law_names" (defArgs s_l_names) (defBody s_l_names) (defScope s_l_names) .none kv2 dc2 pm2 an2 cd2 ct2), sl2⟩)
    (c2 : PySem.W.codeIn K cd2 "_law_names" = true)
    (k2 : PySem.W.keepIn K (.ref f2) = true)
    (a3 : PySem.W.nsIn K mainGlobals "_law_shuffled" = some (some (.ref f3)))
    (l3 : K.lookup f3 = some ⟨oc3, od3, .func (PySem.W.fnOf "_law_shuffled" "_law_shuffled" (defArgs s_l_shuffled) (defBody s_l_shuffled) (defScope s_l_shuffled) .none kv3 dc3 pm3 an3 cd3 ct3), sl3⟩)
    (c3 : PySem.W.codeIn K cd3 "_law_shuffled" = true)
    (k3 : PySem.W.keepIn K (.ref f3) = true)
    (a4 : PySem.W.nsIn K mainGlobals "_law_images" = some (some (.ref f4)))
    (l4 : K.lookup f4 = some ⟨oc4, od4, .func (PySem.W.fnOf "_law_images" "_law_images" (defArgs s_l_images) (defBody s_l_images) (defScope s_l_images) .none kv4 dc4 pm4 an4 cd4 ct4), sl4⟩)
    (c4 : PySem.W.codeIn K cd4 "_law_images" = true)
    (k4 : PySem.W.keepIn K (.ref f4) = true)
    (a5 : PySem.W.nsIn K mainGlobals "_law_some_web" = some (some (.ref f5)))
    (l5 : K.lookup f5 = some ⟨oc5, od5, .func (PySem.W.fnOf "_law_some_web" "_law_some_web" (defArgs s_l_some_web) (defBody s_l_some_web) (defScope s_l_some_web) .none kv5 dc5 pm5 an5 cd5 ct5), sl5⟩)
    (c5 : PySem.W.codeIn K cd5 "_law_some_web" = true)
    (k5 : PySem.W.keepIn K (.ref f5) = true)
    (a6 : PySem.W.nsIn K mainGlobals "_law_sizes" = some (some (.ref f6)))
    (l6 : K.lookup f6 = some ⟨oc6, od6, .func (PySem.W.fnOf "_law_sizes" "_law_sizes" (defArgs s_l_sizes) (defBody s_l_sizes) (defScope s_l_sizes) .none kv6 dc6 pm6 an6 cd6 ct6), sl6⟩)
    (c6 : PySem.W.codeIn K cd6 "_law_sizes" = true)
    (k6 : PySem.W.keepIn K (.ref f6) = true)
    (a7 : PySem.W.nsIn K mainGlobals "_law_two" = some (some (.ref f7)))
    (l7 : K.lookup f7 = some ⟨oc7, od7, .func (PySem.W.fnOf "_law_two" "_law_two" (defArgs s_l_two) (defBody s_l_two) (defScope s_l_two) .none kv7 dc7 pm7 an7 cd7 ct7), sl7⟩)
    (c7 : PySem.W.codeIn K cd7 "_law_two" = true)
    (k7 : PySem.W.keepIn K (.ref f7) = true)
    (a8 : PySem.W.nsIn K mainGlobals "_law_due" = some (some (.ref f8)))
    (l8 : K.lookup f8 = some ⟨oc8, od8, .func (PySem.W.fnOf "_law_due" "_law_due" (defArgs s_l_due) (defBody s_l_due) (defScope s_l_due) .none kv8 dc8 pm8 an8 cd8 ct8), sl8⟩)
    (c8 : PySem.W.codeIn K cd8 "_law_due" = true)
    (k8 : PySem.W.keepIn K (.ref f8) = true)
    (a9 : PySem.W.nsIn K mainGlobals "beside" = some (some (.ref f9)))
    (l9 : K.lookup f9 = some ⟨oc9, od9, .func (PySem.W.fnOf "beside" "beside" (defArgs s_beside) (defBody s_beside) (defScope s_beside) .none kv9 dc9 pm9 an9 cd9 ct9), sl9⟩)
    (c9 : PySem.W.codeIn K cd9 "beside" = true)
    (k9 : PySem.W.keepIn K (.ref f9) = true)
    (a10 : PySem.W.nsIn K mainGlobals "_law_same" = some (some (.ref f10)))
    (l10 : K.lookup f10 = some ⟨oc10, od10, .func (PySem.W.fnOf "_law_same" "_law_same" (defArgs s_l_same) (defBody s_l_same) (defScope s_l_same) .none kv10 dc10 pm10 an10 cd10 ct10), sl10⟩)
    (c10 : PySem.W.codeIn K cd10 "_law_same" = true)
    (k10 : PySem.W.keepIn K (.ref f10) = true)
    (a11 : PySem.W.nsIn K mainGlobals "law" = some (some (.ref f11)))
    (l11 : K.lookup f11 = some ⟨oc11, od11, .func (PySem.W.fnOf "law" "law" (defArgs s_law) (defBody s_law) (defScope s_law) .none kv11 dc11 pm11 an11 cd11 ct11), sl11⟩)
    (c11 : PySem.W.codeIn K cd11 "law" = true)
    (k11 : PySem.W.keepIn K (.ref f11) = true)
    (b_len : PySem.W.nsIn K mainGlobals "len" = some none)
    (b_range : PySem.W.nsIn K mainGlobals "range" = some none)
    (b_max : PySem.W.nsIn K mainGlobals "max" = some none)
    (b_min : PySem.W.nsIn K mainGlobals "min" = some none)
    (b_abs : PySem.W.nsIn K mainGlobals "abs" = some none)
    (b_sum : PySem.W.nsIn K mainGlobals "sum" = some none)
    (b_all : PySem.W.nsIn K mainGlobals "all" = some none)
    (b_int : PySem.W.nsIn K mainGlobals "int" = some none)
    (b_str : PySem.W.nsIn K mainGlobals "str" = some none)
    (b_list : PySem.W.nsIn K mainGlobals "list" = some none)
    (b_tuple : PySem.W.nsIn K mainGlobals "tuple" = some none)
    (b_sorted : PySem.W.nsIn K mainGlobals "sorted" = some none)
    (b_isinstance : PySem.W.nsIn K mainGlobals "isinstance" = some none)
    (b_dict : PySem.W.nsIn K mainGlobals "dict" = some none)
    (b_zip : PySem.W.nsIn K mainGlobals "zip" = some none)
    (b_enumerate : PySem.W.nsIn K mainGlobals "enumerate" = some none)
    (b_set : PySem.W.nsIn K mainGlobals "set" = some none)
    (b_bool : PySem.W.nsIn K mainGlobals "bool" = some none)
    (g_LETTERS : PySem.W.nsIn K mainGlobals "LETTERS" = some (some (.str (Str.ofString "abcdefghijklmnopqrstuvwxyz") t_LETTERS)))
    (g_MOST : PySem.W.nsIn K mainGlobals "MOST" = some (some (.int 8 t_MOST)))
    (g_MOST_WEIGHT : PySem.W.nsIn K mainGlobals "MOST_WEIGHT" = some (some (.int 99 t_MOST_WEIGHT))) :
    ∃ fd : FuncData, (∀ (s : Shared) (v : Value), BindsTo s fd ⟨[v], []⟩ [("script", v)]) ∧ ∀ base : Heap, K.In base → base.Ns mainGlobals mg → FnOk l.prog w K mg base CX0 6 fa fd ["script"] (spR K R_law) := by
  have e := hfa.symm.trans (PySem.W.mg_of X G a11)
  cases e
  have F0 := fun_mk (st := s_l_deck) l0 c0 k0
  have F1 := fun_mk (st := s_l_take) l1 c1 k1
  have F2 := fun_mk (st := s_l_names) l2 c2 k2
  have F3 := fun_mk (st := s_l_shuffled) l3 c3 k3
  have F4 := fun_mk (st := s_l_images) l4 c4 k4
  have F5 := fun_mk (st := s_l_some_web) l5 c5 k5
  have F6 := fun_mk (st := s_l_sizes) l6 c6 k6
  have F7 := fun_mk (st := s_l_two) l7 c7 k7
  have F8 := fun_mk (st := s_l_due) l8 c8 k8
  have F9 := fun_mk (st := s_beside) l9 c9 k9
  have F10 := fun_mk (st := s_l_same) l10 c10 k10
  have F11 := fun_mk (st := s_law) l11 c11 k11
  have B : Blt mg := ⟨PySem.W.mg_none_of X G b_len, PySem.W.mg_none_of X G b_range, PySem.W.mg_none_of X G b_max, PySem.W.mg_none_of X G b_min, PySem.W.mg_none_of X G b_abs, PySem.W.mg_none_of X G b_sum, PySem.W.mg_none_of X G b_all, PySem.W.mg_none_of X G b_int, PySem.W.mg_none_of X G b_str, PySem.W.mg_none_of X G b_list, PySem.W.mg_none_of X G b_tuple, PySem.W.mg_none_of X G b_sorted, PySem.W.mg_none_of X G b_isinstance, PySem.W.mg_none_of X G b_dict, PySem.W.mg_none_of X G b_zip, PySem.W.mg_none_of X G b_enumerate, PySem.W.mg_none_of X G b_set, PySem.W.mg_none_of X G b_bool⟩
  have Cn : Cns mg := ⟨⟨_, PySem.W.mg_of X G g_LETTERS⟩, ⟨_, PySem.W.mg_of X G g_MOST⟩, ⟨_, PySem.W.mg_of X G g_MOST_WEIGHT⟩⟩
  have B0 := F0.binds (ps := ["script"]) fun _ _ _ _ _ _ us hl => match us, hl with | [_], _ => rfl
  have B1 := F1.binds (ps := ["deck", "many"]) fun _ _ _ _ _ _ us hl => match us, hl with | [_, _], _ => rfl
  have B2 := F2.binds (ps := ["deck", "many"]) fun _ _ _ _ _ _ us hl => match us, hl with | [_, _], _ => rfl
  have B3 := F3.binds (ps := ["deck", "things"]) fun _ _ _ _ _ _ us hl => match us, hl with | [_, _], _ => rfl
  have B4 := F4.binds (ps := ["deck", "many"]) fun _ _ _ _ _ _ us hl => match us, hl with | [_, _], _ => rfl
  have B5 := F5.binds (ps := ["deck", "size", "count", "heavy"]) fun _ _ _ _ _ _ us hl => match us, hl with | [_, _, _, _], _ => rfl
  have B6 := F6.binds (ps := ["deck"]) fun _ _ _ _ _ _ us hl => match us, hl with | [_], _ => rfl
  have B7 := F7.binds (ps := ["deck"]) fun _ _ _ _ _ _ us hl => match us, hl with | [_], _ => rfl
  have B8 := F8.binds (ps := ["one", "other"]) fun _ _ _ _ _ _ us hl => match us, hl with | [_, _], _ => rfl
  have B9 := F9.binds (ps := ["one", "other"]) fun _ _ _ _ _ _ us hl => match us, hl with | [_, _], _ => rfl
  have B10 := F10.binds (ps := ["found", "due"]) fun _ _ _ _ _ _ us hl => match us, hl with | [_, _], _ => rfl
  refine ⟨PySem.W.fnOf "law" "law" (defArgs s_law) (defBody s_law) (defScope s_law) .none kv11 dc11 pm11 an11 cd11 ct11, fun s v => .of_eq rfl, fun base _ _ => ?_⟩
  have D_l_deck : DefDk l.prog w K mg base 1 "_law_deck" ["script"] R_l_deck := ⟨f0, _, ok_l_deck F0 B Cn , PySem.W.mg_of X G a0, k0, B0⟩
  have D_l_take : Def l.prog w K mg base 1 "_law_take" ["deck", "many"] R_l_take := ⟨f1, _, ok_l_take F1 B, PySem.W.mg_of X G a1, k1, B1⟩
  have D_l_names : Def l.prog w K mg base 2 "_law_names" ["deck", "many"] R_l_names := ⟨f2, _, ok_l_names F2 B Cn D_l_take, PySem.W.mg_of X G a2, k2, B2⟩
  have D_l_shuffled : Def l.prog w K mg base 2 "_law_shuffled" ["deck", "things"] R_l_shuffled := ⟨f3, _, ok_l_shuffled F3 B Cn D_l_take, PySem.W.mg_of X G a3, k3, B3⟩
  have D_l_images : Def l.prog w K mg base 3 "_law_images" ["deck", "many"] R_l_images := ⟨f4, _, ok_l_images F4 B Cn D_l_take D_l_shuffled, PySem.W.mg_of X G a4, k4, B4⟩
  have D_l_some_web : Def l.prog w K mg base 4 "_law_some_web" ["deck", "size", "count", "heavy"] R_l_some_web := ⟨f5, _, ok_l_some_web F5 B Cn D_l_take D_l_names D_l_images, PySem.W.mg_of X G a5, k5, B5⟩
  have D_l_sizes : Def l.prog w K mg base 2 "_law_sizes" ["deck"] R_l_sizes := ⟨f6, _, ok_l_sizes F6 B Cn D_l_take, PySem.W.mg_of X G a6, k6, B6⟩
  have D_l_two : Def l.prog w K mg base 5 "_law_two" ["deck"] R_l_two := ⟨f7, _, ok_l_two F7 B Cn D_l_take D_l_some_web D_l_sizes, PySem.W.mg_of X G a7, k7, B7⟩
  have D_l_due : Def l.prog w K mg base 1 "_law_due" ["one", "other"] R_l_due := ⟨f8, _, ok_l_due F8 B Cn , PySem.W.mg_of X G a8, k8, B8⟩
  have D_beside : Def l.prog w K mg base 1 "beside" ["one", "other"] R_beside := ⟨f9, _, ok_beside F9 B Cn , PySem.W.mg_of X G a9, k9, B9⟩
  have D_l_same : Def l.prog w K mg base 5 "_law_same" ["found", "due"] R_l_same := ⟨f10, _, ok_l_same F10 B (PySem.W.mg_of X G a10) k10 B10, PySem.W.mg_of X G a10, k10, B10⟩
  exact ok_law F11 B Cn D_l_deck D_l_two D_l_due D_beside D_l_same
theorem law_sp (hmain : ∀ ns : List Int, ns.length ≤ 63 → m_law ns = some true) (K : PySem.W.Frag) (H : Hp) (a : Addr) (ns : List Int) (hl : ns.length ≤ 63) (hS : SqL K H a (ns.map V.int)) : spR K R_law [.ref a] H (fun v _ => v = .bl true) (fun _ _ _ => False) := by
  refine ⟨H, [], [.rlst (ns.map D.int)], [], .bl true, [], RepL.cons (by unfold Rep; exact ⟨a, _, rfl, hS, RepL.of_ints⟩) RepL.nil, ⟨Ex.refl H, fun p hp => absurd hp (by simp), by simp⟩, ⟨ns, true, rfl, rfl, hmain ns hl, rfl, rfl⟩, fun v G2 H2 _ _ r => of_bl r⟩
end K66
set_option maxHeartbeats 0 in
theorem PySem.Challenge.cw_walksago_k66_beside_holds : PySem.Challenge.rw_walksago_k66_beside.Holds := by
  w_on; o_law; k_head; (case hw => w_witness2)
  k_fill
  refine L2.walk_of (l := PySem.Challenge.rw_walksago_k66_beside) (n := 63) (k := 6) (x := "script") (CX := fun _ => L2.CX0) (sp := fun w => Wk.spR _ K66.R_law) rfl (by decide) rfl ⟨rfl, by decide, by decide⟩ (fun w h Y => PySem.W.kIn_of Y) ?F (fun w H a ns hl _ hS => K66.law_sp K66.main _ H a ns hl hS) (fun _ _ _ _ _ h => h)
  case F =>
    intro w mg fa h KX G hmg
    refine' K66.all_mk KX G hmg ?a0 ?l0 ?c0 ?k0 ?a1 ?l1 ?c1 ?k1 ?a2 ?l2 ?c2 ?k2 ?a3 ?l3 ?c3 ?k3 ?a4 ?l4 ?c4 ?k4 ?a5 ?l5 ?c5 ?k5 ?a6 ?l6 ?c6 ?k6 ?a7 ?l7 ?c7 ?k7 ?a8 ?l8 ?c8 ?k8 ?a9 ?l9 ?c9 ?k9 ?a10 ?l10 ?c10 ?k10 ?a11 ?l11 ?c11 ?k11 ?b_len ?b_range ?b_max ?b_min ?b_abs ?b_sum ?b_all ?b_int ?b_str ?b_list ?b_tuple ?b_sorted ?b_isinstance ?b_dict ?b_zip ?b_enumerate ?b_set ?b_bool ?g_LETTERS ?g_MOST ?g_MOST_WEIGHT
    (case a0 => k_is)
    (case l0 => k_is)
    (case c0 => k_is)
    (case k0 => k_is)
    (case a1 => k_is)
    (case l1 => k_is)
    (case c1 => k_is)
    (case k1 => k_is)
    (case a2 => k_is)
    (case l2 => k_is)
    (case c2 => k_is)
    (case k2 => k_is)
    (case a3 => k_is)
    (case l3 => k_is)
    (case c3 => k_is)
    (case k3 => k_is)
    (case a4 => k_is)
    (case l4 => k_is)
    (case c4 => k_is)
    (case k4 => k_is)
    (case a5 => k_is)
    (case l5 => k_is)
    (case c5 => k_is)
    (case k5 => k_is)
    (case a6 => k_is)
    (case l6 => k_is)
    (case c6 => k_is)
    (case k6 => k_is)
    (case a7 => k_is)
    (case l7 => k_is)
    (case c7 => k_is)
    (case k7 => k_is)
    (case a8 => k_is)
    (case l8 => k_is)
    (case c8 => k_is)
    (case k8 => k_is)
    (case a9 => k_is)
    (case l9 => k_is)
    (case c9 => k_is)
    (case k9 => k_is)
    (case a10 => k_is)
    (case l10 => k_is)
    (case c10 => k_is)
    (case k10 => k_is)
    (case a11 => k_is)
    (case l11 => k_is)
    (case c11 => k_is)
    (case k11 => k_is)
    (case b_len => k_is)
    (case b_range => k_is)
    (case b_max => k_is)
    (case b_min => k_is)
    (case b_abs => k_is)
    (case b_sum => k_is)
    (case b_all => k_is)
    (case b_int => k_is)
    (case b_str => k_is)
    (case b_list => k_is)
    (case b_tuple => k_is)
    (case b_sorted => k_is)
    (case b_isinstance => k_is)
    (case b_dict => k_is)
    (case b_zip => k_is)
    (case b_enumerate => k_is)
    (case b_set => k_is)
    (case b_bool => k_is)
    (case g_LETTERS => k_is)
    (case g_MOST => k_is)
    (case g_MOST_WEIGHT => k_is)

