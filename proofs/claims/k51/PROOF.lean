import PyProof.Rows.All
import Wide.All
import OpenK.AllK
import Wide.FinOn
import HandS.ForMost
import HandS.Deep
import HandS.ForExc
import HandS.IsInst
import HandS.CallSlots
import KE.KNest
import HandS.Strs
import KE.KDictDisplayH
import KE.KDictCopyH
import KE.GoesEnum
import HandS.TupAny
import HandS.SetBool
import HandS.SetFor
import PyProof.GenQ
import PyProof.GenRules
import HandS.GenOver
import HandS.GenYield
import HandS.AnyAll
import HandS.EndTab
import HandS.Conv
import PyProof.WalksMore
import PyProof.WalkInts
import PyProof.SeqI3
import PyProof.MinMaxWalk
import HandS.ExcIs
import HandS.TryMany
import HandS.More
import HandS.SortInts
import KE.DataCmp
import PyProof.FactsAll.bool_1
import PyProof.SumWalk
import PySem.Challenge.RW_partfilter_k51_numbers_of_words
set_option Elab.async false
set_option linter.all false
set_option maxRecDepth 100000
set_option maxHeartbeats 4000000
/-! G0: dicts whose keys are tuples, nested; their values whole numbers (readings and rules). -/
namespace G4
open PySem PySem.Spec PyProof.Rows L2
mutual
/-- the value is the key -/
def KeyH (H : Hp) : NestedKey → V → Prop
  | .none, v => v = .non
  | .num i, v => v = .int i
  | .text x, v => v = .str x
  | .tup ks, v => ∃ b vs, v = .ref b ∧ H b = some (.tup vs) ∧ KeysH H ks vs
def KeysH (H : Hp) : List NestedKey → List V → Prop
  | [], vs => vs = []
  | k :: ks, vs => ∃ v r, vs = v :: r ∧ KeyH H k v ∧ KeysH H ks r
end
mutual
theorem keyH_is {P : Program} {w : World} {H : Hp} {h : Heap} (ok : HOk P w H h) : ∀ {k : NestedKey} {v : V} {u : Value}, KeyH H k v → RelV v u → NestedIs h k u
  | .none, _, u, e, r => by
    have e : _ = V.non := e
    subst e
    have r : u = .none := r
    subst r
    exact .none
  | .num i, _, u, e, r => by
    have e : _ = V.int i := e
    subst e
    obtain ⟨t, rfl⟩ := r
    exact .int i t
  | .text x, _, u, e, r => by
    have e : _ = V.str x := e
    subst e
    obtain ⟨t, rfl⟩ := r
    exact .text x t
  | .tup ks, _, u, ⟨b, vs, e, hb, hk⟩, r => by
    subst e
    have r : u = .ref b := r
    subst r
    obtain ⟨_, its, rv, o, h1, h2, n, h3⟩ := (show ObjOk P w H h b (.tup vs) from ok b _ hb)
    exact .tup h1 h2 h3 (by simpa using keysH_is ok hk rv)
theorem keysH_is {P : Program} {w : World} {H : Hp} {h : Heap} (ok : HOk P w H h) : ∀ {ks : List NestedKey} {vs : List V} {us : List Value}, KeysH H ks vs → Vals vs us → NestedAll h ks us
  | [], vs, us, e, r => by
    have e : vs = [] := e
    subst e
    cases r
    exact .nil
  | k :: ks, vs, us, ⟨v, rr, e, h1, h2⟩, r => by
    subst e
    cases r with
    | cons a b => exact .cons (keyH_is ok h1 a) (keysH_is ok h2 b)
end
/-- the entries of the dict, as they lie -/
abbrev Ent := NestedKey × Addr × Int
def EntsR (xs : List Ent) (ys : List (NestedKey × Addr × Value)) : Prop := Paired (fun (x : Ent) (y : NestedKey × Addr × Value) => x.1 = y.1 ∧ x.2.1 = y.2.1 ∧ RelV (.int x.2.2) y.2.2) xs ys
/-- the dict at a -/
def DNx (w : World) (a : Addr) (xs : List Ent) : HO := .ext fun h => (a == sysModules) = false ∧ ∃ ys, EntsR xs ys ∧ ∃ o es ep, h.get? a = some o ∧ o.ExactDict ∧ o.data = .dict es ep ∧ es.toList = ys.map (fun y => (⟨y.1.hash w, .ref y.2.1, y.2.2⟩ : DictEntry)) ∧ (ys.map (·.1)).Nodup
def KeyO (H : Hp) (k : NestedKey) (b : Addr) : Prop := KeyH H k (.ref b) ∧ k.depth ≤ 8
/-- it is a dict, its keys are there -/
structure DNg (w : World) (H : Hp) (a : Addr) (xs : List Ent) : Prop where
  at_ : H a = some (DNx w a xs)
  len : xs.length ≤ 1000000
  keys : ∀ x ∈ xs, KeyO H x.1 x.2.1
def lookN (xs : List Ent) (k : NestedKey) : Option Int := (xs.find? fun x => decide (x.1 = k)).map (·.2.2)
section
variable {X : Cx} {pins : List (Addr × Obj)} {σ : L2.St} {H : Hp} {s : Shared} {a : Addr} {xs : List Ent}
theorem dn_of (I : Inv X pins σ H s) (g : DNg X.w H a xs) : (a == sysModules) = false ∧ ∃ ys, EntsR xs ys ∧ s.heap.DictOfH (nestedKind X.prog X.w) a ys := by
  obtain ⟨⟨hd, ys, r, o, es, ep, h1, h2, h3, h4, h5⟩, _⟩ := (show ObjOk X.prog X.w H s.heap a (DNx X.w a xs) from I.hok a _ g.at_)
  refine ⟨hd, ys, r, o, es, ep, h1, h2, h3, h4, fun y hy => ?_, h5⟩
  have all : ∀ {l : List Ent} {m : List (NestedKey × Addr × Value)}, EntsR l m → (∀ x ∈ l, KeyO H x.1 x.2.1) → ∀ y ∈ m, (nestedKind X.prog X.w).is s.heap y.1 y.2.1 := by
    intro l m q
    induction q with
    | nil => intro _ y hy; exact nomatch hy
    | @cons p q ps qs hq t ih =>
      intro hk y hy
      rcases List.mem_cons.mp hy with e | hy
      · subst e
        obtain ⟨k1, k2⟩ := hk p (List.mem_cons_self ..)
        rw [hq.1, hq.2.1] at k1
        rw [hq.1] at k2
        exact ⟨keyH_is I.hok k1 rfl, k2⟩
      · exact ih (fun x hx => hk x (List.mem_cons_of_mem _ hx)) y hy
  exact all r g.keys y hy
theorem dn_is (I : Inv X pins σ H s) {k : NestedKey} {b : Addr} (h : KeyO H k b) : (nestedKind X.prog X.w).is s.heap k b := ⟨keyH_is I.hok h.1 rfl, h.2⟩
theorem ents_look {xs : List Ent} {ys : List (NestedKey × Addr × Value)} (r : EntsR xs ys) (k : NestedKey) : (lookN xs k = none ↔ atKey ys k = none) ∧ ∀ i, lookN xs k = some i → ∃ p, atKey ys k = some p ∧ RelV (.int i) p.2 := by
  unfold lookN atKey
  induction r with
  | nil => exact ⟨⟨fun _ => rfl, fun _ => rfl⟩, fun i h => nomatch h⟩
  | @cons p q ps qs hq t ih =>
    by_cases h : p.1 = k
    · have h' : q.1 = k := hq.1 ▸ h
      rw [List.find?_cons_of_pos (by simpa using h), List.find?_cons_of_pos (by simpa using h')]
      refine ⟨⟨fun z => (nomatch z), fun z => (nomatch z)⟩, fun i hi => ?_⟩
      cases hi
      exact ⟨_, rfl, hq.2.2⟩
    · have h' : ¬ q.1 = k := hq.1 ▸ h
      rw [List.find?_cons_of_neg (by simpa using h), List.find?_cons_of_neg (by simpa using h')]
      exact ih
theorem ents_snoc {xs : List Ent} {ys : List (NestedKey × Addr × Value)} (r : EntsR xs ys) {k : NestedKey} {b : Addr} {i : Int} {v : Value} (hv : RelV (.int i) v) : EntsR (xs ++ [(k, b, i)]) (ys ++ [(k, b, v)]) := by
  induction r with
  | nil => exact .cons ⟨rfl, rfl, hv⟩ .nil
  | cons hq t ih => exact .cons hq ih
theorem ents_len {xs : List Ent} {ys : List (NestedKey × Addr × Value)} (r : EntsR xs ys) : xs.length = ys.length := by
  induction r with
  | nil => rfl
  | cons hq t ih => simp [ih]
theorem dn_new {P : Program} {w : World} {H : Hp} {h : Heap} {xs : List Ent} {ys : List (NestedKey × Addr × Value)} (hd : (a == sysModules) = false) (r : EntsR xs ys) (dd : h.DictOfH (nestedKind P w) a ys) : ObjOk P w H h a (DNx w a xs) := by
  obtain ⟨o, es, ep, h1, h2, h3, h4, _, h5⟩ := dd
  refine ⟨⟨hd, ys, r, o, es, ep, h1, h2, h3, h4, h5⟩, ⟨o, h1⟩, ?_⟩
  rintro g1 g2 ⟨hd, ys, r, o, es, ep, h1, h2, h3, h4, h5⟩ k
  exact ⟨hd, ys, r, o, es, ep, k o h1, h2, h3, h4, h5⟩
/-- a new key -/
theorem dn_store (I : Inv X pins σ H s) (g : DNg X.w H a xs) {k : NestedKey} {b : Addr} {i : Int} {v : Value} {t' : Nat} {h' : Heap} {ys : List (NestedKey × Addr × Value)} (r : EntsR xs ys) (hd : (a == sysModules) = false) (hv : RelV (.int i) v)
    (hn : atKey ys k = none) (dd : h'.DictOfH (nestedKind X.prog X.w) a (storedH ys k b v)) (hs : Heap.SameBut a s.heap h') : Inv X pins σ (upd H a (DNx X.w a (xs ++ [(k, b, i)]))) { s with heap := h', toks := t' } := by
  rw [storedH_new hn] at dd
  have he : ∃ q, h'.get? a = some q := let ⟨q, _, _, hq, _⟩ := dd; ⟨q, hq⟩
  exact d_write I (by rw [g.at_]; exact True.intro) hs he (dn_new hd (ents_snoc r hv) dd)
/-! ### readings and rules -/
/-- k in d -/
def rDNIn (w : World) (neg : Bool) : R2 := fun x y H Q => ∃ (a b : Addr) (xs : List Ent) (k : NestedKey), x = .ref b ∧ y = .ref a ∧ DNg w H a xs ∧ KeyO H k b ∧ Q (.bl (neg ^^ (lookN xs k).isSome)) H
theorem room_n (hu : X.A.units + 65 < cLine) : (nestedKind X.prog X.w).room X.A.in1 := by
  show X.A.in1.units + 8 < cLine
  rw [Around.in1_units]
  omega
theorem look_isSome {xs : List Ent} {ys : List (NestedKey × Addr × Value)} (r : EntsR xs ys) (k : NestedKey) : (atKey ys k).isSome = (lookN xs k).isSome := by
  obtain ⟨h1, h2⟩ := ents_look r k
  cases h : lookN xs k with
  | none => rw [h1.mp h]; rfl
  | some i => obtain ⟨p, hp, _⟩ := h2 i h; rw [hp]; rfl
theorem op_dnIn (hu : X.A.units + 65 < cLine) : OpR X (compareOp .In) (rDNIn X.w false) := by
  intro pins s σ H x y v u Q I rx ry h
  obtain ⟨a, b, xs, k, rfl, rfl, g, hk, q⟩ := h
  cases rx
  cases ry
  obtain ⟨hd, ys, r, dd⟩ := dn_of I g
  refine wpAny_in_heap (room_n hu) (dn_is I hk) hd dd ⟨.bl (atKey ys k).isSome, H, I.tok _, rfl, ?_⟩
  rw [look_isSome r k]
  simpa using q
theorem op_dnNotIn (hu : X.A.units + 65 < cLine) : OpR X (compareOp .NotIn) (rDNIn X.w true) := by
  intro pins s σ H x y v u Q I rx ry h
  obtain ⟨a, b, xs, k, rfl, rfl, g, hk, q⟩ := h
  cases rx
  cases ry
  obtain ⟨hd, ys, r, dd⟩ := dn_of I g
  refine wpAny_notIn_heap (room_n hu) (dn_is I hk) hd dd ⟨.bl (!(atKey ys k).isSome), H, I.tok _, rfl, ?_⟩
  rw [look_isSome r k]
  simpa using q
/-- d[k], there -/
def tDNGet (w : World) (td ty : TE) : TE := fun σ H Q => td σ H fun x H1 => ty σ H1 fun y H2 => ∃ (a b : Addr) (xs : List Ent) (k : NestedKey) (i : Int), x = .ref a ∧ y = .ref b ∧ DNg w H2 a xs ∧ KeyO H2 k b ∧ lookN xs k = some i ∧ Q (.int i) H2
theorem pe_dnGet {o i : Expr} {td ty : TE} {pos : Pos} (hu : X.A.units + 65 < cLine) (ho : PE X o td) (hi : PE X i ty) (hs : NoSl i) : PE X (.Subscript o i pos) (tDNGet X.w td ty) := by
  refine ⟨fun pins s σ H Q I h => ?_⟩
  refine subD_of PySem.F.slot_dict_getitem.lookup hs (thn (ho.run pins s σ H _ I h) fun u s1 ⟨x, H1, I1, rx, q1⟩ => thn (hi.run pins s1 σ H1 _ I1 q1) fun iv s2 ⟨y, H2, I2, ry, a, b, xs, k, i, ex, ey, g, hk, hl, q2⟩ => ?_)
  subst ex ey
  obtain rfl : u = Value.ref a := rx
  obtain rfl : iv = Value.ref b := ry
  obtain ⟨hd, ys, r, dd⟩ := dn_of I2 g
  obtain ⟨p, hp, rv⟩ := (ents_look r k).2 i hl
  refine ⟨dd.typeIs, wpAny_getItem_heap (room_n hu) (dn_is I2 hk) dd hp ?_⟩
  exact ⟨.int i, H2, I2.tok _, rv, q2⟩
/-- d[k] = i, a new key -/
def rDNSet (w : World) : TSet := fun o y v H Q => ∃ (a b : Addr) (xs : List Ent) (k : NestedKey) (i : Int), o = .ref a ∧ y = .ref b ∧ v = .int i ∧ DNg w H a xs ∧ KeyO H k b ∧ lookN xs k = none ∧ Q (upd H a (DNx w a (xs ++ [(k, b, i)])))
theorem set_dn (hu : X.A.units + 65 < cLine) : PSet X (rDNSet X.w) := by
  intro pins s σ H o i v ov iv u Q I ro ri rv h
  obtain ⟨a, b, xs, k, n, rfl, rfl, rfl, g, hk, hl, q⟩ := h
  cases ro
  cases ri
  obtain ⟨hd, ys, r, dd⟩ := dn_of I g
  have hn := (ents_look r k).1.mp hl
  refine wpAny_setItem_heap (hsz := by rw [← ents_len r, sizeLine_eq]; have := g.len; omega) (room_n hu) (dn_is I hk) dd fun h' dd' hs => ?_
  exact ⟨_, dn_store I g r hd rv hn dd' hs, q⟩
/-- {} of this kind -/
def tDNNew (w : World) : TE := fun _ H Q => ∀ p, H p = none → Q (.ref p) (upd H p (DNx w p []))
theorem pe_dnNew {pos : Pos} : PE X (.Dict [] [] pos) (tDNNew X.w) := ⟨fun pins s σ H Q I h =>
  wpAny_Dict_empty ⟨.ref s.heap.objs.size, _, I.laid (a := s.heap.objs.size) (o := DNx X.w s.heap.objs.size []) (t' := s.toks) (fun _ _ q => Heap.get?_push_of_some _ q) (Nat.le_refl _)
    (dn_new (beq_eq_false_iff_ne.mpr (Ne.symm (Nat.ne_of_lt I.big))) .nil (Heap.DictOfH.new s.heap)), rfl, h _ (I.hok.fresh (Nat.le_refl _))⟩⟩
/-- as wpAny_Dict_pairsH, the entries told -/
theorem wpAny_Dict_pairsX {prog : Program} {w : World} {A : Around} {E : Value → Shared → Prop} {s : Shared} {env : PySem.Env} {keys : List (Option Expr)} {values : List Expr} {pos : Pos} {pairs : List (Sem Value × Sem Value)} {Q : Value → Shared → Prop} (hu : (nestedKind prog w).room A)
    (hshape : (evalEachOpt keys env).zip ((evalEach values env).map fun v => do let x ← v; standAt pos; pure x) = pairs.map fun p => (some p.1, p.2)) (h0 : pairs ≠ []) (hlen : pairs.length ≤ 15)
    (h : wpAny (model prog w) A (evalPairs pairs) (fun vs s₁ => ∃ ps, CarriesH (nestedKind prog w) s₁.heap vs ps ∧ s₁.heap.DictOfH (nestedKind prog w) s.heap.objs.size [] ∧
      ∀ h' tk, h'.DictOfH (nestedKind prog w) s.heap.objs.size (storedAllH [] ps) → Heap.SameBut s.heap.objs.size s₁.heap h' → Q (.ref s.heap.objs.size) { s₁ with heap := h', toks := tk }) E
      { s with heap := s.heap.push { cls := .type "dict", data := .dict #[] } }) :
    wpAny (model prog w) A (eval (.Dict keys values pos) env) Q E s := by
  rw [arm_eval_Dict, hshape, dictDisplay_pairs pairs h0 (by omega)]
  exact wpAny_bind (wpAny_standAt (wpAny_bind (wpAny_subDictH (knd := nestedKind prog w) (Q := fun d s' => wpAny (model prog w) A (pure (Value.ref d)) Q E s') hu hlen
    (wpAny_mono h (fun vs s₁ h₁ => by obtain ⟨ps, hc, hm, hq⟩ := h₁; exact ⟨ps, hc, hm, fun h' tk a b => wpAny_pure (hq h' tk a b)⟩) fun _ _ e => e))))
/-- {k: i} -/
def tDN1 (w : World) (tk tv : TE) : TE := fun σ H Q => ∀ p, H p = none → tk σ (upd H p (DNx w p [])) fun x H1 => tv σ H1 fun y H2 => ∃ (b : Addr) (k : NestedKey) (i : Int), x = .ref b ∧ y = .int i ∧ H2 p = some (DNx w p []) ∧ KeyO H2 k b ∧ Q (.ref p) (upd H2 p (DNx w p [(k, b, i)]))
theorem pe_dn1 {ek ev : Expr} {tk tv : TE} {pos : Pos} (hu : X.A.units + 65 < cLine) (hk : PE X ek tk) (hv : PE X ev tv) : PE X (.Dict [some ek] [ev] pos) (tDN1 X.w tk tv) := by
  refine ⟨fun pins s σ H Q I h => ?_⟩
  have hd0 : (s.heap.objs.size == sysModules) = false := beq_eq_false_iff_ne.mpr (Ne.symm (Nat.ne_of_lt I.big))
  have I1 := I.laid (a := s.heap.objs.size) (o := DNx X.w s.heap.objs.size []) (h' := s.heap.push { cls := .type "dict", data := .dict #[] }) (t' := s.toks) (fun _ _ q => Heap.get?_push_of_some _ q) (Nat.le_refl _)
    (dn_new hd0 .nil (Heap.DictOfH.new s.heap))
  refine wpAny_Dict_pairsX (show X.A.units + 8 < cLine by omega) (pairs := pairTrees [some ek] [ev] X.env pos) (zip_pairTrees [some ek] [ev] X.env pos rfl rfl) (fun z => nomatch z) (by show 1 ≤ 15; decide) ?_
  refine pairTrees_cons_walk (thn (hk.run pins _ σ _ _ I1 (h _ (I.hok.fresh (Nat.le_refl _)))) fun u s1 ⟨x, H1, I1, rx, q1⟩ => thn (hv.run pins s1 σ H1 _ I1 q1) fun w2 s2 ⟨y, H2, I2, ry, b, k, i, ex, ey, e, ho, q2⟩ => pairTrees_nil_walk ?_)
  subst ex ey
  obtain rfl : u = Value.ref b := rx
  have g : DNg X.w H2 s.heap.objs.size [] := ⟨e, Nat.zero_le _, fun x hx => nomatch hx⟩
  obtain ⟨hd, ys, r, dd⟩ := dn_of I2 g
  cases r
  refine ⟨[(k, b, w2)], ⟨rfl, rfl, dn_is I2 ho, trivial⟩, dd, fun h' tk' dk hs => ?_⟩
  exact ⟨.ref s.heap.objs.size, _, dn_store (t' := tk') I2 g .nil hd ry rfl dk hs, rfl, q2⟩
/-- d.setdefault(k, i) -/
def tDNSd (w : World) (td ty tx : TE) : TE := fun σ H Q => td σ H fun x H1 => (∃ (a : Addr) (xs : List Ent), x = .ref a ∧ DNg w H1 a xs) ∧ ty σ H1 fun y H2 => tx σ H2 fun z H3 => ∃ (a b : Addr) (xs : List Ent) (k : NestedKey) (i : Int), x = .ref a ∧ y = .ref b ∧ z = .int i ∧ DNg w H3 a xs ∧ KeyO H3 k b ∧
  (∀ j, lookN xs k = some j → Q (.int j) H3) ∧ (lookN xs k = none → Q (.int i) (upd H3 a (DNx w a (xs ++ [(k, b, i)]))))
theorem pe_dnSd {o e f : Expr} {td ty tx : TE} {apos cpos : Pos} (hu : X.A.units + 65 < cLine) (ho : PE X o td) (he : PE X e ty) (hf : PE X f tx) (m : M2 X o "setdefault" apos e f cpos) : PE X (.Call (.Attribute o "setdefault" apos) [e, f] [] cpos) (tDNSd X.w td ty tx) := by
  refine ⟨fun pins s σ H Q I h => ?_⟩
  refine wpAny_Call_method m.base m.few m.line PySem.F.plainAttrs_dict PySem.F.slot_dict_setdefault PySem.F.type_dict_setdefault (thn (ho.run pins s σ H _ I h) fun u s1 ⟨x, H1, I1, rx, ⟨a, xs, ex, g⟩, q1⟩ => ?_)
  subst ex
  obtain rfl : u = Value.ref a := rx
  obtain ⟨hd, ys, r, dd⟩ := dn_of I1 g
  refine ⟨dd.typeIs, fun b q => ?_, ?_⟩
  · cases q
    obtain ⟨ob, _, _, h1, h2, _⟩ := dd
    exact ⟨ob, h1, h2.2.1⟩
  rw [m.trees]
  refine Calls.callWith_builtin rfl (Calls.evalArgs_plain (Calls.spliced_cons (thn (he.run pins s1 σ H1 _ I1 q1) fun iv s2 ⟨y, H2, I2, ry, q2⟩ =>
    Calls.spliced_cons (thn (hf.run pins s2 σ H2 _ I2 q2) fun fv s3 ⟨z, H3, I3, rz, a', b, xs, k, i, ea, ey, ez, g3, hk, k1, k2⟩ => Calls.spliced_nil ?_))))
  cases ea
  subst ey ez
  obtain rfl : iv = Value.ref b := ry
  obtain ⟨hd, ys, r, dd⟩ := dn_of I3 g3
  refine call_setdefault_heap (hsz := by rw [← ents_len r, sizeLine_eq]; have := g3.len; omega) (room_n hu) (dn_is I3 hk) hd dd (fun p hp => ?_) fun hn h' dd' hs => ?_
  · cases hl : lookN xs k with
    | none => rw [(ents_look r k).1.mp hl] at hp; cases hp
    | some j =>
      obtain ⟨p', hp', rv⟩ := (ents_look r k).2 j hl
      rw [hp] at hp'
      cases hp'
      exact ⟨.int j, H3, I3.tok _, rv, k1 j hl⟩
  · exact ⟨.int i, _, dn_store I3 g3 r hd rz hn dd' hs, rz, k2 ((ents_look r k).1.mpr hn)⟩
/-- len(d) -/
def rLenDN (w : World) : List V → Hp → VK → Prop := fun vs H Q => ∃ (a : Addr) (xs : List Ent), vs = [.ref a] ∧ DNg w H a xs ∧ Q (.int xs.length) H
theorem call_lenDN : CallR X (.builtin "len") (rLenDN X.w) := by
  intro pins s σ H vs us Q I r h
  obtain ⟨a, xs, rfl, g, q⟩ := h
  rw [Vals.ref1 r]
  obtain ⟨hd, ys, r, dd⟩ := dn_of I g
  have hl := ents_len r
  have hx := g.len
  have hraw : ∃ es ep, s.heap.DictRaw a es ep ∧ es.size = xs.length := by
    obtain ⟨o, es, ep, h1, h2, h3, h4, _⟩ := dd
    refine ⟨es, ep, ⟨o, h1, h2, h3⟩, ?_⟩
    rw [← Array.length_toList, h4, List.length_map, hl]
  obtain ⟨es, ep, hr, he⟩ := hraw
  refine call_len_slot (n := (xs.length : Nat)) hr.typeIs F.slot_dict_len (fun Q' hq => call_len_raw hd hr (by rw [he]; exact hq)) (by omega) (by omega) ?_
  exact ⟨.int xs.length, H, (I.tok _).tok _, ⟨_, rfl⟩, q⟩
end
end G4

/-! G1: data without addresses (D), a store of what may change (Mu), and how both lie in the abstract heap. -/
namespace G4
open PySem PySem.Spec PyProof.Rows L2

/-- what a name may hold: data that stays as it is; cell k: the k-th thing that may change -/
inductive D where
  | non | bl (b : Bool) | int (i : Int) | str (x : Str)
  | tup (xs : List D) | lst (xs : List D) | scr (xs : List D) | cell (k : Nat)
  | exn (a : Addr)

/-- what may change -/
inductive M where
  | lst (xs : List D)
  | dK (kvs : List (Key × D))
  | dT (kvs : List (List Key × D))
  | set (xs : List Int)
  | dN (kvs : List (NestedKey × Int))
  | ins (c : Str) (fs : List (Str × D))
abbrev Mu := List (Option M)
abbrev Env := List (Option D)
/-- an exception: its class by name, its fields -/
structure XD where
  cls : Str
  fs : List (Str × D)

mutual
/-- no cells within -/
def D.pure : D → Bool
  | .tup xs => pures xs
  | .lst xs => pures xs
  | .scr xs => pures xs
  | .cell _ => false
  | .exn _ => false
  | _ => true
def pures : List D → Bool
  | [] => true
  | d :: ds => d.pure && pures ds
end
mutual
/-- cells below n alone -/
def D.low (n : Nat) : D → Bool
  | .tup xs => lows n xs
  | .lst xs => lows n xs
  | .scr xs => lows n xs
  | .cell k => decide (k < n)
  | _ => true
def lows (n : Nat) : List D → Bool
  | [] => true
  | d :: ds => d.low n && lows n ds
end
mutual
theorem low_of_pure {n : Nat} : ∀ {d : D}, d.pure = true → d.low n = true
  | .non, _ => rfl
  | .bl _, _ => rfl
  | .int _, _ => rfl
  | .str _, _ => rfl
  | .exn _, _ => rfl
  | .tup xs, h => lows_of_pures (ds := xs) (by simpa [D.pure] using h)
  | .lst xs, h => lows_of_pures (ds := xs) (by simpa [D.pure] using h)
  | .scr xs, h => lows_of_pures (ds := xs) (by simpa [D.pure] using h)
  | .cell _, h => by simp [D.pure] at h
theorem lows_of_pures {n : Nat} : ∀ {ds : List D}, pures ds = true → lows n ds = true
  | [], _ => rfl
  | d :: ds, h => by
    simp only [pures, Bool.and_eq_true] at h
    simp only [lows, Bool.and_eq_true]
    exact ⟨low_of_pure h.1, lows_of_pures h.2⟩
end
theorem pures_iff {ds : List D} : pures ds = true ↔ ∀ d ∈ ds, d.pure = true := by
  induction ds with
  | nil => simp [pures]
  | cons d ds ih => simp [pures, ih]
theorem lows_iff {n : Nat} {ds : List D} : lows n ds = true ↔ ∀ d ∈ ds, d.low n = true := by
  induction ds with
  | nil => simp [lows]
  | cons d ds ih => simp [lows, ih]

def M.low (n : Nat) : M → Bool
  | .lst xs => lows n xs
  | .dK kvs => lows n (kvs.map (·.2))
  | .dT kvs => lows n (kvs.map (·.2))
  | .set _ => true
  | .dN _ => true
  | .ins _ fs => lows n (fs.map (·.2))
def M.pure : M → Bool
  | .lst xs => pures xs
  | .dK kvs => pures (kvs.map (·.2))
  | .dT kvs => pures (kvs.map (·.2))
  | .set _ => true
  | .dN _ => true
  | .ins _ fs => pures (fs.map (·.2))

/-- what is fixed: the written part, the exceptions' classes by name -/
structure Ct where
  cls : Str → Value
  tabs : Addr → Prop
  wld : World
  xds : Addr → List (Str × D) → Prop
  cods : Addr → Addr → Prop
structure Gx where
  K : PySem.W.Frag
  C : Ct
/-- where data lies: N what stays, A the cells' addresses, H the abstract heap -/
structure Hw where
  N : Addr → Prop
  A : List Addr
  H : Hp
  T : Addr → Prop
/-- a code object and its table -/
def CodeO (c P : Addr) : HO := .ext fun h => PySem.W.CodeHd h c P
/-- T: known tables and codes; the codes in a known table are known, their tables too -/
def TabO (T : Addr → Prop) (H : Hp) (a : Addr) : Prop := (∃ P, H a = some (CodeO a P)) ∨ ∃ ps : Array Value, H a = some (.tbl ps) ∧ TriplesOk ps.toList ∧ ∀ pos cv, codeAmong pos ps.toList = some cv → ∃ c' P', cv = .ref c' ∧ H c' = some (CodeO c' P') ∧ T c' ∧ T P' ∧ ∃ ps', H P' = some (.tbl ps')
def TabsOk (T : Addr → Prop) (H : Hp) : Prop := ∀ P, T P → TabO T H P

def ScrAt (K : PySem.W.Frag) (w : Hw) (a : Addr) (vs : List V) : Prop :=
  (w.N a ∧ Rd w.H a (.lst vs)) ∨ (∃ (o : Obj) (its : Array Value) (n : Nat), K.lookup a = some o ∧ o.cls = .type "list" ∧ o.dict = none ∧ o.data = .seq its n ∧ its.size ≤ sizeLine ∧ Vals vs its.toList)
theorem ScrAt.sq {K : PySem.W.Frag} {w : Hw} {a : Addr} {vs : List V} (h : ScrAt K w a vs) : SqL K w.H a vs := by
  rcases h with ⟨_, h⟩ | h
  · exact .inl h
  · exact .inr h

mutual
/-- the value v is the data d -/
def Fr (K : PySem.W.Frag) (w : Hw) : D → V → Prop
  | .non, v => v = .non
  | .bl b, v => v = .bl b
  | .int i, v => v = .int i
  | .str x, v => v = .str x
  | .tup ds, v => ∃ a vs, v = .ref a ∧ w.N a ∧ w.H a = some (.tup vs) ∧ Frs K w ds vs
  | .lst ds, v => ∃ a vs, v = .ref a ∧ w.N a ∧ w.H a = some (.lst vs) ∧ Frs K w ds vs
  | .scr ds, v => ∃ a vs, v = .ref a ∧ ScrAt K w a vs ∧ Frs K w ds vs
  | .cell k, v => ∃ a, v = .ref a ∧ w.A[k]? = some a
  | .exn a, v => v = .ref a
def Frs (K : PySem.W.Frag) (w : Hw) : List D → List V → Prop
  | [], vs => vs = []
  | d :: ds, vs => ∃ v r, vs = v :: r ∧ Fr K w d v ∧ Frs K w ds r
end

/-- known codes stay, known tables stay tables -/
def TC (T : Addr → Prop) (H H' : Hp) : Prop := ∀ a, T a → (∀ P, H a = some (CodeO a P) → H' a = some (CodeO a P)) ∧ ∀ ps, H a = some (.tbl ps) → ∃ ps', H' a = some (.tbl ps')
theorem TC.of {T : Addr → Prop} {H H' : Hp} (h : ∀ a o, T a → H a = some o → H' a = some o) : TC T H H' := fun a ha => ⟨fun P e => h a _ ha e, fun ps e => ⟨ps, h a _ ha e⟩⟩
theorem TC.refl (T : Addr → Prop) (H : Hp) : TC T H H := .of fun _ _ _ e => e
theorem TC.trans {T T1 : Addr → Prop} {H H1 H2 : Hp} (x : TC T H H1) (t : ∀ a, T a → T1 a) (y : TC T1 H1 H2) : TC T H H2 := fun a ha => ⟨fun P e => (y a (t a ha)).1 P ((x a ha).1 P e), fun ps e => by
  obtain ⟨ps1, e1⟩ := (x a ha).2 ps e
  exact (y a (t a ha)).2 ps1 e1⟩
/-- a later state -/
structure Ex (w w' : Hw) : Prop where
  le : ∀ a, w.N a → w'.N a
  pre : ∀ (k : Nat) (a : Addr), w.A[k]? = some a → w'.A[k]? = some a
  keep : ∀ a, w.N a → w'.H a = w.H a
  old : ∀ a o, w.H a = some o → a ∉ w.A → ¬ w.T a → w'.H a = some o
  new : ∀ a, a ∈ w'.A → a ∈ w.A ∨ w.H a = none
  newN : ∀ a, w'.N a → w.N a ∨ w.H a = none ∨ a ∈ w.A
  tabs : ∀ a, w.T a → w'.T a
  newT : ∀ a, w'.T a → w.T a ∨ w.H a = none
  old2 : ∀ a o, w.H a = some o → ∃ o', w'.H a = some o'
  tc : TC w.T w.H w'.H
theorem Ex.refl (w : Hw) : Ex w w := ⟨fun _ h => h, fun _ _ h => h, fun _ _ => rfl, fun _ _ h _ _ => h, fun _ h => .inl h, fun _ h => .inl h, fun _ h => h, fun _ h => .inl h, fun _ o h => ⟨o, h⟩, .refl _ _⟩
theorem Ex.trans {w w1 w2 : Hw} (x : Ex w w1) (y : Ex w1 w2) : Ex w w2 where
  le := fun a h => y.le a (x.le a h)
  pre := fun k a h => y.pre k a (x.pre k a h)
  keep := fun a h => (y.keep a (x.le a h)).trans (x.keep a h)
  old := fun a o h n m => y.old a o (x.old a o h n m) (fun hm => by
    rcases x.new a hm with z | z
    · exact n z
    · rw [h] at z; cases z) fun hm => by
    rcases x.newT a hm with z | z
    · exact m z
    · rw [h] at z; cases z
  new := fun a h => by
    rcases y.new a h with z | z
    · exact x.new a z
    · cases q : w.H a with
      | none => exact .inr rfl
      | some o =>
        obtain ⟨o', e⟩ := x.old2 a o q
        rw [e] at z; cases z
  newN := fun a h => by
    rcases y.newN a h with z | z | z
    · exact x.newN a z
    · cases q : w.H a with
      | none => exact .inr (.inl rfl)
      | some o =>
        obtain ⟨o', e⟩ := x.old2 a o q
        rw [e] at z; cases z
    · rcases x.new a z with z | z
      · exact .inr (.inr z)
      · exact .inr (.inl z)
  tabs := fun a h => y.tabs a (x.tabs a h)
  newT := fun a h => by
    rcases y.newT a h with z | z
    · exact x.newT a z
    · cases q : w.H a with
      | none => exact .inr rfl
      | some o =>
        obtain ⟨o', e⟩ := x.old2 a o q
        rw [e] at z; cases z
  old2 := fun a o h => let ⟨o', e⟩ := x.old2 a o h; y.old2 a o' e
  tc := x.tc.trans x.tabs y.tc
theorem ScrAt.mono {K : PySem.W.Frag} {w w' : Hw} {a : Addr} {vs : List V} (x : Ex w w') (h : ScrAt K w a vs) : ScrAt K w' a vs := by
  rcases h with ⟨n, h⟩ | h
  · refine .inl ⟨x.le _ n, ?_⟩
    unfold Rd
    rw [x.keep _ n]
    exact h
  · exact .inr h
mutual
theorem Fr.mono {K : PySem.W.Frag} {w w' : Hw} (x : Ex w w') : ∀ {d : D} {v : V}, Fr K w d v → Fr K w' d v
  | .non, _, h => h
  | .bl _, _, h => h
  | .int _, _, h => h
  | .str _, _, h => h
  | .tup ds, _, ⟨a, vs, e, n, h, r⟩ => ⟨a, vs, e, x.le _ n, (x.keep _ n).trans h, Frs.mono x r⟩
  | .lst ds, _, ⟨a, vs, e, n, h, r⟩ => ⟨a, vs, e, x.le _ n, (x.keep _ n).trans h, Frs.mono x r⟩
  | .scr ds, _, ⟨a, vs, e, h, r⟩ => ⟨a, vs, e, h.mono x, Frs.mono x r⟩
  | .cell k, _, ⟨a, e, h⟩ => ⟨a, e, x.pre _ _ h⟩
  | .exn _, _, h => h
theorem Frs.mono {K : PySem.W.Frag} {w w' : Hw} (x : Ex w w') : ∀ {ds : List D} {vs : List V}, Frs K w ds vs → Frs K w' ds vs
  | [], _, h => h
  | _ :: _, _, ⟨v, r, e, h, t⟩ => ⟨v, r, e, Fr.mono x h, Frs.mono x t⟩
end
mutual
/-- it leans on N, the heap there, and the cells below n alone -/
theorem Fr.cut {K : PySem.W.Frag} {w w' : Hw} {n : Nat} (hN : ∀ a, w.N a → w'.N a) (hH : ∀ a, w.N a → w'.H a = w.H a) (hA : ∀ (k : Nat) (a : Addr), k < n → w.A[k]? = some a → w'.A[k]? = some a) :
    ∀ {d : D} {v : V}, d.low n = true → Fr K w d v → Fr K w' d v
  | .non, _, _, h => h
  | .bl _, _, _, h => h
  | .int _, _, _, h => h
  | .str _, _, _, h => h
  | .tup ds, _, b, ⟨a, vs, e, n, h, r⟩ => ⟨a, vs, e, hN _ n, (hH _ n).trans h, Frs.cut hN hH hA (by simpa [D.low] using b) r⟩
  | .lst ds, _, b, ⟨a, vs, e, n, h, r⟩ => ⟨a, vs, e, hN _ n, (hH _ n).trans h, Frs.cut hN hH hA (by simpa [D.low] using b) r⟩
  | .scr ds, _, b, ⟨a, vs, e, h, r⟩ => by
    have hs : ScrAt K w' a vs := by
      rcases h with ⟨n, h⟩ | h
      · refine .inl ⟨hN _ n, ?_⟩
        unfold Rd
        rw [hH _ n]
        exact h
      · exact .inr h
    exact ⟨a, vs, e, hs, Frs.cut hN hH hA (by simpa [D.low] using b) r⟩
  | .cell k, _, b, ⟨a, e, h⟩ => ⟨a, e, hA _ _ (by simpa [D.low] using b) h⟩
  | .exn _, _, _, h => h
theorem Frs.cut {K : PySem.W.Frag} {w w' : Hw} {n : Nat} (hN : ∀ a, w.N a → w'.N a) (hH : ∀ a, w.N a → w'.H a = w.H a) (hA : ∀ (k : Nat) (a : Addr), k < n → w.A[k]? = some a → w'.A[k]? = some a) :
    ∀ {ds : List D} {vs : List V}, lows n ds = true → Frs K w ds vs → Frs K w' ds vs
  | [], _, _, h => h
  | _ :: _, _, b, ⟨v, r, e, h, t⟩ => by
    simp only [lows, Bool.and_eq_true] at b
    exact ⟨v, r, e, Fr.cut hN hH hA b.1 h, Frs.cut hN hH hA b.2 t⟩
end

/-- an exception's dict at dd holds these fields -/
def XdAt (K : PySem.W.Frag) (w : Hw) (dd : Addr) (fs : List (Str × D)) : Prop := w.N dd ∧ pures (fs.map (·.2)) = true ∧ ∃ fs' : List (Str × V), w.H dd = some (.xd fs') ∧ fs'.map (·.1) = fs.map (·.1) ∧ Frs K w (fs.map (·.2)) (fs'.map (·.2))
theorem XdAt.cut {K : PySem.W.Frag} {w w' : Hw} {dd : Addr} {fs : List (Str × D)} (hN : ∀ a, w.N a → w'.N a) (hH : ∀ a, w.N a → w'.H a = w.H a) (h : XdAt K w dd fs) : XdAt K w' dd fs := by
  obtain ⟨n, p, fs', e, m, r⟩ := h
  exact ⟨hN _ n, p, fs', (hH _ n).trans e, m, Frs.cut (n := 0) hN hH (fun k a z => absurd z (Nat.not_lt_zero k)) (lows_of_pures p) r⟩
mutual
/-- data as a key -/
def nkOf : D → Option NestedKey
  | .non => some .none
  | .int i => some (.num i)
  | .str x => some (.text x)
  | .tup xs => (nksOf xs).map .tup
  | _ => none
def nksOf : List D → Option (List NestedKey)
  | [] => some []
  | d :: ds => match nkOf d, nksOf ds with
    | some k, some ks => some (k :: ks)
    | _, _ => none
end
mutual
theorem nk_pure : ∀ {d : D} {k : NestedKey}, nkOf d = some k → d.pure = true
  | .non, _, _ => rfl
  | .int _, _, _ => rfl
  | .str _, _, _ => rfl
  | .tup xs, k, h => by
    rw [nkOf] at h
    cases hs : nksOf xs with
    | none => rw [hs] at h; cases h
    | some ks => simpa [D.pure] using nks_pure hs
  | .bl _, _, h => by simp [nkOf] at h
  | .lst _, _, h => by simp [nkOf] at h
  | .scr _, _, h => by simp [nkOf] at h
  | .cell _, _, h => by simp [nkOf] at h
  | .exn _, _, h => by simp [nkOf] at h
theorem nks_pure : ∀ {ds : List D} {ks : List NestedKey}, nksOf ds = some ks → pures ds = true
  | [], _, _ => rfl
  | d :: ds, ks, h => by
    rw [nksOf] at h
    split at h
    · rename_i k ks' h1 h2
      simp only [pures, Bool.and_eq_true]
      exact ⟨nk_pure h1, nks_pure h2⟩
    · cases h
end
mutual
theorem fr_key {K : PySem.W.Frag} {w : Hw} : ∀ {d : D} {v : V} {k : NestedKey}, Fr K w d v → nkOf d = some k → KeyH w.H k v
  | .non, v, k, f, h => by
    cases h
    exact f
  | .int _, v, k, f, h => by
    cases h
    exact f
  | .str _, v, k, f, h => by
    cases h
    exact f
  | .tup xs, v, k, ⟨a, vs, e, n, hH, r⟩, h => by
    rw [nkOf] at h
    cases hs : nksOf xs with
    | none => rw [hs] at h; cases h
    | some ks =>
      rw [hs] at h
      cases h
      exact ⟨a, vs, e, hH, frs_keys r hs⟩
  | .bl _, _, _, _, h => by simp [nkOf] at h
  | .lst _, _, _, _, h => by simp [nkOf] at h
  | .scr _, _, _, _, h => by simp [nkOf] at h
  | .cell _, _, _, _, h => by simp [nkOf] at h
  | .exn _, _, _, _, h => by simp [nkOf] at h
theorem frs_keys {K : PySem.W.Frag} {w : Hw} : ∀ {ds : List D} {vs : List V} {ks : List NestedKey}, Frs K w ds vs → nksOf ds = some ks → KeysH w.H ks vs
  | [], vs, ks, r, h => by
    cases h
    exact r
  | d :: ds, vs, ks, ⟨v, rr, e, f, t⟩, h => by
    rw [nksOf] at h
    split at h
    · rename_i k ks' h1 h2
      cases h
      exact ⟨v, rr, e, fr_key f h1, frs_keys t h2⟩
    · cases h
end
/-- the key's data stands at its place -/
def EntF (K : PySem.W.Frag) (w : Hw) (x : Ent) : Prop := ∃ d, nkOf d = some x.1 ∧ x.1.depth ≤ 8 ∧ Fr K w d (.ref x.2.1)
/-- a set of whole numbers: its members, their number -/
def SetQ (xs : List Int) (n : Nat) (S : Int → Bool) : Prop := n ≤ xs.length ∧ ∀ k, S k = decide (k ∈ xs)
/-- the k-th thing that may change, at a -/
def Mr (G : Gx) (w : Hw) (a : Addr) : M → Prop
  | .lst ds => ∃ vs, w.H a = some (.lst vs) ∧ Frs G.K w ds vs
  | .dK kvs => ∃ kvs' : List (Key × V), w.H a = some (.dK kvs') ∧ kvs'.map (·.1) = kvs.map (·.1) ∧ Frs G.K w (kvs.map (·.2)) (kvs'.map (·.2))
  | .dT kvs => ∃ kvs' : List (List Key × V), w.H a = some (.dT kvs') ∧ kvs'.map (·.1) = kvs.map (·.1) ∧ Frs G.K w (kvs.map (·.2)) (kvs'.map (·.2))
  | .set xs => ∃ (S : Int → Bool) (n : Nat), w.H a = some (SetO G.C.wld a S n) ∧ SetQ xs n S
  | .dN kvs => ∃ xs : List Ent, w.H a = some (DNx G.C.wld a xs) ∧ xs.map (fun x => (x.1, x.2.2)) = kvs ∧ ∀ x ∈ xs, EntF G.K w x
  | .ins c fs => ∃ (C dx : Addr) (fs' : List (Str × V)), G.C.cls c = .ref C ∧ w.H a = some (.ins C dx fs') ∧ fs'.map (·.1) = fs.map (·.1) ∧ Frs G.K w (fs.map (·.2)) (fs'.map (·.2))
theorem Mr.cut {G : Gx} {w w' : Hw} {n : Nat} {a : Addr} (hN : ∀ a, w.N a → w'.N a) (hH : ∀ a, w.N a → w'.H a = w.H a) (hA : ∀ (k : Nat) (a : Addr), k < n → w.A[k]? = some a → w'.A[k]? = some a) (ha : w'.H a = w.H a) :
    ∀ {m : M}, m.low n = true → Mr G w a m → Mr G w' a m
  | .lst ds, b, ⟨vs, h, r⟩ => ⟨vs, ha.trans h, Frs.cut hN hH hA b r⟩
  | .dK kvs, b, ⟨kvs', h, e, r⟩ => ⟨kvs', ha.trans h, e, Frs.cut hN hH hA b r⟩
  | .dT kvs, b, ⟨kvs', h, e, r⟩ => ⟨kvs', ha.trans h, e, Frs.cut hN hH hA b r⟩
  | .set xs, b, ⟨S, n, h, r⟩ => ⟨S, n, ha.trans h, r⟩
  | .dN kvs, b, ⟨xs, h, e, r⟩ => ⟨xs, ha.trans h, e, fun x hx => let ⟨d, h1, h2, h3⟩ := r x hx; ⟨d, h1, h2, Fr.cut hN hH hA (low_of_pure (nk_pure h1)) h3⟩⟩
  | .ins c fs, b, ⟨C, dx, fs', e0, h, e, r⟩ => ⟨C, dx, fs', e0, ha.trans h, e, Frs.cut hN hH hA b r⟩
theorem Mr.mono {G : Gx} {w w' : Hw} {a : Addr} (x : Ex w w') (ha : w'.H a = w.H a) : ∀ {m : M}, Mr G w a m → Mr G w' a m
  | .lst _, ⟨vs, h, r⟩ => ⟨vs, ha.trans h, Frs.mono x r⟩
  | .dK _, ⟨kvs', h, e, r⟩ => ⟨kvs', ha.trans h, e, Frs.mono x r⟩
  | .dT _, ⟨kvs', h, e, r⟩ => ⟨kvs', ha.trans h, e, Frs.mono x r⟩
  | .set _, ⟨S, n, h, r⟩ => ⟨S, n, ha.trans h, r⟩
  | .dN _, ⟨xs, h, e, r⟩ => ⟨xs, ha.trans h, e, fun y hy => let ⟨d, h1, h2, h3⟩ := r y hy; ⟨d, h1, h2, h3.mono x⟩⟩
  | .ins _ _, ⟨C, dx, fs', e0, h, e, r⟩ => ⟨C, dx, fs', e0, ha.trans h, e, Frs.mono x r⟩

/-- the known tables and codes -/
structure Tab0 (G : Gx) (T : Addr → Prop) (H : Hp) : Prop where
  tab : ∀ a, G.C.tabs a → T a ∧ ∃ ps, H a = some (.tbl ps)
  cod : ∀ c P, G.C.cods c P → T c ∧ H c = some (CodeO c P)
/-- the store lies in the heap -/
structure Mc (G : Gx) (w : Hw) (μ : Mu) : Prop where
  len : w.A.length = μ.length
  nd : w.A.Nodup
  cell : ∀ (k : Nat) (m : M) (a : Addr), μ[k]? = some (some m) → w.A[k]? = some a → Mr G w a m ∧ ¬ w.N a
  old : ∀ a, w.N a → ∃ o, w.H a = some o
  oldA : ∀ a ∈ w.A, ∃ o, w.H a = some o
  tab : TabsOk w.T w.H
  tabN : ∀ a, w.T a → ¬ w.N a ∧ a ∉ w.A
  tab0 : Tab0 G w.T w.H
  xd0 : ∀ dd fs, G.C.xds dd fs → XdAt G.K w dd fs
theorem TabsOk.mono {T : Addr → Prop} {H H' : Hp} (h : TabsOk T H) (k : ∀ a o, T a → H a = some o → H' a = some o) : TabsOk T H' := fun a ha => by
  rcases h a ha with ⟨P, e⟩ | ⟨ps, e, t, q⟩
  · exact .inl ⟨P, k _ _ ha e⟩
  · refine .inr ⟨ps, k _ _ ha e, t, fun pos cv hc => ?_⟩
    obtain ⟨c', P', e1, e2, e3, e4, ps', e5⟩ := q pos cv hc
    exact ⟨c', P', e1, k _ _ e3 e2, e3, e4, ps', k _ _ e4 e5⟩
theorem TabO.some {T : Addr → Prop} {H : Hp} {P : Addr} (h : TabO T H P) : ∃ o, H P = some o := by
  rcases h with ⟨P, e⟩ | ⟨ps, e, _⟩
  · exact ⟨_, e⟩
  · exact ⟨_, e⟩
mutual
theorem Fr.low {K : PySem.W.Frag} {w : Hw} : ∀ {d : D} {v : V}, Fr K w d v → d.low w.A.length = true
  | .non, _, _ => rfl
  | .bl _, _, _ => rfl
  | .int _, _, _ => rfl
  | .str _, _, _ => rfl
  | .exn _, _, _ => rfl
  | .tup ds, _, ⟨_, _, _, _, _, r⟩ => by simpa [D.low] using Frs.low r
  | .lst ds, _, ⟨_, _, _, _, _, r⟩ => by simpa [D.low] using Frs.low r
  | .scr ds, _, ⟨_, _, _, _, r⟩ => by simpa [D.low] using Frs.low r
  | .cell k, _, ⟨_, _, h⟩ => by simpa [D.low] using (List.getElem?_eq_some_iff.mp h).1
theorem Frs.low {K : PySem.W.Frag} {w : Hw} : ∀ {ds : List D} {vs : List V}, Frs K w ds vs → lows w.A.length ds = true
  | [], _, _ => rfl
  | _ :: _, _, ⟨_, _, _, h, t⟩ => by simp [lows, Fr.low h, Frs.low t]
end
/-- a later state as far as frozen data and the names of cells go -/
structure Ex0 (w w' : Hw) : Prop where
  le : ∀ a, w.N a → w'.N a
  pre : ∀ (k : Nat) (a : Addr), w.A[k]? = some a → w'.A[k]? = some a
  keep : ∀ a, w.N a → w'.H a = w.H a
theorem Ex.e0 {w w' : Hw} (x : Ex w w') : Ex0 w w' := ⟨x.le, x.pre, x.keep⟩
theorem Ex0.trans {w w1 w2 : Hw} (x : Ex0 w w1) (y : Ex0 w1 w2) : Ex0 w w2 := ⟨fun a h => y.le a (x.le a h), fun k a h => y.pre k a (x.pre k a h), fun a h => (y.keep a (x.le a h)).trans (x.keep a h)⟩
theorem ScrAt.mono0 {K : PySem.W.Frag} {w w' : Hw} {a : Addr} {vs : List V} (x : Ex0 w w') (h : ScrAt K w a vs) : ScrAt K w' a vs := by
  rcases h with ⟨n, h⟩ | h
  · refine .inl ⟨x.le _ n, ?_⟩
    unfold Rd
    rw [x.keep _ n]
    exact h
  · exact .inr h
theorem Fr.mono0 {K : PySem.W.Frag} {w w' : Hw} (x : Ex0 w w') {d : D} {v : V} (h : Fr K w d v) : Fr K w' d v := Fr.cut x.le x.keep (fun k a _ e => x.pre k a e) h.low h
theorem Frs.mono0 {K : PySem.W.Frag} {w w' : Hw} (x : Ex0 w w') {ds : List D} {vs : List V} (h : Frs K w ds vs) : Frs K w' ds vs := Frs.cut x.le x.keep (fun k a _ e => x.pre k a e) h.low h
theorem Mr.low {G : Gx} {w : Hw} {a : Addr} : ∀ {m : M}, Mr G w a m → m.low w.A.length = true
  | .lst _, ⟨_, _, r⟩ => Frs.low r
  | .dK kvs, ⟨_, _, _, r⟩ => Frs.low r
  | .dT kvs, ⟨_, _, _, r⟩ => Frs.low r
  | .set _, _ => rfl
  | .dN _, _ => rfl
  | .ins _ _, ⟨_, _, _, _, _, _, r⟩ => Frs.low r

theorem Frs.length {K : PySem.W.Frag} {w : Hw} : ∀ {ds : List D} {vs : List V}, Frs K w ds vs → vs.length = ds.length
  | [], _, h => by subst h; rfl
  | _ :: _, _, ⟨_, _, e, _, t⟩ => by subst e; simp [Frs.length t]
theorem Frs.get {K : PySem.W.Frag} {w : Hw} : ∀ {ds : List D} {vs : List V} {i : Nat} {d : D}, Frs K w ds vs → ds[i]? = some d → ∃ v, vs[i]? = some v ∧ Fr K w d v
  | [], _, _, _, _, h => by simp at h
  | _ :: _, _, 0, d, ⟨v, r, e, h, t⟩, q => by
    subst e
    simp at q
    subst q
    exact ⟨v, rfl, h⟩
  | _ :: _, _, i + 1, d, ⟨v, r, e, h, t⟩, q => by
    subst e
    simpa using Frs.get (i := i) t (by simpa using q)
theorem Frs.append {K : PySem.W.Frag} {w : Hw} : ∀ {ds es : List D} {vs us : List V}, Frs K w ds vs → Frs K w es us → Frs K w (ds ++ es) (vs ++ us)
  | [], _, _, _, h, q => by subst h; exact q
  | _ :: _, _, _, _, ⟨v, r, e, h, t⟩, q => by subst e; exact ⟨v, _, rfl, h, Frs.append t q⟩
theorem Frs.one {K : PySem.W.Frag} {w : Hw} {d : D} {v : V} (h : Fr K w d v) : Frs K w [d] [v] := ⟨v, [], rfl, h, rfl⟩
theorem Frs.take {K : PySem.W.Frag} {w : Hw} : ∀ {ds : List D} {vs : List V} (n : Nat), Frs K w ds vs → Frs K w (ds.take n) (vs.take n)
  | [], _, n, h => by subst h; simp [Frs]
  | _ :: _, _, 0, _ => by simp [Frs]
  | _ :: _, _, n + 1, ⟨v, r, e, h, t⟩ => by subst e; exact ⟨v, _, rfl, h, Frs.take n t⟩
theorem Frs.drop {K : PySem.W.Frag} {w : Hw} : ∀ {ds : List D} {vs : List V} (n : Nat), Frs K w ds vs → Frs K w (ds.drop n) (vs.drop n)
  | [], _, n, h => by subst h; simp [Frs]
  | _ :: _, _, 0, h => by simpa using h
  | _ :: _, _, n + 1, ⟨v, r, e, h, t⟩ => by subst e; simpa using Frs.drop n t
theorem Frs.set {K : PySem.W.Frag} {w : Hw} {d : D} {v : V} (q : Fr K w d v) : ∀ {ds : List D} {vs : List V} (i : Nat), Frs K w ds vs → Frs K w (ds.set i d) (vs.set i v)
  | [], _, n, h => by subst h; simp [Frs]
  | _ :: _, _, 0, ⟨u, r, e, h, t⟩ => by subst e; exact ⟨v, r, rfl, q, t⟩
  | _ :: _, _, n + 1, ⟨u, r, e, h, t⟩ => by subst e; exact ⟨u, _, rfl, h, Frs.set q n t⟩
theorem Frs.reverse {K : PySem.W.Frag} {w : Hw} : ∀ {ds : List D} {vs : List V}, Frs K w ds vs → Frs K w ds.reverse vs.reverse
  | [], _, h => by subst h; simp [Frs]
  | _ :: _, _, ⟨v, r, e, h, t⟩ => by
    subst e
    rw [List.reverse_cons, List.reverse_cons]
    exact Frs.append (Frs.reverse t) (Frs.one h)
theorem Frs.mem {K : PySem.W.Frag} {w : Hw} {ds : List D} {vs : List V} (h : Frs K w ds vs) {i : Nat} {v : V} (e : vs[i]? = some v) : ∃ d, ds[i]? = some d ∧ Fr K w d v := by
  have hl := h.length
  have hi := (List.getElem?_eq_some_iff.mp e).1
  have hi' : i < ds.length := by omega
  obtain ⟨v', e', r⟩ := h.get (List.getElem?_eq_getElem hi')
  rw [e] at e'
  cases e'
  exact ⟨_, List.getElem?_eq_getElem hi', r⟩

/-! ### the four steps -/
section
variable {G : Gx} {w : Hw} {μ : Mu} {p : Addr} {o : HO}
theorem nodup_get {α : Type} {l : List α} (h : l.Nodup) {i j : Nat} {a : α} (x : l[i]? = some a) (y : l[j]? = some a) : i = j := by
  obtain ⟨h1, e1⟩ := List.getElem?_eq_some_iff.mp x
  obtain ⟨h2, e2⟩ := List.getElem?_eq_some_iff.mp y
  exact (List.getElem_inj h).mp (e1.trans e2.symm)
def Hw.fz (w : Hw) (p : Addr) (o : HO) : Hw := ⟨fun a => w.N a ∨ a = p, w.A, upd w.H p o, w.T⟩
def Hw.mk' (w : Hw) (p : Addr) (o : HO) : Hw := ⟨w.N, w.A ++ [p], upd w.H p o, w.T⟩
def Hw.wr (w : Hw) (p : Addr) (o : HO) : Hw := ⟨w.N, w.A, upd w.H p o, w.T⟩
def Hw.kill (w : Hw) (p : Addr) : Hw := ⟨fun a => w.N a ∨ a = p, w.A, w.H, w.T⟩
theorem upd_some {H : Hp} {p a : Addr} {o u : HO} (h : H a = some u) : ∃ o', upd H p o a = some o' := by
  by_cases e : a = p
  · exact ⟨o, by rw [e]; exact upd_same⟩
  · exact ⟨u, (upd_ne e).trans h⟩
theorem Mc.tabNew (c : Mc G w μ) (hp : w.H p = none) : TabsOk w.T (upd w.H p o) ∧ ¬ w.T p := ⟨c.tab.mono fun a u _ e => (upd_ne (ne_of_none e hp)).trans e, fun z => by obtain ⟨u, e⟩ := (c.tab p z).some; rw [hp] at e; cases e⟩
theorem Tab0.upd_ {T : Addr → Prop} {H : Hp} (c : Tab0 G T H) (h : ∀ a u, T a → H a = some u → a ≠ p) : Tab0 G T (upd H p o) := ⟨fun a ha => by
  obtain ⟨h1, ps, h2⟩ := c.tab a ha
  exact ⟨h1, ps, (upd_ne (h a _ h1 h2)).trans h2⟩, fun a P ha => by
  obtain ⟨h1, h2⟩ := c.cod a P ha
  exact ⟨h1, (upd_ne (h a _ h1 h2)).trans h2⟩⟩
theorem Mc.tab0New (c : Mc G w μ) (hp : w.H p = none) : Tab0 G w.T (upd w.H p o) := c.tab0.upd_ fun a u _ e => ne_of_none e hp
theorem Mc.tabWr (c : Mc G w μ) (hp : ¬ w.T p) : TabsOk w.T (upd w.H p o) ∧ Tab0 G w.T (upd w.H p o) :=
  ⟨c.tab.mono fun a u ha e => (upd_ne (fun z : a = p => hp (z ▸ ha))).trans e, c.tab0.upd_ fun a u ha _ z => hp (z ▸ ha)⟩
theorem nne (hp : w.H p = none) {a : Addr} {u : HO} (h : w.H a = some u) : a ≠ p := ne_of_none h hp
/-- new, and stays -/
theorem Ex.fz (c : Mc G w μ) (hp : w.H p = none) : Ex w (w.fz p o) := by
  refine ⟨fun a h => .inl h, fun _ _ h => h, fun a h => ?_, fun a u h _ _ => ?_, fun a h => .inl h, fun a h => ?_, fun _ h => h, fun _ h => .inl h, fun a u h => upd_some h, TC.of fun a u _ e => (upd_ne (ne_of_none e hp)).trans e⟩
  · obtain ⟨u, e⟩ := c.old a h
    exact upd_ne (nne hp e)
  · exact (upd_ne (nne hp h)).trans h
  · rcases h with h | h
    · exact .inl h
    · subst h; exact .inr (.inl hp)
theorem Mc.fz (c : Mc G w μ) (hp : w.H p = none) : Mc G (w.fz p o) μ := by
  have x : Ex w (w.fz p o) := .fz c hp
  obtain ⟨tb, nT⟩ := c.tabNew (o := o) hp
  refine ⟨c.len, c.nd, fun k m a hm ha => ?_, fun a h => ?_, fun a h => ?_, tb, fun a ha => ⟨fun z => ?_, (c.tabN a ha).2⟩, c.tab0New hp, fun a f z => (c.xd0 a f z).cut x.le x.keep⟩
  · obtain ⟨r, n⟩ := c.cell k m a hm ha
    obtain ⟨u, e⟩ := c.oldA a (List.mem_of_getElem? ha)
    refine ⟨r.mono x (upd_ne (nne hp e)), fun z => ?_⟩
    rcases z with z | z
    · exact n z
    · exact nne hp e z
  · rcases h with h | h
    · obtain ⟨u, e⟩ := c.old a h
      exact ⟨u, (upd_ne (nne hp e)).trans e⟩
    · subst h
      exact ⟨o, upd_same⟩
  · obtain ⟨u, e⟩ := c.oldA a h
    exact ⟨u, (upd_ne (nne hp e)).trans e⟩
  · rcases z with z | z
    · exact (c.tabN a ha).1 z
    · exact nT (z ▸ ha)
/-- new, and may change -/
theorem Ex.mk' (c : Mc G w μ) (hp : w.H p = none) : Ex w (w.mk' p o) := by
  refine ⟨fun a h => h, fun k a h => ?_, fun a h => ?_, fun a u h _ _ => (upd_ne (nne hp h)).trans h, fun a h => ?_, fun a h => .inl h, fun _ h => h, fun _ h => .inl h, fun a u h => upd_some h, TC.of fun a u _ e => (upd_ne (ne_of_none e hp)).trans e⟩
  · show (w.A ++ [p])[k]? = some a
    rw [List.getElem?_append_left (List.getElem?_eq_some_iff.mp h).1]
    exact h
  · obtain ⟨u, e⟩ := c.old a h
    exact upd_ne (nne hp e)
  · rcases List.mem_append.mp h with h | h
    · exact .inl h
    · have : a = p := by simpa using h
      subst this
      exact .inr hp
theorem Mc.mk' {m : M} (c : Mc G w μ) (hp : w.H p = none) (r : Mr G (w.mk' p o) p m) : Mc G (w.mk' p o) (μ ++ [some m]) := by
  have x : Ex w (w.mk' p o) := .mk' c hp
  obtain ⟨tb, nT⟩ := c.tabNew (o := o) hp
  refine ⟨?_, ?_, fun k m' a hm ha => ?_, fun a h => ?_, fun a h => ?_, tb, fun a ha => ⟨(c.tabN a ha).1, fun z => ?_⟩, c.tab0New hp, fun a f z => (c.xd0 a f z).cut x.le x.keep⟩
  · show (w.A ++ [p]).length = _
    simp [c.len]
  · show (w.A ++ [p]).Nodup
    refine List.nodup_append.mpr ⟨c.nd, by simp, fun a ha b hb => ?_⟩
    have : b = p := by simpa using hb
    subst this
    obtain ⟨u, e⟩ := c.oldA a ha
    exact nne hp e
  · have ha : (w.A ++ [p])[k]? = some a := ha
    by_cases hk : k < μ.length
    · rw [List.getElem?_append_left hk] at hm
      rw [List.getElem?_append_left (by rw [c.len]; exact hk)] at ha
      obtain ⟨r', n⟩ := c.cell k m' a hm ha
      obtain ⟨u, e⟩ := c.oldA a (List.mem_of_getElem? ha)
      exact ⟨r'.mono x (upd_ne (nne hp e)), n⟩
    · have hk2 : k < μ.length + 1 := by simpa using (List.getElem?_eq_some_iff.mp hm).1
      have ek : k = μ.length := by omega
      subst ek
      rw [← c.len] at ha
      simp at hm ha
      subst hm ha
      exact ⟨r, fun z => by obtain ⟨u, e⟩ := c.old _ z; rw [hp] at e; cases e⟩
  · obtain ⟨u, e⟩ := c.old a h
    exact ⟨u, (upd_ne (nne hp e)).trans e⟩
  · rcases List.mem_append.mp h with h | h
    · obtain ⟨u, e⟩ := c.oldA a h
      exact ⟨u, (upd_ne (nne hp e)).trans e⟩
    · have : a = p := by simpa using h
      subst this
      exact ⟨o, upd_same⟩
  · rcases List.mem_append.mp z with z | z
    · exact (c.tabN a ha).2 z
    · have : a = p := by simpa using z
      exact nT (this ▸ ha)
/-- written -/
theorem Ex.wr {k : Nat} {m : M} (c : Mc G w μ) (hm : μ[k]? = some (some m)) (ha : w.A[k]? = some p) : Ex w (w.wr p o) := by
  obtain ⟨_, n⟩ := c.cell k m p hm ha
  refine ⟨fun a h => h, fun k a h => h, fun a h => upd_ne fun z => n (z ▸ h), fun a u h na _ => ?_, fun a h => .inl h, fun a h => .inl h, fun _ h => h, fun _ h => .inl h, fun a u h => upd_some h, TC.of fun a u ht e => (upd_ne fun z => (c.tabN a ht).2 (by rw [z]; exact List.mem_of_getElem? ha)).trans e⟩
  exact (upd_ne fun z => na (by rw [z]; exact List.mem_of_getElem? ha)).trans h
theorem Mc.wr {k : Nat} {m m' : M} (c : Mc G w μ) (hm : μ[k]? = some (some m)) (ha : w.A[k]? = some p) (r : Mr G (w.wr p o) p m') : Mc G (w.wr p o) (μ.set k (some m')) := by
  have x : Ex w (w.wr p o) := .wr c hm ha
  obtain ⟨tb, tb0⟩ := c.tabWr (o := o) fun z => (c.tabN p z).2 (List.mem_of_getElem? ha)
  refine ⟨?_, c.nd, fun j m2 a hm2 ha2 => ?_, fun a h => ?_, fun a h => ?_, tb, c.tabN, tb0, fun a f z => (c.xd0 a f z).cut x.le x.keep⟩
  · show w.A.length = _
    rw [List.length_set]
    exact c.len
  · have ha2 : w.A[j]? = some a := ha2
    by_cases hj : j = k
    · subst hj
      rw [ha] at ha2
      cases ha2
      have hlt : j < μ.length := (List.getElem?_eq_some_iff.mp hm).1
      rw [List.getElem?_set_self hlt] at hm2
      cases hm2
      exact ⟨r, (c.cell j m p hm ha).2⟩
    · rw [List.getElem?_set_ne (Ne.symm hj)] at hm2
      obtain ⟨r2, n2⟩ := c.cell j m2 a hm2 ha2
      have hne : a ≠ p := fun z => hj (nodup_get c.nd ha2 (z ▸ ha))
      exact ⟨r2.mono x (upd_ne hne), n2⟩
  · obtain ⟨u, e⟩ := c.old a h
    by_cases hp : a = p
    · exact ⟨o, by rw [hp]; exact upd_same⟩
    · exact ⟨u, (upd_ne hp).trans e⟩
  · obtain ⟨u, e⟩ := c.oldA a h
    by_cases hp : a = p
    · exact ⟨o, by rw [hp]; exact upd_same⟩
    · exact ⟨u, (upd_ne hp).trans e⟩
/-- it may change no more -/
theorem Ex.kill {k : Nat} (ha : w.A[k]? = some p) : Ex w (w.kill p) := ⟨fun _ h => .inl h, fun _ _ h => h, fun _ _ => rfl, fun _ _ h _ _ => h, fun _ h => .inl h, fun a h => by
  rcases h with h | h
  · exact .inl h
  · subst h; exact .inr (.inr (List.mem_of_getElem? ha)), fun _ h => h, fun _ h => .inl h, fun _ o h => ⟨o, h⟩, .refl _ _⟩
theorem Mc.kill {k : Nat} {m : M} (c : Mc G w μ) (hm : μ[k]? = some (some m)) (ha : w.A[k]? = some p) : Mc G (w.kill p) (μ.set k none) := by
  have x := Ex.kill ha
  refine ⟨?_, c.nd, fun j m2 a hm2 ha2 => ?_, fun a h => ?_, c.oldA, c.tab, fun a h => ⟨fun z => ?_, (c.tabN a h).2⟩, c.tab0, fun a f z => (c.xd0 a f z).cut x.le x.keep⟩
  · show w.A.length = _
    rw [List.length_set]
    exact c.len
  · have ha2 : w.A[j]? = some a := ha2
    by_cases hj : j = k
    · subst hj
      have hlt : j < μ.length := (List.getElem?_eq_some_iff.mp hm).1
      rw [List.getElem?_set_self hlt] at hm2
      cases hm2
    · rw [List.getElem?_set_ne (Ne.symm hj)] at hm2
      obtain ⟨r2, n2⟩ := c.cell j m2 a hm2 ha2
      refine ⟨r2.mono x rfl, fun z => ?_⟩
      rcases z with z | z
      · exact n2 z
      · exact hj (nodup_get c.nd ha2 (z ▸ ha))
  · rcases h with h | h
    · exact c.old a h
    · subst h
      exact c.oldA a (List.mem_of_getElem? ha)
  · rcases z with z | z
    · exact (c.tabN a h).1 z
    · exact (c.tabN a h).2 (z ▸ List.mem_of_getElem? ha)

/-! ### an object that is known to none yet -/
structure Hid (w : Hw) (p : Addr) (o : HO) : Prop where
  at_ : w.H p = some o
  nA : p ∉ w.A
  nN : ¬ w.N p
  nT : ¬ w.T p
theorem Hid.new (c : Mc G w μ) (hp : w.H p = none) : Ex w (w.wr p o) ∧ Mc G (w.wr p o) μ ∧ Hid (w.wr p o) p o := by
  have x : Ex w (w.wr p o) := ⟨fun _ h => h, fun _ _ h => h, fun b hb => by obtain ⟨u, e⟩ := c.old b hb; exact upd_ne (nne hp e), fun b u e _ _ => (upd_ne (nne hp e)).trans e, fun _ h => .inl h, fun _ h => .inl h, fun _ h => h, fun _ h => .inl h, fun a u h => upd_some h, TC.of fun a u _ e => (upd_ne (ne_of_none e hp)).trans e⟩
  obtain ⟨tb, nT⟩ := c.tabNew (o := o) hp
  refine ⟨x, ⟨c.len, c.nd, fun k m a hm ha => ?_, fun a h => ?_, fun a h => ?_, tb, c.tabN, c.tab0New hp, fun a f z => (c.xd0 a f z).cut x.le x.keep⟩, ⟨upd_same, fun hm => ?_, fun hm => ?_, nT⟩⟩
  · obtain ⟨q, n⟩ := c.cell k m a hm ha
    obtain ⟨u, e⟩ := c.oldA a (List.mem_of_getElem? ha)
    exact ⟨q.mono x (upd_ne (nne hp e)), n⟩
  · obtain ⟨u, e⟩ := c.old a h
    exact ⟨u, (upd_ne (nne hp e)).trans e⟩
  · obtain ⟨u, e⟩ := c.oldA a h
    exact ⟨u, (upd_ne (nne hp e)).trans e⟩
  · obtain ⟨u, e⟩ := c.oldA p hm
    rw [hp] at e; cases e
  · obtain ⟨u, e⟩ := c.old p hm
    rw [hp] at e; cases e
theorem Hid.ex {w' : Hw} (h : Hid w p o) (x : Ex w w') : Hid w' p o := by
  refine ⟨x.old p o h.at_ h.nA h.nT, fun hm => ?_, fun hm => ?_, fun hm => ?_⟩
  · rcases x.new p hm with z | z
    · exact h.nA z
    · rw [h.at_] at z; cases z
  · rcases x.newN p hm with z | z | z
    · exact h.nN z
    · rw [h.at_] at z; cases z
    · exact h.nA z
  · rcases x.newT p hm with z | z
    · exact h.nT z
    · rw [h.at_] at z; cases z
/-- written -/
theorem Hid.wr {w0 : Hw} {μ0 : Mu} {o' : HO} (c0 : Mc G w0 μ0) (hp : w0.H p = none) (x0 : Ex w0 w) (h : Hid w p o) (c : Mc G w μ) : Ex w0 (w.wr p o') ∧ Mc G (w.wr p o') μ ∧ Hid (w.wr p o') p o' ∧ ∀ {ds : List D} {vs : List V}, Frs G.K w ds vs → Frs G.K (w.wr p o') ds vs := by
  have neN : ∀ a, w.N a → a ≠ p := fun a ha z => h.nN (z ▸ ha)
  have neA : ∀ a, a ∈ w.A → a ≠ p := fun a ha z => h.nA (z ▸ ha)
  have fr : ∀ {ds : List D} {vs : List V}, Frs G.K w ds vs → Frs G.K (w.wr p o') ds vs := fun {ds vs} r =>
    Frs.cut (w := w) (w' := w.wr p o') (n := w.A.length) (fun _ z => z) (fun a ha => upd_ne (neN a ha)) (fun _ _ _ z => z) r.low r
  refine ⟨⟨x0.le, x0.pre, fun a ha => (upd_ne (neN a (x0.le a ha))).trans (x0.keep a ha), fun a u e na nt => (upd_ne (nne hp e)).trans (x0.old a u e na nt), x0.new, x0.newN, x0.tabs, x0.newT, fun a u e => let ⟨o2, e2⟩ := x0.old2 a u e; upd_some e2, x0.tc.trans x0.tabs (TC.of fun a u ht e => (upd_ne fun z : a = p => h.nT (z ▸ ht)).trans e)⟩, ⟨c.len, c.nd, fun k m a hm ha => ?_, fun a ha => ?_, fun a ha => ?_, (c.tabWr h.nT).1, c.tabN, (c.tabWr h.nT).2, fun a f z => XdAt.cut (w := w) (w' := w.wr p o') (fun _ z => z) (fun a ha => upd_ne (neN a ha)) (c.xd0 a f z)⟩, ⟨upd_same, h.nA, h.nN, h.nT⟩, fr⟩
  · obtain ⟨q, n⟩ := c.cell k m a hm ha
    exact ⟨Mr.cut (w := w) (w' := w.wr p o') (n := w.A.length) (fun _ z => z) (fun a ha => upd_ne (neN a ha)) (fun _ _ _ z => z) (upd_ne (neA a (List.mem_of_getElem? ha))) q.low q, n⟩
  · obtain ⟨u, e⟩ := c.old a ha
    exact ⟨u, (upd_ne (neN a ha)).trans e⟩
  · obtain ⟨u, e⟩ := c.oldA a ha
    exact ⟨u, (upd_ne (neA a ha)).trans e⟩
/-- from now on it stays -/
theorem Hid.stays {w0 : Hw} (hp : w0.H p = none) (x0 : Ex w0 w) (h : Hid w p o) (c : Mc G w μ) : Ex w0 (w.kill p) ∧ Mc G (w.kill p) μ ∧ ∀ {ds : List D} {vs : List V}, Frs G.K w ds vs → Frs G.K (w.kill p) ds vs := by
  have fr : ∀ {ds : List D} {vs : List V}, Frs G.K w ds vs → Frs G.K (w.kill p) ds vs := fun {ds vs} r =>
    Frs.cut (w := w) (w' := w.kill p) (n := w.A.length) (fun _ z => .inl z) (fun _ _ => rfl) (fun _ _ _ z => z) r.low r
  refine ⟨⟨fun a ha => .inl (x0.le a ha), x0.pre, x0.keep, x0.old, x0.new, fun a ha => ?_, x0.tabs, x0.newT, x0.old2, x0.tc⟩, ⟨c.len, c.nd, fun k m a hm ha => ?_, fun a ha => ?_, c.oldA, c.tab, fun a ha => ⟨fun z => ?_, (c.tabN a ha).2⟩, c.tab0, fun a f z => XdAt.cut (w := w) (w' := w.kill p) (fun _ z => .inl z) (fun _ _ => rfl) (c.xd0 a f z)⟩, fr⟩
  · rcases ha with ha | ha
    · exact x0.newN a ha
    · subst ha; exact .inr (.inl hp)
  · obtain ⟨q, n⟩ := c.cell k m a hm ha
    refine ⟨Mr.cut (w := w) (w' := w.kill p) (n := w.A.length) (fun _ z => .inl z) (fun _ _ => rfl) (fun _ _ _ z => z) rfl q.low q, fun z => ?_⟩
    rcases z with z | z
    · exact n z
    · subst z; exact h.nA (List.mem_of_getElem? ha)
  · rcases ha with ha | ha
    · exact c.old a ha
    · subst ha; exact ⟨o, h.at_⟩
  · rcases z with z | z
    · exact (c.tabN a ha).1 z
    · exact h.nT (z ▸ ha)
def Hw.cel (w : Hw) (p : Addr) : Hw := ⟨w.N, w.A ++ [p], w.H, w.T⟩
/-- from now on it is a cell -/
theorem Hid.cel {w0 : Hw} {m : M} (hp : w0.H p = none) (x0 : Ex w0 w) (h : Hid w p o) (c : Mc G w μ) (r : Mr G w p m) : Ex w0 (w.cel p) ∧ Mc G (w.cel p) (μ ++ [some m]) ∧ (w.cel p).A[μ.length]? = some p := by
  have pre : ∀ (k : Nat) (a : Addr), w.A[k]? = some a → (w.A ++ [p])[k]? = some a := fun k a e => by
    rw [List.getElem?_append_left (List.getElem?_eq_some_iff.mp e).1]
    exact e
  have last : (w.A ++ [p])[μ.length]? = some p := by rw [← c.len]; simp
  refine ⟨⟨x0.le, fun k a e => pre k a (x0.pre k a e), x0.keep, x0.old, fun a ha => ?_, x0.newN, x0.tabs, x0.newT, x0.old2, x0.tc⟩, ⟨?_, ?_, fun k m' a hm ha => ?_, c.old, fun a ha => ?_, c.tab, fun a ha => ⟨(c.tabN a ha).1, fun z => ?_⟩, c.tab0, fun a f z => XdAt.cut (w := w) (w' := w.cel p) (fun _ z => z) (fun _ _ => rfl) (c.xd0 a f z)⟩, last⟩
  · rcases List.mem_append.mp ha with ha | ha
    · exact x0.new a ha
    · have : a = p := by simpa using ha
      subst this; exact .inr hp
  · show (w.A ++ [p]).length = _
    simp [c.len]
  · show (w.A ++ [p]).Nodup
    refine List.nodup_append.mpr ⟨c.nd, by simp, fun a ha b hb => ?_⟩
    have : b = p := by simpa using hb
    subst this
    exact fun z => h.nA (z ▸ ha)
  · have ha : (w.A ++ [p])[k]? = some a := ha
    have cut : ∀ {m : M}, Mr G w a m → Mr G (w.cel p) a m := fun {m} q => Mr.cut (w := w) (w' := w.cel p) (n := w.A.length) (fun _ z => z) (fun _ _ => rfl) (fun k a _ z => pre k a z) rfl q.low q
    by_cases hk : k < μ.length
    · rw [List.getElem?_append_left hk] at hm
      rw [List.getElem?_append_left (by rw [c.len]; exact hk)] at ha
      obtain ⟨r', n⟩ := c.cell k m' a hm ha
      exact ⟨cut r', n⟩
    · have hk2 : k < μ.length + 1 := by simpa using (List.getElem?_eq_some_iff.mp hm).1
      have ek : k = μ.length := by omega
      subst ek
      rw [last] at ha
      cases ha
      simp at hm
      subst hm
      exact ⟨cut r, h.nN⟩
  · rcases List.mem_append.mp ha with ha | ha
    · exact c.oldA a ha
    · have : a = p := by simpa using ha
      subst this; exact ⟨o, h.at_⟩
  · rcases List.mem_append.mp z with z | z
    · exact (c.tabN a ha).2 z
    · have : a = p := by simpa using z
      exact h.nT (this ▸ ha)
end
end G4

/-! G2: what an expression yields, on data alone; how this stands for the reading. -/
namespace G4
open PySem PySem.Spec PyProof.Rows L2

inductive Rs (α : Type) where
  | ok (a : α) (μ : Mu)
  | exc (x : XD) (μ : Mu)
abbrev Ro (α : Type) := Option (Rs α)
abbrev Ev (α : Type) := Env → Mu → Ro α
def Ro.bnd {α β : Type} (r : Ro α) (g : α → Mu → Ro β) : Ro β := match r with
  | some (.ok a μ) => g a μ
  | some (.exc x μ) => some (.exc x μ)
  | none => none
theorem Ro.bnd_ok {α β : Type} (a : α) (μ : Mu) (g : α → Mu → Ro β) : Ro.bnd (some (.ok a μ)) g = g a μ := rfl
theorem Ro.bnd_none {α β : Type} (g : α → Mu → Ro β) : Ro.bnd (none : Ro α) g = none := rfl
theorem Ro.bnd_exc {α β : Type} (x : XD) (μ : Mu) (g : α → Mu → Ro β) : Ro.bnd (some (.exc x μ) : Ro α) g = some (.exc x μ) := rfl
theorem Ro.bnd_some {α β : Type} {r : Ro α} {g : α → Mu → Ro β} {q : Rs β} (h : Ro.bnd r g = some q) :
    (∃ a μ, r = some (.ok a μ) ∧ g a μ = some q) ∨ (∃ x μ, r = some (.exc x μ) ∧ q = .exc x μ) := by
  cases r with
  | none => cases h
  | some r =>
    cases r with
    | ok a μ => exact .inl ⟨a, μ, rfl, h⟩
    | exc x μ => cases h; exact .inr ⟨x, μ, rfl, rfl⟩

/-- the names' values -/
structure Vr (K : PySem.W.Frag) (w : Hw) (ρ : Env) (σ : L2.St) : Prop where
  len : σ.length = ρ.length
  at_ : ∀ (i : Nat) (d : D), ρ[i]? = some (some d) → ∃ v, σ[i]? = some (some v) ∧ Fr K w d v
theorem Vr.mono {K : PySem.W.Frag} {w w' : Hw} {ρ : Env} {σ : L2.St} (x : Ex w w') (h : Vr K w ρ σ) : Vr K w' ρ σ :=
  ⟨h.len, fun i d e => let ⟨v, e2, r⟩ := h.at_ i d e; ⟨v, e2, r.mono x⟩⟩
theorem Vr.set {K : PySem.W.Frag} {w : Hw} {ρ : Env} {σ : L2.St} {d : D} {v : V} (h : Vr K w ρ σ) (r : Fr K w d v) (i : Nat) : Vr K w (ρ.set i (some d)) (σ.set i (some v)) := by
  refine ⟨by simp [h.len], fun j e q => ?_⟩
  by_cases hj : j = i
  · subst hj
    have hl : j < ρ.length := by simpa using (List.getElem?_eq_some_iff.mp q).1
    rw [List.getElem?_set_self hl] at q
    cases q
    exact ⟨v, List.getElem?_set_self (by rw [h.len]; exact hl), r⟩
  · rw [List.getElem?_set_ne (Ne.symm hj)] at q
    rw [List.getElem?_set_ne (Ne.symm hj)]
    exact h.at_ j e q
/-- an exception -/
def Xr (G : Gx) (w : Hw) (x : XD) (cls : Value) (dx : Option Addr) : Prop :=
  cls = G.C.cls x.cls ∧ match x.fs with
  | [] => dx = none
  | fs => ∃ (a : Addr) (fs' : List (Str × V)), dx = some a ∧ w.N a ∧ w.H a = some (.xd fs') ∧ fs'.map (·.1) = fs.map (·.1) ∧ Frs G.K w (fs.map (·.2)) (fs'.map (·.2))

/-- the cells below n bear nothing above -/
def Lo (n : Nat) (μ : Mu) : Prop := ∀ (k : Nat) (m : M), k < n → μ[k]? = some (some m) → m.low n = true
structure Kp (n0 : Nat) (μ μ' : Mu) : Prop where
  len : μ.length ≤ μ'.length
  lo : ∀ n, n ≤ n0 → Lo n μ → Lo n μ'
theorem Kp.refl (n0 : Nat) (μ : Mu) : Kp n0 μ μ := ⟨Nat.le_refl _, fun _ _ h => h⟩
theorem Kp.trans {n0 : Nat} {μ μ1 μ2 : Mu} (x : Kp n0 μ μ1) (y : Kp n0 μ1 μ2) : Kp n0 μ μ2 := ⟨Nat.le_trans x.len y.len, fun n h l => y.lo n h (x.lo n h l)⟩
theorem Kp.mono {n0 n1 : Nat} {μ μ' : Mu} (x : Kp n1 μ μ') (h : n0 ≤ n1) : Kp n0 μ μ' := ⟨x.len, fun n hn l => x.lo n (Nat.le_trans hn h) l⟩
theorem Kp.push {n0 : Nat} {μ : Mu} (h : n0 ≤ μ.length) (m : Option M) : Kp n0 μ (μ ++ [m]) := by
  refine ⟨by simp, fun n hn l k m' hk e => ?_⟩
  rw [List.getElem?_append_left (by omega)] at e
  exact l k m' hk e
theorem Kp.kill {n0 : Nat} {μ : Mu} (k : Nat) : Kp n0 μ (μ.set k none) := by
  refine ⟨by simp, fun n hn l j m' hj e => ?_⟩
  by_cases h : j = k
  · subst h
    rw [List.getElem?_set] at e
    simp at e
  · rw [List.getElem?_set_ne (Ne.symm h)] at e
    exact l j m' hj e
/-- into a cell that is not one's own goes pure data alone -/
theorem Kp.wr {n0 k : Nat} {μ : Mu} {m : M} (h : ∀ n, n ≤ n0 → k < n → Lo n μ → m.low n = true) : Kp n0 μ (μ.set k (some m)) := by
  refine ⟨by simp, fun n hn l j m' hj e => ?_⟩
  by_cases hjk : j = k
  · subst hjk
    rw [List.getElem?_set] at e
    simp at e
    obtain ⟨_, e⟩ := e
    subst e
    exact h n hn hj l
  · rw [List.getElem?_set_ne (Ne.symm hjk)] at e
    exact l j m' hj e

/-- what stands behind a step -/
structure Post (G : Gx) (n0 : Nat) (w : Hw) (μ : Mu) (w' : Hw) (μ' : Mu) : Prop where
  ex : Ex w w'
  mc : Mc G w' μ'
  kp : Kp n0 μ μ'
theorem Post.refl {G : Gx} {n0 : Nat} {w : Hw} {μ : Mu} (c : Mc G w μ) : Post G n0 w μ w μ := ⟨.refl w, c, .refl _ _⟩
theorem Post.trans {G : Gx} {n0 : Nat} {w w1 w2 : Hw} {μ μ1 μ2 : Mu} (x : Post G n0 w μ w1 μ1) (y : Post G n0 w1 μ1 w2 μ2) : Post G n0 w μ w2 μ2 := ⟨x.ex.trans y.ex, y.mc, x.kp.trans y.kp⟩

section
variable (G : Gx) (n0 : Nat) (W : WX)
def FinX {β ν : Type} (R : Hw → β → ν → Prop) (w : Hw) (μ : Mu) (σ : L2.St) (Q : ν → Hp → Prop) : Rs β → Prop
  | .ok b μ' => ∀ w' v, Post G n0 w μ w' μ' → R w' b v → Q v w'.H
  | .exc x μ' => ∀ w' cls dx, Post G n0 w μ w' μ' → Xr G w' x cls dx → W cls dx σ w'.H
/-- at one state -/
def At {β ν : Type} (R : Hw → β → ν → Prop) (w : Hw) (μ : Mu) (σ : L2.St) (tt : Hp → (ν → Hp → Prop) → Prop) (res : Ro β) : Prop :=
  ∀ r, res = some r → ∀ Q, FinX G n0 W R w μ σ Q r → tt w.H Q
/-- at every state -/
def DX {β ν : Type} (R : Hw → β → ν → Prop) (t : L2.St → Hp → (ν → Hp → Prop) → Prop) (f : Ev β) : Prop :=
  ∀ w ρ μ σ, Mc G w μ → Vr G.K w ρ σ → n0 ≤ μ.length → At G n0 W R w μ σ (t σ) (f ρ μ)
abbrev DE (t : TE) (f : Ev D) : Prop := DX G n0 W (Fr G.K) t f
abbrev DA (t : TA) (f : Ev (List D)) : Prop := DX G n0 W (Frs G.K) t f
abbrev DT (t : TT) (f : Ev Bool) : Prop := DX G n0 W (fun _ b c => c = b) t f
end
section
variable {G : Gx} {n0 : Nat} {W : WX}
theorem At.ret {β ν : Type} {R : Hw → β → ν → Prop} {w : Hw} {μ : Mu} {σ : L2.St} {tt : Hp → (ν → Hp → Prop) → Prop} {b : β} {v : ν} (c : Mc G w μ) (r : R w b v) (h : ∀ Q : ν → Hp → Prop, Q v w.H → tt w.H Q) :
    At G n0 W R w μ σ tt (some (.ok b μ)) := by
  intro q e Q f
  cases e
  exact h Q (f w v (.refl c) r)
theorem FinX.post {β ν : Type} {R : Hw → β → ν → Prop} {w w1 : Hw} {μ μ1 : Mu} {σ : L2.St} {Q : ν → Hp → Prop} (p : Post G n0 w μ w1 μ1) : ∀ {r : Rs β}, FinX G n0 W R w μ σ Q r → FinX G n0 W R w1 μ1 σ Q r
  | .ok _ _, f => fun w' v p' r' => f w' v (p.trans p') r'
  | .exc _ _, f => fun w' cls dx p' x => f w' cls dx (p.trans p') x
theorem At.bnd {β β' ν ν' : Type} {R : Hw → β → ν → Prop} {R' : Hw → β' → ν' → Prop} {w : Hw} {μ : Mu} {σ : L2.St} {tt : Hp → (ν → Hp → Prop) → Prop} {uu : ν → Hp → (ν' → Hp → Prop) → Prop} {res : Ro β} {g : β → Mu → Ro β'}
    (h : At G n0 W R w μ σ tt res) (k : ∀ w' μ' b v, Post G n0 w μ w' μ' → R w' b v → At G n0 W R' w' μ' σ (uu v) (g b μ')) :
    At G n0 W R' w μ σ (fun H Q => tt H fun v H1 => uu v H1 Q) (res.bnd g) := by
  intro r e Q f
  rcases Ro.bnd_some e with ⟨b, μ1, e1, e2⟩ | ⟨x, μ1, e1, e2⟩
  · refine h _ e1 _ fun w' v p r' => ?_
    exact k w' μ1 b v p r' r e2 Q (f.post p)
  · subst e2
    exact h _ e1 _ fun w' cls dx p x' => f w' cls dx p x'
theorem Post.nn {G : Gx} {n0 : Nat} {w w1 : Hw} {μ μ1 : Mu} (p : Post G n0 w μ w1 μ1) (h : n0 ≤ μ.length) : n0 ≤ μ1.length := Nat.le_trans h p.kp.len

/-! ### names, constants -/
def eVar (i : Nat) : Ev D := fun ρ μ => match ρ[i]? with
  | some (some d) => some (.ok d μ)
  | _ => none
theorem de_var {i : Nat} : DE G n0 W (tVar i) (eVar i) := by
  intro w ρ μ σ c vr hn r e Q f
  unfold eVar at e
  split at e
  · rename_i d hd
    cases e
    obtain ⟨v, hv, fr⟩ := vr.at_ i d hd
    exact ⟨v, hv, f w v (.refl c) fr⟩
  · cases e
def eC (d : D) : Ev D := fun _ μ => some (.ok d μ)
theorem de_c {d : D} {v : V} (h : ∀ w : Hw, Fr G.K w d v) : DE G n0 W (tC v) (eC d) := fun w ρ μ σ c vr hn =>
  .ret c (h w) fun Q q => q

/-! ### two values in, one out -/
/-- r does op -/
def DR2 (G : Gx) (n0 : Nat) (W : WX) (r : R2) (op : D → D → Mu → Ro D) : Prop := ∀ w μ σ a x b y, Mc G w μ → n0 ≤ μ.length → Fr G.K w a x → Fr G.K w b y → At G n0 W (Fr G.K) w μ σ (fun H Q => r x y H Q) (op a b μ)
def eOp (op : D → D → Mu → Ro D) (f g : Ev D) : Ev D := fun ρ μ => (f ρ μ).bnd fun a μ1 => (g ρ μ1).bnd fun b μ2 => op a b μ2
theorem de_op {r : R2} {op : D → D → Mu → Ro D} {ta tb : TE} {f g : Ev D} (ho : DR2 G n0 W r op) (ha : DE G n0 W ta f) (hb : DE G n0 W tb g) : DE G n0 W (tOp r ta tb) (eOp op f g) := by
  intro w ρ μ σ c vr hn
  refine (ha w ρ μ σ c vr hn).bnd (uu := fun x H Q => tb σ H fun y H2 => r x y H2 Q) fun w1 μ1 a x p1 ra => ?_
  refine (hb w1 ρ μ1 σ p1.mc (vr.mono p1.ex) (p1.nn hn)).bnd (uu := fun y H Q => r x y H Q) fun w2 μ2 b y p2 rb => ?_
  exact ho w2 μ2 σ a x b y p2.mc (p2.nn (p1.nn hn)) (ra.mono p2.ex) rb
/-- one value in -/
def DR1 (G : Gx) (n0 : Nat) (W : WX) (r : V → Hp → VK → Prop) (op : D → Mu → Ro D) : Prop := ∀ w μ σ a x, Mc G w μ → n0 ≤ μ.length → Fr G.K w a x → At G n0 W (Fr G.K) w μ σ (fun H Q => r x H Q) (op a μ)
def eUn (op : D → Mu → Ro D) (f : Ev D) : Ev D := fun ρ μ => (f ρ μ).bnd fun a μ1 => op a μ1
theorem de_un {r : V → Hp → VK → Prop} {op : D → Mu → Ro D} {ta : TE} {f : Ev D} (ho : DR1 G n0 W r op) (ha : DE G n0 W ta f) : DE G n0 W (tUn r ta) (eUn op f) := by
  intro w ρ μ σ c vr hn
  refine (ha w ρ μ σ c vr hn).bnd (uu := fun x H Q => r x H Q) fun w1 μ1 a x p1 ra => ?_
  exact ho w1 μ1 σ a x p1.mc (p1.nn hn) ra

/-! ### whole numbers -/
def dInt2 (f : Int → Int → D) : D → D → Mu → Ro D
  | .int i, .int j, μ => some (.ok (f i j) μ)
  | _, _, _ => none
def dInt2C (C : Int → Int → Bool) (f : Int → Int → D) : D → D → Mu → Ro D
  | .int i, .int j, μ => if C i j then some (.ok (f i j) μ) else none
  | _, _, _ => none
theorem dr_I0 {f : Int → Int → D} {g : Int → Int → V} (h : ∀ w i j, Fr G.K w (f i j) (g i j)) : DR2 G n0 W (rI0 g) (dInt2 f) := by
  intro w μ σ a x b y c hn ra rb r e Q fin
  cases a <;> cases b <;> simp only [dInt2] at e <;> try cases e
  rename_i i j
  have e1 : x = .int i := ra
  have e2 : y = .int j := rb
  subst e1 e2
  exact ⟨i, j, rfl, rfl, fin w _ (.refl c) (h w i j)⟩
theorem dr_IC {C : Int → Int → Bool} {P : Int → Int → Prop} {f : Int → Int → D} {g : Int → Int → V} (hC : ∀ i j, C i j = true → P i j) (h : ∀ w i j, Fr G.K w (f i j) (g i j)) : DR2 G n0 W (rI P g) (dInt2C C f) := by
  intro w μ σ a x b y c hn ra rb r e Q fin
  cases a <;> cases b <;> simp only [dInt2C] at e <;> try cases e
  rename_i i j
  split at e <;> rename_i hc <;> try cases e
  have e1 : x = .int i := ra
  have e2 : y = .int j := rb
  subst e1 e2
  exact ⟨i, j, rfl, rfl, hC i j hc, fin w _ (.refl c) (h w i j)⟩
abbrev oAdd := dInt2 fun i j => .int (i + j)
abbrev oSub := dInt2 fun i j => .int (i - j)
/-- a test that the kernel never tries to reckon -/
noncomputable def cdec (p : Prop) : Bool := @decide p (Classical.propDecidable p)
theorem cdec_iff {p : Prop} : cdec p = true ↔ p := by unfold cdec; simp
noncomputable def cMul (i j : Int) : Bool := cdec (CMul i j)
noncomputable abbrev oMul := dInt2C cMul fun i j => .int (i * j)
noncomputable def cDiv (i j : Int) : Bool := cdec (CDiv i j)
noncomputable abbrev oDiv := dInt2C cDiv fun i j => .int (i / j)
abbrev oMod := dInt2C (fun _ j => decide (0 < j)) fun i j => .int (i % j)
noncomputable def cPow (i j : Int) : Bool := cdec (CPow i j)
noncomputable abbrev oPow := dInt2C cPow fun i j => .int (i ^ j.toNat)
abbrev oLt := dInt2 fun i j => .bl (decide (i < j))
abbrev oLe := dInt2 fun i j => .bl (decide (i ≤ j))
abbrev oGt := dInt2 fun i j => .bl (decide (j < i))
abbrev oGe := dInt2 fun i j => .bl (decide (j ≤ i))
theorem dr_add : DR2 G n0 W (rI0 fun i j => .int (i + j)) oAdd := dr_I0 fun _ _ _ => rfl
theorem dr_sub : DR2 G n0 W (rI0 fun i j => .int (i - j)) oSub := dr_I0 fun _ _ _ => rfl
theorem dr_mul : DR2 G n0 W (rI CMul fun i j => .int (i * j)) oMul := dr_IC (fun i j h => cdec_iff.mp h) fun _ _ _ => rfl
theorem dr_div : DR2 G n0 W (rI CDiv fun i j => .int (i / j)) oDiv := dr_IC (fun i j h => cdec_iff.mp h) fun _ _ _ => rfl
theorem dr_mod : DR2 G n0 W (rI (fun _ j => 0 < j) fun i j => .int (i % j)) oMod := dr_IC (fun i j h => by simpa using h) fun _ _ _ => rfl
theorem dr_pow : DR2 G n0 W (rI CPow fun i j => .int (i ^ j.toNat)) oPow := dr_IC (fun i j h => cdec_iff.mp h) fun _ _ _ => rfl
theorem dr_lt : DR2 G n0 W (rI0 fun i j => .bl (decide (i < j))) oLt := dr_I0 fun _ _ _ => rfl
theorem dr_le : DR2 G n0 W (rI0 fun i j => .bl (decide (i ≤ j))) oLe := dr_I0 fun _ _ _ => rfl
theorem dr_gt : DR2 G n0 W (rI0 fun i j => .bl (decide (j < i))) oGt := dr_I0 fun _ _ _ => rfl
theorem dr_ge : DR2 G n0 W (rI0 fun i j => .bl (decide (j ≤ i))) oGe := dr_I0 fun _ _ _ => rfl

/-! ### is None -/
def D.isNon : D → Bool
  | .non => true
  | _ => false
theorem Fr.isNon {K : PySem.W.Frag} {w : Hw} {d : D} {v : V} (h : Fr K w d v) : decide (v = V.non) = d.isNon := by
  cases d with
  | non => have e : v = .non := h; subst e; rfl
  | bl b => have e : v = .bl b := h; subst e; rfl
  | int b => have e : v = .int b := h; subst e; rfl
  | str b => have e : v = .str b := h; subst e; rfl
  | tup xs => obtain ⟨_, _, e, _⟩ := h; subst e; rfl
  | lst xs => obtain ⟨_, _, e, _⟩ := h; subst e; rfl
  | scr xs => obtain ⟨_, _, e, _⟩ := h; subst e; rfl
  | cell k => obtain ⟨_, e, _⟩ := h; subst e; rfl
  | exn a => have e : v = .ref a := h; subst e; rfl
def oIsN : D → D → Mu → Ro D
  | a, .non, μ => some (.ok (.bl a.isNon) μ)
  | _, _, _ => none
def oNotN : D → D → Mu → Ro D
  | a, .non, μ => some (.ok (.bl (!a.isNon)) μ)
  | _, _, _ => none
theorem dr_isN : DR2 G n0 W (fun x y H Q => y = .non ∧ Q (.bl (decide (x = .non))) H) oIsN := by
  intro w μ σ a x b y c hn ra rb r e Q fin
  cases b <;> simp only [oIsN] at e <;> cases e
  have e2 : y = .non := rb
  exact ⟨e2, fin w _ (.refl c) (by rw [ra.isNon]; exact rfl)⟩
theorem dr_notN : DR2 G n0 W (fun x y H Q => y = .non ∧ Q (.bl (!decide (x = .non))) H) oNotN := by
  intro w μ σ a x b y c hn ra rb r e Q fin
  cases b <;> simp only [oNotN] at e <;> cases e
  have e2 : y = .non := rb
  exact ⟨e2, fin w _ (.refl c) (by rw [ra.isNon]; exact rfl)⟩

/-! ### tests -/
def eTest (f : Ev D) : Ev Bool := fun ρ μ => (f ρ μ).bnd fun d μ1 => match d with
  | .bl b => some (.ok b μ1)
  | _ => none
theorem dt_val {t : TE} {f : Ev D} (h : DE G n0 W t f) : DT G n0 W (tB t) (eTest f) := by
  intro w ρ μ σ c vr hn
  refine (h w ρ μ σ c vr hn).bnd (uu := fun x H Q => ∃ c, x = .bl c ∧ Q c H) fun w1 μ1 a x p1 ra => ?_
  intro r e Q fin
  cases a <;> simp only [] at e <;> try cases e
  rename_i b
  have e1 : x = .bl b := ra
  exact ⟨b, e1, fin w1 b (.refl p1.mc) rfl⟩
def eAnd (f g : Ev Bool) : Ev Bool := fun ρ μ => (f ρ μ).bnd fun b μ1 => if b then g ρ μ1 else some (.ok false μ1)
def eOr (f g : Ev Bool) : Ev Bool := fun ρ μ => (f ρ μ).bnd fun b μ1 => if b then some (.ok true μ1) else g ρ μ1
def eNot (f : Ev Bool) : Ev Bool := fun ρ μ => (f ρ μ).bnd fun b μ1 => some (.ok (!b) μ1)
theorem dt_and {t u : TT} {f g : Ev Bool} (h : DT G n0 W t f) (k : DT G n0 W u g) : DT G n0 W (tAnd t u) (eAnd f g) := by
  intro w ρ μ σ c vr hn
  refine (h w ρ μ σ c vr hn).bnd (uu := fun c H1 Q => if c = true then u σ H1 Q else Q false H1) fun w1 μ1 b x p1 rb => ?_
  have e : x = b := rb
  subst e
  cases x with
  | true => simpa using k w1 ρ μ1 σ p1.mc (vr.mono p1.ex) (p1.nn hn)
  | false => exact .ret p1.mc rfl fun Q q => by simpa using q
theorem dt_or {t u : TT} {f g : Ev Bool} (h : DT G n0 W t f) (k : DT G n0 W u g) : DT G n0 W (tOr t u) (eOr f g) := by
  intro w ρ μ σ c vr hn
  refine (h w ρ μ σ c vr hn).bnd (uu := fun c H1 Q => if c = true then Q true H1 else u σ H1 Q) fun w1 μ1 b x p1 rb => ?_
  have e : x = b := rb
  subst e
  cases x with
  | false => simpa using k w1 ρ μ1 σ p1.mc (vr.mono p1.ex) (p1.nn hn)
  | true => exact .ret p1.mc rfl fun Q q => by simpa using q
theorem dt_not {t : TT} {f : Ev Bool} (h : DT G n0 W t f) : DT G n0 W (tNot t) (eNot f) := by
  intro w ρ μ σ c vr hn
  refine (h w ρ μ σ c vr hn).bnd (uu := fun c H1 Q => Q (!c) H1) fun w1 μ1 b x p1 rb => ?_
  have e : x = b := rb
  subst e
  exact .ret p1.mc rfl fun Q q => q
/-- a test's answer as a value -/
def eBl (f : Ev Bool) : Ev D := fun ρ μ => (f ρ μ).bnd fun b μ1 => some (.ok (.bl b) μ1)
def eIf (c : Ev Bool) (f g : Ev D) : Ev D := fun ρ μ => (c ρ μ).bnd fun b μ1 => if b then f ρ μ1 else g ρ μ1
theorem de_if {t : TT} {ta tb : TE} {c : Ev Bool} {f g : Ev D} (h : DT G n0 W t c) (ha : DE G n0 W ta f) (hb : DE G n0 W tb g) : DE G n0 W (tIf t ta tb) (eIf c f g) := by
  intro w ρ μ σ c vr hn
  refine (h w ρ μ σ c vr hn).bnd (uu := fun c H1 Q => if c = true then ta σ H1 Q else tb σ H1 Q) fun w1 μ1 b x p1 rb => ?_
  have e : x = b := rb
  subst e
  cases x with
  | true => simpa using ha w1 ρ μ1 σ p1.mc (vr.mono p1.ex) (p1.nn hn)
  | false => simpa using hb w1 ρ μ1 σ p1.mc (vr.mono p1.ex) (p1.nn hn)
def eAndV (f g : Ev D) : Ev D := fun ρ μ => (f ρ μ).bnd fun d μ1 => match d with
  | .bl b => if b then g ρ μ1 else some (.ok (.bl false) μ1)
  | _ => none
def eOrV (f g : Ev D) : Ev D := fun ρ μ => (f ρ μ).bnd fun d μ1 => match d with
  | .bl b => if b then some (.ok (.bl true) μ1) else g ρ μ1
  | _ => none
def eNotV (f : Ev D) : Ev D := fun ρ μ => (f ρ μ).bnd fun d μ1 => match d with
  | .bl b => some (.ok (.bl (!b)) μ1)
  | _ => none
theorem de_andV {ta tb : TE} {f g : Ev D} (ha : DE G n0 W ta f) (hb : DE G n0 W tb g) : DE G n0 W (tAndV ta tb) (eAndV f g) := by
  intro w ρ μ σ c vr hn
  refine (ha w ρ μ σ c vr hn).bnd (uu := fun x H1 Q => ∃ c, x = .bl c ∧ if c = true then tb σ H1 Q else Q (.bl false) H1) fun w1 μ1 d x p1 rb => ?_
  intro r e Q fin
  cases d <;> simp only [] at e <;> try cases e
  rename_i b
  have e1 : x = .bl b := rb
  refine ⟨b, e1, ?_⟩
  cases b with
  | true => simp only [if_true] at e ⊢; exact hb w1 ρ μ1 σ p1.mc (vr.mono p1.ex) (p1.nn hn) r e Q fin
  | false => simp at e ⊢; subst e; exact fin w1 _ (.refl p1.mc) rfl
theorem de_orV {ta tb : TE} {f g : Ev D} (ha : DE G n0 W ta f) (hb : DE G n0 W tb g) : DE G n0 W (tOrV ta tb) (eOrV f g) := by
  intro w ρ μ σ c vr hn
  refine (ha w ρ μ σ c vr hn).bnd (uu := fun x H1 Q => ∃ c, x = .bl c ∧ if c = true then Q (.bl true) H1 else tb σ H1 Q) fun w1 μ1 d x p1 rb => ?_
  intro r e Q fin
  cases d <;> simp only [] at e <;> try cases e
  rename_i b
  have e1 : x = .bl b := rb
  refine ⟨b, e1, ?_⟩
  cases b with
  | false => simp only [Bool.false_eq_true, if_false] at e ⊢; exact hb w1 ρ μ1 σ p1.mc (vr.mono p1.ex) (p1.nn hn) r e Q fin
  | true => simp at e ⊢; subst e; exact fin w1 _ (.refl p1.mc) rfl
theorem de_notV {ta : TE} {f : Ev D} (ha : DE G n0 W ta f) : DE G n0 W (tNotV ta) (eNotV f) := by
  intro w ρ μ σ c vr hn
  refine (ha w ρ μ σ c vr hn).bnd (uu := fun x H1 (Q : VK) => ∃ c, x = V.bl c ∧ Q (V.bl (!c)) H1) fun w1 μ1 d x p1 rb => ?_
  intro r e Q fin
  cases d <;> simp only [] at e <;> try cases e
  rename_i b
  have e1 : x = .bl b := rb
  exact ⟨b, e1, fin w1 _ (.refl p1.mc) rfl⟩
/-- a < b < c -/
def eChain (op op' : D → D → Mu → Ro D) (f g h : Ev D) : Ev D := fun ρ μ => (f ρ μ).bnd fun a μ1 => (g ρ μ1).bnd fun b μ2 => (op a b μ2).bnd fun k μ3 => match k with
  | .bl k => if k then (h ρ μ3).bnd fun c μ4 => op' b c μ4 else some (.ok (.bl false) μ3)
  | _ => none
theorem de_chain {r r' : R2} {op op' : D → D → Mu → Ro D} {ta tb tc : TE} {f g h : Ev D} (ho : DR2 G n0 W r op) (ho' : DR2 G n0 W r' op') (ha : DE G n0 W ta f) (hb : DE G n0 W tb g) (hc : DE G n0 W tc h) :
    DE G n0 W (tChain r r' ta tb tc) (eChain op op' f g h) := by
  intro w ρ μ σ c vr hn
  refine (ha w ρ μ σ c vr hn).bnd (uu := fun x H Q => tb σ H fun y H2 => r x y H2 fun z H3 => ∃ k, z = .bl k ∧ (if k = true then tc σ H3 fun w' H4 => r' y w' H4 Q else Q (.bl false) H3)) fun w1 μ1 a x p1 ra => ?_
  refine (hb w1 ρ μ1 σ p1.mc (vr.mono p1.ex) (p1.nn hn)).bnd (uu := fun y H Q => r x y H fun z H3 => ∃ k, z = .bl k ∧ (if k = true then tc σ H3 fun w' H4 => r' y w' H4 Q else Q (.bl false) H3)) fun w2 μ2 b y p2 rb => ?_
  have hn2 := p2.nn (p1.nn hn)
  refine (ho w2 μ2 σ a x b y p2.mc hn2 (ra.mono p2.ex) rb).bnd (uu := fun z H Q => ∃ k, z = .bl k ∧ (if k = true then tc σ H fun w' H4 => r' y w' H4 Q else Q (.bl false) H)) fun w3 μ3 d z p3 rd => ?_
  intro q e Q fin
  cases d <;> simp only [] at e <;> try cases e
  rename_i k
  have e1 : z = .bl k := rd
  refine ⟨k, e1, ?_⟩
  cases k with
  | false => simp at e ⊢; subst e; exact fin w3 _ (.refl p3.mc) rfl
  | true =>
    simp only [if_true] at e ⊢
    refine ((hc w3 ρ μ3 σ p3.mc (((vr.mono p1.ex).mono p2.ex).mono p3.ex) (p3.nn hn2)).bnd (uu := fun w' H4 Q => r' y w' H4 Q) fun w4 μ4 c' x4 p4 rc => ?_) q e Q fin
    exact ho' w4 μ4 σ b y c' x4 p4.mc (p4.nn (p3.nn hn2)) ((rb.mono p3.ex).mono p4.ex) rc
end
end G4

/-! G3: lists, tuples, dicts, arguments, built-in calls. -/
namespace G4
open PySem PySem.Spec PyProof.Rows L2

section
variable {G : Gx} {n0 : Nat} {W : WX}
/-! ### or of two rules -/
theorem opR_or {X : Cx} {f : Value → Value → Sem Value} {r r' : R2} (h : OpR X f r) (h' : OpR X f r') : OpR X f (fun x y H Q => r x y H Q ∨ r' x y H Q) := by
  intro pins s σ H x y v u Q I rx ry q
  rcases q with q | q
  · exact h pins s σ H x y v u Q I rx ry q
  · exact h' pins s σ H x y v u Q I rx ry q

/-! ### a new thing -/
theorem fin_fz {w : Hw} {μ : Mu} {σ : L2.St} {p : Addr} {o : HO} {d : D} {Q : VK} (c : Mc G w μ) (hp : w.H p = none) (fr : Fr G.K (w.fz p o) d (.ref p)) (f : FinX G n0 W (Fr G.K) w μ σ Q (.ok d μ)) : Q (.ref p) (upd w.H p o) :=
  f (w.fz p o) (.ref p) ⟨.fz c hp, .fz c hp, .refl _ _⟩ fr
theorem fr_tup {w : Hw} {μ : Mu} {p : Addr} {ds : List D} {vs : List V} (c : Mc G w μ) (hp : w.H p = none) (r : Frs G.K w ds vs) : Fr G.K (w.fz p (.tup vs)) (.tup ds) (.ref p) :=
  ⟨p, vs, rfl, .inr rfl, upd_same, r.mono (.fz c hp)⟩
theorem fr_lst {w : Hw} {μ : Mu} {p : Addr} {ds : List D} {vs : List V} (c : Mc G w μ) (hp : w.H p = none) (r : Frs G.K w ds vs) : Fr G.K (w.fz p (.lst vs)) (.lst ds) (.ref p) :=
  ⟨p, vs, rfl, .inr rfl, upd_same, r.mono (.fz c hp)⟩
theorem fin_mk {w : Hw} {μ : Mu} {σ : L2.St} {p : Addr} {o : HO} {m : M} {Q : VK} (c : Mc G w μ) (hn : n0 ≤ μ.length) (hp : w.H p = none) (r : Mr G (w.mk' p o) p m)
    (f : FinX G n0 W (Fr G.K) w μ σ Q (.ok (.cell μ.length) (μ ++ [some m]))) : Q (.ref p) (upd w.H p o) :=
  f (w.mk' p o) (.ref p) ⟨.mk' c hp, .mk' c hp r, .push hn _⟩ ⟨p, rfl, by show (w.A ++ [p])[μ.length]? = some p; rw [← c.len]; simp⟩
/-- rules that lay a new list of vs -/
@[irreducible] def small (n : Nat) : Bool := decide (n ≤ 16777216)
theorem small_ok {n : Nat} (h : small n = true) : n ≤ sizeLine := by rw [sizeLine_eq]; simpa [small] using h
theorem small_ok' {n : Nat} (h : decide (n < 16777216) = true) : n < sizeLine := by rw [sizeLine_eq]; simpa using h
def newL (ds : List D) (μ : Mu) : Ro D := if small ds.length then some (.ok (.lst ds) μ) else none
def newC (ds : List D) (μ : Mu) : Ro D := if small ds.length then some (.ok (.cell μ.length) (μ ++ [some (.lst ds)])) else none
def newT (ds : List D) (μ : Mu) : Ro D := if small ds.length then some (.ok (.tup ds) μ) else none
theorem at_newL {w : Hw} {μ : Mu} {σ : L2.St} {ds : List D} {vs : List V} (c : Mc G w μ) (r : Frs G.K w ds vs) : At G n0 W (Fr G.K) w μ σ (fun H Q => vs.length ≤ sizeLine ∧ ∀ p, H p = none → Q (.ref p) (upd H p (.lst vs))) (newL ds μ) := by
  intro q e Q f
  unfold newL at e
  split at e <;> rename_i hs <;> cases e
  exact ⟨by rw [r.length]; exact small_ok hs, fun p hp => fin_fz c hp (fr_lst c hp r) f⟩
theorem at_newC {w : Hw} {μ : Mu} {σ : L2.St} {ds : List D} {vs : List V} (c : Mc G w μ) (hn : n0 ≤ μ.length) (r : Frs G.K w ds vs) : At G n0 W (Fr G.K) w μ σ (fun H Q => vs.length ≤ sizeLine ∧ ∀ p, H p = none → Q (.ref p) (upd H p (.lst vs))) (newC ds μ) := by
  intro q e Q f
  unfold newC at e
  split at e <;> rename_i hs <;> cases e
  exact ⟨by rw [r.length]; exact small_ok hs, fun p hp => fin_mk (m := .lst ds) c hn hp ⟨vs, upd_same, r.mono (.mk' c hp)⟩ f⟩
theorem at_newT {w : Hw} {μ : Mu} {σ : L2.St} {ds : List D} {vs : List V} (c : Mc G w μ) (r : Frs G.K w ds vs) : At G n0 W (Fr G.K) w μ σ (fun H Q => vs.length ≤ sizeLine ∧ ∀ p, H p = none → Q (.ref p) (upd H p (.tup vs))) (newT ds μ) := by
  intro q e Q f
  unfold newT at e
  split at e <;> rename_i hs <;> cases e
  exact ⟨by rw [r.length]; exact small_ok hs, fun p hp => fin_fz c hp (fr_tup c hp r) f⟩
theorem At.imp {β ν : Type} {R : Hw → β → ν → Prop} {w : Hw} {μ : Mu} {σ : L2.St} {tt tt' : Hp → (ν → Hp → Prop) → Prop} {res : Ro β} (h : At G n0 W R w μ σ tt res) (k : ∀ Q, tt w.H Q → tt' w.H Q) : At G n0 W R w μ σ tt' res :=
  fun r e Q f => k Q (h r e Q f)
theorem At.nope {β ν : Type} {R : Hw → β → ν → Prop} {w : Hw} {μ : Mu} {σ : L2.St} {tt : Hp → (ν → Hp → Prop) → Prop} : At G n0 W R w μ σ tt (none : Ro β) := fun _ e => nomatch e

/-! ### arguments -/
def aNil : Ev (List D) := fun _ μ => some (.ok [] μ)
def aCons (f : Ev D) (g : Ev (List D)) : Ev (List D) := fun ρ μ => (f ρ μ).bnd fun d μ1 => (g ρ μ1).bnd fun ds μ2 => some (.ok (d :: ds) μ2)
theorem da_nil : DA G n0 W tNil aNil := fun w ρ μ σ c vr hn => .ret c rfl fun Q q => q
theorem da_cons {t : TE} {u : TA} {f : Ev D} {g : Ev (List D)} (h : DE G n0 W t f) (k : DA G n0 W u g) : DA G n0 W (tCons t u) (aCons f g) := by
  intro w ρ μ σ c vr hn
  refine (h w ρ μ σ c vr hn).bnd (uu := fun x H1 Q => u σ H1 fun xs H2 => Q (x :: xs) H2) fun w1 μ1 d x p1 r1 => ?_
  refine (k w1 ρ μ1 σ p1.mc (vr.mono p1.ex) (p1.nn hn)).bnd (uu := fun xs H2 Q => Q (x :: xs) H2) fun w2 μ2 ds xs p2 r2 => ?_
  exact .ret p2.mc ⟨x, xs, rfl, r1.mono p2.ex, r2⟩ fun Q q => q
/-- displays -/
def eLst (f : Ev (List D)) : Ev D := fun ρ μ => (f ρ μ).bnd fun ds μ1 => newL ds μ1
def eLstC (f : Ev (List D)) : Ev D := fun ρ μ => (f ρ μ).bnd fun ds μ1 => newC ds μ1
def eTup (f : Ev (List D)) : Ev D := fun ρ μ => (f ρ μ).bnd fun ds μ1 => newT ds μ1
theorem de_lst {t : TA} {f : Ev (List D)} (h : DA G n0 W t f) : DE G n0 W (tLst t) (eLst f) := fun w ρ μ σ c vr hn =>
  (h w ρ μ σ c vr hn).bnd (uu := fun xs H1 (Q : VK) => xs.length ≤ sizeLine ∧ ∀ p, H1 p = none → Q (V.ref p) (upd H1 p (.lst xs))) fun w1 μ1 ds xs p1 r1 => at_newL p1.mc r1
theorem de_lstC {t : TA} {f : Ev (List D)} (h : DA G n0 W t f) : DE G n0 W (tLst t) (eLstC f) := fun w ρ μ σ c vr hn =>
  (h w ρ μ σ c vr hn).bnd (uu := fun xs H1 (Q : VK) => xs.length ≤ sizeLine ∧ ∀ p, H1 p = none → Q (V.ref p) (upd H1 p (.lst xs))) fun w1 μ1 ds xs p1 r1 => at_newC p1.mc (p1.nn hn) r1
theorem de_tup {t : TA} {f : Ev (List D)} (h : DA G n0 W t f) : DE G n0 W (tTup t) (eTup f) := fun w ρ μ σ c vr hn =>
  (h w ρ μ σ c vr hn).bnd (uu := fun xs H1 (Q : VK) => xs.length ≤ sizeLine ∧ ∀ p, H1 p = none → Q (V.ref p) (upd H1 p (.tup xs))) fun w1 μ1 ds xs p1 r1 => at_newT p1.mc r1

/-! ### a built-in's call -/
def DRn (G : Gx) (n0 : Nat) (W : WX) (r : List V → Hp → VK → Prop) (op : List D → Mu → Ro D) : Prop := ∀ w μ σ as xs, Mc G w μ → n0 ≤ μ.length → Frs G.K w as xs → At G n0 W (Fr G.K) w μ σ (fun H Q => r xs H Q) (op as μ)
def eB (op : List D → Mu → Ro D) (f : Ev (List D)) : Ev D := fun ρ μ => (f ρ μ).bnd op
theorem de_b {r : List V → Hp → VK → Prop} {op : List D → Mu → Ro D} {t : TA} {f : Ev (List D)} (ho : DRn G n0 W r op) (h : DA G n0 W t f) : DE G n0 W (tCB r t) (eB op f) := fun w ρ μ σ c vr hn =>
  (h w ρ μ σ c vr hn).bnd (uu := fun vs H1 Q => r vs H1 Q) fun w1 μ1 ds xs p1 r1 => ho w1 μ1 σ ds xs p1.mc (p1.nn hn) r1
theorem frs1 {K : PySem.W.Frag} {w : Hw} {d : D} {xs : List V} (h : Frs K w [d] xs) : ∃ x, xs = [x] ∧ Fr K w d x := by
  obtain ⟨v, r, e, h1, h2⟩ := h
  have h2 : r = [] := h2
  subst h2
  exact ⟨v, e, h1⟩
theorem frs2 {K : PySem.W.Frag} {w : Hw} {d e : D} {xs : List V} (h : Frs K w [d, e] xs) : ∃ x y, xs = [x, y] ∧ Fr K w d x ∧ Fr K w e y := by
  obtain ⟨v, r, e1, h1, h2⟩ := h
  obtain ⟨y, e2, h3⟩ := frs1 h2
  subst e2
  exact ⟨v, y, e1, h1, h3⟩
def oInt : List D → Mu → Ro D
  | [.int i], μ => some (.ok (.int i) μ)
  | _, _ => none
theorem drn_int : DRn G n0 W (fun xs H Q => (∃ i, xs = [.int i] ∧ Q (.int i) H) ∨ ∃ k, xs = [.bl k] ∧ Q (.int (if k then 1 else 0)) H) oInt := by
  intro w μ σ as xs c hn r q e Q f
  unfold oInt at e
  split at e <;> cases e
  obtain ⟨x, rfl, h⟩ := frs1 r
  have h : x = .int _ := h
  subst h
  exact .inl ⟨_, rfl, f w _ (.refl c) rfl⟩
def oMax2 : List D → Mu → Ro D
  | [.int i, .int j], μ => some (.ok (.int (if j > i then j else i)) μ)
  | _, _ => none
def oMin2 : List D → Mu → Ro D
  | [.int i, .int j], μ => some (.ok (.int (if j < i then j else i)) μ)
  | _, _ => none
theorem drn_max2 : DRn G n0 W (fun xs H Q => ∃ i j, xs = [.int i, .int j] ∧ Q (.int (if j > i then j else i)) H) oMax2 := by
  intro w μ σ as xs c hn r q e Q f
  unfold oMax2 at e
  split at e <;> cases e
  obtain ⟨x, y, rfl, h, k⟩ := frs2 r
  have h : x = .int _ := h
  have k : y = .int _ := k
  subst h k
  exact ⟨_, _, rfl, f w _ (.refl c) rfl⟩
theorem drn_min2 : DRn G n0 W (fun xs H Q => ∃ i j, xs = [.int i, .int j] ∧ Q (.int (if j < i then j else i)) H) oMin2 := by
  intro w μ σ as xs c hn r q e Q f
  unfold oMin2 at e
  split at e <;> cases e
  obtain ⟨x, y, rfl, h, k⟩ := frs2 r
  have h : x = .int _ := h
  have k : y = .int _ := k
  subst h k
  exact ⟨_, _, rfl, f w _ (.refl c) rfl⟩

/-! ### what a sequence holds -/
def viewL (μ : Mu) : D → Option (List D)
  | .lst xs => some xs
  | .scr xs => some xs
  | .cell k => match μ[k]? with
    | some (some (.lst xs)) => some xs
    | _ => none
  | _ => none
def viewT : D → Option (List D)
  | .tup xs => some xs
  | _ => none
theorem view_L {G : Gx} {w : Hw} {μ : Mu} (c : Mc G w μ) {d : D} {v : V} {xs : List D} (h : Fr G.K w d v) (q : viewL μ d = some xs) : ∃ a vs, v = .ref a ∧ SqL G.K w.H a vs ∧ Frs G.K w xs vs := by
  cases d with
  | lst ys =>
    obtain ⟨a, vs, e, n, h, r⟩ := h
    have q : ys = xs := Option.some.inj q
    subst q
    exact ⟨a, vs, e, .of h, r⟩
  | scr ys =>
    obtain ⟨a, vs, e, h, r⟩ := h
    have q : ys = xs := Option.some.inj q
    subst q
    exact ⟨a, vs, e, h.sq, r⟩
  | cell k =>
    obtain ⟨a, e, h⟩ := h
    unfold viewL at q
    simp only at q
    split at q
    · rename_i ys hm
      have q : ys = xs := Option.some.inj q
      subst q
      obtain ⟨⟨vs, h1, h2⟩, _⟩ := c.cell k _ a hm h
      exact ⟨a, vs, e, .of h1, h2⟩
    · cases q
  | non => cases (show (none : Option (List D)) = some xs from q)
  | bl b => cases (show (none : Option (List D)) = some xs from q)
  | int b => cases (show (none : Option (List D)) = some xs from q)
  | str b => cases (show (none : Option (List D)) = some xs from q)
  | tup b => cases (show (none : Option (List D)) = some xs from q)
  | exn b => cases (show (none : Option (List D)) = some xs from q)
theorem viewT_eq {d : D} {xs : List D} (q : viewT d = some xs) : d = .tup xs := by
  cases d with
  | tup ys => rw [show ys = xs from Option.some.inj q]
  | lst b => cases (show (none : Option (List D)) = some xs from q)
  | non => cases (show (none : Option (List D)) = some xs from q)
  | bl b => cases (show (none : Option (List D)) = some xs from q)
  | int b => cases (show (none : Option (List D)) = some xs from q)
  | str b => cases (show (none : Option (List D)) = some xs from q)
  | scr b => cases (show (none : Option (List D)) = some xs from q)
  | cell b => cases (show (none : Option (List D)) = some xs from q)
  | exn b => cases (show (none : Option (List D)) = some xs from q)
theorem view_T {K : PySem.W.Frag} {w : Hw} {d : D} {v : V} {xs : List D} (h : Fr K w d v) (q : viewT d = some xs) : ∃ a vs, v = .ref a ∧ SqT K w.H a vs ∧ Frs K w xs vs := by
  rw [viewT_eq q] at h
  obtain ⟨a, vs, e, n, h, r⟩ := h
  exact ⟨a, vs, e, .of h, r⟩
def viewS (μ : Mu) (d : D) : Option (List D) := match viewT d with
  | some xs => some xs
  | none => viewL μ d
theorem view_S {G : Gx} {w : Hw} {μ : Mu} (c : Mc G w μ) {d : D} {v : V} {xs : List D} (fr : Fr G.K w d v) (q : viewS μ d = some xs) : ∃ a vs, v = .ref a ∧ (SqL G.K w.H a vs ∨ SqT G.K w.H a vs) ∧ Frs G.K w xs vs := by
  unfold viewS at q
  split at q
  · rename_i h
    cases q
    obtain ⟨a, vs, e, s, r⟩ := view_T fr h
    exact ⟨a, vs, e, .inr s, r⟩
  · obtain ⟨a, vs, e, s, r⟩ := view_L c fr q
    exact ⟨a, vs, e, .inl s, r⟩
/-! ### len -/
def oLen : List D → Mu → Ro D
  | [.str x], μ => if small x.length then some (.ok (.int x.length) μ) else none
  | [d], μ => match viewS μ d with
    | some xs => some (.ok (.int xs.length) μ)
    | none => match d with
      | .cell k => match μ[k]? with
        | some (some (.dK kvs)) => some (.ok (.int kvs.length) μ)
        | _ => none
      | _ => none
  | _, _ => none
def rLen (K : PySem.W.Frag) : List V → Hp → VK → Prop := fun xs H Q => (∃ x n, xs = [x] ∧ LenV K x H n ∧ Q (.int n) H) ∨ ∃ a kvs, xs = [V.ref a] ∧ H a = some (.dK kvs) ∧ Q (.int kvs.length) H
theorem call_lenA {X : Cx} : CallR X (.builtin "len") (rLen X.K) := call_len.or call_lenD
theorem drn_len : DRn G n0 W (rLen G.K) oLen := by
  intro w μ σ as xs c hn r q e Q f
  unfold oLen at e
  split at e
  · rename_i x
    split at e <;> rename_i hs <;> cases e
    obtain ⟨x, rfl, h⟩ := frs1 r
    have h : x = .str _ := h
    subst h
    exact .inl ⟨_, _, rfl, ⟨small_ok hs, rfl⟩, f w _ (.refl c) rfl⟩
  · rename_i d hd
    obtain ⟨x, rfl, h⟩ := frs1 r
    split at e
    · rename_i xs hx
      cases e
      obtain ⟨a, vs, rfl, s, rs⟩ := view_S c h hx
      refine .inl ⟨_, xs.length, rfl, ?_, f w _ (.refl c) rfl⟩
      rcases s with s | s
      · exact .inl ⟨vs, s, rs.length.symm⟩
      · exact .inr ⟨vs, s, rs.length.symm⟩
    · split at e <;> try cases e
      split at e <;> try cases e
      rename_i kvs hm
      obtain ⟨a, rfl, ha⟩ := h
      obtain ⟨⟨kvs', h1, h2, h3⟩, _⟩ := c.cell _ _ a hm ha
      refine .inr ⟨a, kvs', rfl, h1, ?_⟩
      have : kvs'.length = kvs.length := by simpa using congrArg List.length h2
      rw [this]
      exact f w _ (.refl c) rfl
  · cases e
/-! ### list(x), tuple(x) -/
def oList : List D → Mu → Ro D
  | [d], μ => match viewS μ d with
    | some xs => some (.ok (.lst xs) μ)
    | none => none
  | _, _ => none
def oListC : List D → Mu → Ro D
  | [d], μ => match viewS μ d with
    | some xs => some (.ok (.cell μ.length) (μ ++ [some (.lst xs)]))
    | none => none
  | _, _ => none
def rList (K : PySem.W.Frag) : List V → Hp → VK → Prop := fun xs H Q => ∃ p ys, xs = [.ref p] ∧ (SqL K H p ys ∨ SqT K H p ys) ∧ ∀ l, H l = none → Q (.ref l) (upd H l (.lst ys))
theorem drn_list : DRn G n0 W (rList G.K) oList := by
  intro w μ σ as xs c hn r q e Q f
  unfold oList at e
  split at e <;> try cases e
  split at e <;> cases e
  rename_i hx
  obtain ⟨x, rfl, h⟩ := frs1 r
  obtain ⟨a, vs, rfl, s, rs⟩ := view_S c h hx
  exact ⟨a, vs, rfl, s, fun p hp => fin_fz c hp (fr_lst c hp rs) f⟩
theorem drn_listC : DRn G n0 W (rList G.K) oListC := by
  intro w μ σ as xs c hn r q e Q f
  unfold oListC at e
  split at e <;> try cases e
  split at e <;> cases e
  rename_i hx
  obtain ⟨x, rfl, h⟩ := frs1 r
  obtain ⟨a, vs, rfl, s, rs⟩ := view_S c h hx
  exact ⟨a, vs, rfl, s, fun p hp => fin_mk (m := .lst _) c hn hp ⟨vs, upd_same, rs.mono (.mk' c hp)⟩ f⟩
def oTuple : List D → Mu → Ro D
  | [d], μ => match viewS μ d with
    | some xs => some (.ok (.tup xs) μ)
    | none => none
  | _, _ => none
theorem drn_tuple : DRn G n0 W (fun xs H Q => ∃ p ys, xs = [.ref p] ∧ ((SqL G.K H p ys ∧ ∀ l, H l = none → Q (.ref l) (upd H l (.tup ys))) ∨ (SqT G.K H p ys ∧ Q (.ref p) H))) oTuple := by
  intro w μ σ as xs c hn r q e Q f
  unfold oTuple at e
  split at e <;> try cases e
  split at e <;> cases e
  rename_i d _ xs hx
  obtain ⟨x, rfl, h⟩ := frs1 r
  unfold viewS at hx
  split at hx
  · rename_i ht
    cases hx
    obtain ⟨a, vs, rfl, s, rs⟩ := view_T h ht
    refine ⟨a, vs, rfl, .inr ⟨s, f w _ (.refl c) ?_⟩⟩
    rw [← viewT_eq ht]
    exact h
  · obtain ⟨a, vs, rfl, s, rs⟩ := view_L c h hx
    exact ⟨a, vs, rfl, .inl ⟨s, fun p hp => fin_fz c hp (fr_tup c hp rs) f⟩⟩

/-! ### subscripts -/
theorem atI_rel {K : PySem.W.Frag} {w : Hw} {xs : List D} {vs : List V} {i : Int} {d : D} (r : Frs K w xs vs) (h : atI xs i = some d) : ∃ v, atI vs i = some v ∧ Fr K w d v := by
  unfold atI at h ⊢
  rw [r.length]
  cases e : ixN xs.length i with
  | none => rw [e] at h; cases h
  | some j =>
    rw [e] at h
    obtain ⟨v, hv, fr⟩ := r.get (show xs[j]? = some d from h)
    exact ⟨v, hv, fr⟩
def oIx : D → D → Mu → Ro D
  | .str z, .int i, μ => if small z.length then match atI z.cps.toList i with
      | some c => some (.ok (.str ⟨#[c]⟩) μ)
      | none => none
    else none
  | a, .int i, μ => match viewS μ a with
    | some xs => match atI xs i with
      | some d => some (.ok d μ)
      | none => none
    | none => none
  | _, _, _ => none
theorem dr_ix : DR2 G n0 W (rIx G.K) oIx := by
  intro w μ σ a x b y c hn ra rb q e Q f
  unfold oIx at e
  split at e
  · rename_i z i
    split at e <;> rename_i hs <;> try cases e
    split at e <;> cases e
    rename_i hc
    have e1 : x = .str z := ra
    have e2 : y = .int i := rb
    subst e1 e2
    exact .inr (.inr ⟨z, i, _, rfl, rfl, small_ok hs, hc, f w _ (.refl c) rfl⟩)
  · rename_i i hz
    have e2 : y = .int i := rb
    subst e2
    split at e <;> try cases e
    rename_i xs hx
    split at e <;> cases e
    rename_i d hd
    obtain ⟨p, vs, rfl, s, rs⟩ := view_S c ra hx
    obtain ⟨v, hv, fr⟩ := atI_rel rs hd
    rcases s with s | s
    · exact .inl ⟨p, vs, i, v, rfl, rfl, s, hv, f w _ (.refl c) fr⟩
    · exact .inr (.inl ⟨p, vs, i, v, rfl, rfl, s, hv, f w _ (.refl c) fr⟩)
  · cases e

/-! ### a + b -/
def rPlus (K : PySem.W.Frag) : R2 := fun x y H Q => rI0 (fun i j => .int (i + j)) x y H Q ∨ rCat x y H Q ∨ rCatT K x y H Q ∨ (∃ i j, x = .str i ∧ y = .str j ∧ i.length + j.length ≤ sizeLine ∧ Q (.str (i ++ j)) H)
theorem op_plus {X : Cx} : OpR X (binaryOp .Add) (rPlus X.K) := opR_or op_add (opR_or op_cat (opR_or op_catT op_add_str))
/-- a list that is tracked -/
def viewK (μ : Mu) : D → Option (List D)
  | .lst xs => some xs
  | .cell k => match μ[k]? with
    | some (some (.lst xs)) => some xs
    | _ => none
  | _ => none
theorem view_K {G : Gx} {w : Hw} {μ : Mu} (c : Mc G w μ) {d : D} {v : V} {xs : List D} (h : Fr G.K w d v) (q : viewK μ d = some xs) : ∃ a vs, v = .ref a ∧ w.H a = some (.lst vs) ∧ Frs G.K w xs vs := by
  cases d with
  | lst ys =>
    obtain ⟨a, vs, e, n, h, r⟩ := h
    have q : ys = xs := Option.some.inj q
    subst q
    exact ⟨a, vs, e, h, r⟩
  | cell k =>
    obtain ⟨a, e, h⟩ := h
    unfold viewK at q
    simp only at q
    split at q
    · rename_i ys hm
      have q : ys = xs := Option.some.inj q
      subst q
      obtain ⟨⟨vs, h1, h2⟩, _⟩ := c.cell k _ a hm h
      exact ⟨a, vs, e, h1, h2⟩
    · cases q
  | non => cases (show (none : Option (List D)) = some xs from q)
  | bl b => cases (show (none : Option (List D)) = some xs from q)
  | int b => cases (show (none : Option (List D)) = some xs from q)
  | str b => cases (show (none : Option (List D)) = some xs from q)
  | tup b => cases (show (none : Option (List D)) = some xs from q)
  | scr b => cases (show (none : Option (List D)) = some xs from q)
  | exn b => cases (show (none : Option (List D)) = some xs from q)
def catL (mk : List D → Mu → Ro D) (a b : D) (μ : Mu) : Ro D := match viewK μ a, viewK μ b with
  | some xs, some ys => mk (xs ++ ys) μ
  | _, _ => none
def oPlus : D → D → Mu → Ro D
  | .int i, .int j, μ => some (.ok (.int (i + j)) μ)
  | .str i, .str j, μ => if small (i.length + j.length) then some (.ok (.str (i ++ j)) μ) else none
  | .tup xs, .tup ys, μ => if small (xs.length + ys.length) then (if xs.isEmpty then none else some (.ok (.tup (xs ++ ys)) μ)) else none
  | a, b, μ => catL newL a b μ
def oPlusC : D → D → Mu → Ro D := catL newC
theorem dr_plus : DR2 G n0 W (rPlus G.K) oPlus := by
  intro w μ σ a x b y c hn ra rb q e Q f
  unfold oPlus at e
  split at e
  · cases e
    have e1 : x = .int _ := ra
    have e2 : y = .int _ := rb
    subst e1 e2
    exact .inl ⟨_, _, rfl, rfl, f w _ (.refl c) rfl⟩
  · split at e <;> rename_i hs <;> cases e
    have e1 : x = .str _ := ra
    have e2 : y = .str _ := rb
    subst e1 e2
    exact .inr (.inr (.inr ⟨_, _, rfl, rfl, small_ok hs, f w _ (.refl c) rfl⟩))
  · rename_i xs ys
    split at e <;> rename_i hs <;> try cases e
    split at e <;> rename_i he <;> cases e
    obtain ⟨p, vs, rfl, np, hp, rs⟩ := ra
    obtain ⟨q, us, rfl, nq, hq, ts⟩ := rb
    have hne : vs ≠ [] := fun z => he (by
      have := rs.length
      rw [z] at this
      have h0 : xs = [] := List.eq_nil_of_length_eq_zero this.symm
      rw [h0]; rfl)
    have hle : vs.length + us.length ≤ sizeLine := by rw [rs.length, ts.length]; exact small_ok hs
    refine .inr (.inr (.inl ⟨p, q, vs, us, rfl, rfl, .of hp, .of hq, hne, hle, ?_⟩))
    refine ⟨fun z => ?_, fun z l hl => fin_fz c hl (fr_tup c hl (rs.append ts)) f⟩
    subst z
    have e0 : ys = [] := List.eq_nil_of_length_eq_zero ts.length.symm
    subst e0
    refine f w _ (.refl c) ⟨p, vs, rfl, np, hp, ?_⟩
    rw [List.append_nil]
    exact rs
  · unfold catL at e
    split at e <;> try cases e
    rename_i xs ys h1 h2
    obtain ⟨p, vs, rfl, hp, rs⟩ := view_K c ra h1
    obtain ⟨l, us, rfl, hl, ts⟩ := view_K c rb h2
    obtain ⟨h3, h4⟩ := at_newL (σ := σ) c (rs.append ts) q e Q f
    exact .inr (.inl ⟨p, l, vs, us, rfl, rfl, hp, hl, by simpa using h3, h4⟩)
theorem dr_plusC : DR2 G n0 W (rPlus G.K) oPlusC := by
  intro w μ σ a x b y c hn ra rb q e Q f
  unfold oPlusC catL at e
  split at e <;> try cases e
  rename_i xs ys h1 h2
  obtain ⟨p, vs, rfl, hp, rs⟩ := view_K c ra h1
  obtain ⟨l, us, rfl, hl, ts⟩ := view_K c rb h2
  obtain ⟨h3, h4⟩ := at_newC (σ := σ) c hn (rs.append ts) q e Q f
  exact .inr (.inl ⟨p, l, vs, us, rfl, rfl, hp, hl, by simpa using h3, h4⟩)
end
end G4

/-! G5: == and in of data, isinstance. -/
namespace G4
open PySem PySem.Spec PyProof.Rows L2

mutual
def D.py : D → PyData
  | .non => .none
  | .bl b => .bool b
  | .int i => .int i
  | .str x => .str x
  | .tup xs => .tuple (pys xs)
  | .lst xs => .list (pys xs)
  | .scr xs => .list (pys xs)
  | .cell _ => .none
  | .exn _ => .none
def pys : List D → List PyData
  | [] => []
  | d :: ds => d.py :: pys ds
end
mutual
/-- no cells, texts that may be laid, at most n deep -/
def D.nice : Nat → D → Bool
  | n, .tup xs => match n with
    | 0 => false
    | n + 1 => nices n xs
  | n, .lst xs => match n with
    | 0 => false
    | n + 1 => nices n xs
  | n, .scr xs => match n with
    | 0 => false
    | n + 1 => nices n xs
  | _, .cell _ => false
  | _, .exn _ => false
  | _, .str x => PyData.strOk x
  | _, _ => true
def nices : Nat → List D → Bool
  | _, [] => true
  | n, d :: ds => d.nice n && nices n ds
end
theorem pys_map (ds : List D) : pys ds = ds.map D.py := by
  induction ds with
  | nil => rfl
  | cons d ds ih => simp [pys, ih]
theorem nices_iff {n : Nat} {ds : List D} : nices n ds = true ↔ ∀ d ∈ ds, d.nice n = true := by
  induction ds with
  | nil => simp [nices]
  | cons d ds ih => simp [nices, ih]
mutual
theorem nice_py : ∀ {n : Nat} {d : D}, d.nice n = true → d.pure = true ∧ d.py.canLay0 = true ∧ d.py.depth ≤ n
  | n, .non, _ => ⟨rfl, rfl, by simp [D.py, PyData.depth]⟩
  | n, .bl b, _ => ⟨rfl, rfl, by simp [D.py, PyData.depth]⟩
  | n, .int i, _ => ⟨rfl, rfl, by simp [D.py, PyData.depth]⟩
  | n, .str x, h => ⟨rfl, by simpa [D.py, PyData.canLay0, D.nice] using h, by simp [D.py, PyData.depth]⟩
  | 0, .tup xs, h => by simp [D.nice] at h
  | n + 1, .tup xs, h => by
    obtain ⟨h1, h2, h3⟩ := nices_py (n := n) (ds := xs) (by simpa [D.nice] using h)
    exact ⟨by simpa [D.pure] using h1, by simpa [D.py, PyData.canLay0] using h2, by simp only [D.py, PyData.depth]; omega⟩
  | 0, .lst xs, h => by simp [D.nice] at h
  | n + 1, .lst xs, h => by
    obtain ⟨h1, h2, h3⟩ := nices_py (n := n) (ds := xs) (by simpa [D.nice] using h)
    exact ⟨by simpa [D.pure] using h1, by simpa [D.py, PyData.canLay0] using h2, by simp only [D.py, PyData.depth]; omega⟩
  | 0, .scr xs, h => by simp [D.nice] at h
  | n + 1, .scr xs, h => by
    obtain ⟨h1, h2, h3⟩ := nices_py (n := n) (ds := xs) (by simpa [D.nice] using h)
    exact ⟨by simpa [D.pure] using h1, by simpa [D.py, PyData.canLay0] using h2, by simp only [D.py, PyData.depth]; omega⟩
  | n, .cell k, h => by simp [D.nice] at h
  | n, .exn k, h => by simp [D.nice] at h
theorem nices_py : ∀ {n : Nat} {ds : List D}, nices n ds = true → pures ds = true ∧ PyData.canLayAll0 (pys ds) = true ∧ PyData.depthAll (pys ds) ≤ n
  | n, [], _ => ⟨rfl, rfl, by simp [pys, PyData.depthAll]⟩
  | n, d :: ds, h => by
    simp only [nices, Bool.and_eq_true] at h
    obtain ⟨a1, a2, a3⟩ := nice_py h.1
    obtain ⟨b1, b2, b3⟩ := nices_py h.2
    refine ⟨by simp [pures, a1, b1], by simp [pys, PyData.canLayAll0, a2, b2], ?_⟩
    simp only [pys, PyData.depthAll]
    omega
end
theorem nice_shaped {d : D} (h : d.nice 60 = true) : SeqAt.shaped d.py = true := by
  obtain ⟨_, h2, h3⟩ := nice_py h
  show (d.py.canLay0 && decide (d.py.depth ≤ 64)) = true
  rw [Bool.and_eq_true]
  exact ⟨h2, decide_eq_true (by omega)⟩
mutual
theorem Fr.dp {K : PySem.W.Frag} {w : Hw} : ∀ {d : D} {v : V}, d.pure = true → Fr K w d v → Dp K w.H v d.py
  | .non, _, _, h => by cases h; exact .non
  | .bl b, _, _, h => by cases h; exact .bl b
  | .int i, _, _, h => by cases h; exact .int i
  | .str x, _, _, h => by cases h; exact .str x
  | .tup xs, _, p, ⟨a, vs, e, n, h, r⟩ => by subst e; exact .tup (.of h) (Frs.dp (by simpa [D.pure] using p) r)
  | .lst xs, _, p, ⟨a, vs, e, n, h, r⟩ => by subst e; exact .lst (.of h) (Frs.dp (by simpa [D.pure] using p) r)
  | .scr xs, _, p, ⟨a, vs, e, h, r⟩ => by subst e; exact .lst h.sq (Frs.dp (by simpa [D.pure] using p) r)
  | .cell k, _, p, _ => by simp [D.pure] at p
  | .exn k, _, p, _ => by simp [D.pure] at p
theorem Frs.dp {K : PySem.W.Frag} {w : Hw} : ∀ {ds : List D} {vs : List V}, pures ds = true → Frs K w ds vs → DpAll K w.H vs (pys ds)
  | [], _, _, h => by cases h; exact .nil
  | d :: ds, _, p, ⟨v, r, e, h, t⟩ => by
    subst e
    simp only [pures, Bool.and_eq_true] at p
    exact .cons (Fr.dp p.1 h) (Frs.dp p.2 t)
end
/-- data as it is compared: a cell's content, if it is a list -/
def val (μ : Mu) : D → D
  | .cell k => match μ[k]? with
    | some (some (.lst xs)) => .lst xs
    | _ => .cell k
  | d => d
theorem val_dp {G : Gx} {w : Hw} {μ : Mu} (c : Mc G w μ) {d : D} {v : V} (h : Fr G.K w d v) (n : (val μ d).nice 60 = true) : Dp G.K w.H v (val μ d).py := by
  cases d with
  | cell k =>
    unfold val at n ⊢
    simp only at n ⊢
    split
    · rename_i xs hm
      rw [hm] at n
      obtain ⟨a, rfl, ha⟩ := h
      obtain ⟨⟨vs, h1, h2⟩, _⟩ := c.cell k _ a hm ha
      have p := (nice_py n).1
      exact .lst (.of h1) (Frs.dp (by simpa [D.pure] using p) h2)
    · rename_i hm
      split at n
      · rename_i xs hm2
        exact absurd hm2 (hm xs)
      · simp [D.nice] at n
  | non => exact Fr.dp (nice_py n).1 h
  | bl b => exact Fr.dp (nice_py n).1 h
  | int b => exact Fr.dp (nice_py n).1 h
  | str b => exact Fr.dp (nice_py n).1 h
  | tup b => exact Fr.dp (nice_py n).1 h
  | lst b => exact Fr.dp (nice_py n).1 h
  | exn b => exact Fr.dp (nice_py n).1 h
  | scr b => exact Fr.dp (nice_py n).1 h
def D.eqv (a b : D) : Bool := PyData.eqv a.py b.py
def oEq (a b : D) (μ : Mu) : Ro D := if (val μ a).nice 60 && (val μ b).nice 60 then some (.ok (.bl ((val μ a).eqv (val μ b))) μ) else none
def oNe (a b : D) (μ : Mu) : Ro D := if (val μ a).nice 60 && (val μ b).nice 60 then some (.ok (.bl (!(val μ a).eqv (val μ b))) μ) else none
section
variable {G : Gx} {n0 : Nat} {W : WX}
theorem dr_eq : DR2 G n0 W (rEqD G.K) oEq := by
  intro w μ σ a x b y c hn ra rb q e Q f
  unfold oEq at e
  split at e <;> rename_i hs <;> cases e
  rw [Bool.and_eq_true] at hs
  exact ⟨_, _, val_dp c ra hs.1, val_dp c rb hs.2, nice_shaped hs.1, nice_shaped hs.2, f w _ (.refl c) rfl⟩
theorem dr_ne : DR2 G n0 W (rNeD G.K) oNe := by
  intro w μ σ a x b y c hn ra rb q e Q f
  unfold oNe at e
  split at e <;> rename_i hs <;> cases e
  rw [Bool.and_eq_true] at hs
  exact ⟨_, _, val_dp c ra hs.1, val_dp c rb hs.2, nice_shaped hs.1, nice_shaped hs.2, f w _ (.refl c) rfl⟩

/-! ### x in xs -/
def D.flat : D → Bool
  | .non => true
  | .bl _ => true
  | .int _ => true
  | .str _ => true
  | _ => false
theorem Fr.flat {K : PySem.W.Frag} {w : Hw} {d : D} {v : V} (h : Fr K w d v) (f : d.flat = true) : flatV v = true := by
  cases d <;> first | (simp [D.flat] at f; done) | (cases h; rfl)
theorem beq_ite (a : Bool) (b : Bool) : ((if a = true then (1 : Int) else 0) == (if b = true then 1 else 0)) = (a == b) := by cases a <;> cases b <;> rfl
theorem Fr.eqV {K : PySem.W.Frag} {w : Hw} {d e : D} {v u : V} (h : Fr K w d v) (k : Fr K w e u) (f : d.flat = true) (g : e.flat = true) : eqV v u = d.eqv e := by
  cases d <;> first
    | (simp [D.flat] at f; done)
    | (cases h
       cases e <;> first
        | (simp [D.flat] at g; done)
        | (cases k; first | rfl | simp [L2.eqV, D.eqv, D.py, PyData.eqv]))
theorem Frs.flat {K : PySem.W.Frag} {w : Hw} : ∀ {ds : List D} {vs : List V}, Frs K w ds vs → ds.all D.flat = true → vs.all flatV = true
  | [], _, h, _ => by cases h; rfl
  | d :: ds, _, ⟨v, r, e, h, t⟩, f => by
    subst e
    simp only [List.all_cons, Bool.and_eq_true] at f ⊢
    exact ⟨h.flat f.1, Frs.flat t f.2⟩
theorem Frs.inV {K : PySem.W.Frag} {w : Hw} {d : D} {v : V} (h : Fr K w d v) (f : d.flat = true) : ∀ {ds : List D} {vs : List V}, Frs K w ds vs → ds.all D.flat = true → inV v vs = ds.any fun z => z.eqv d
  | [], _, q, _ => by cases q; rfl
  | e :: ds, _, ⟨u, r, eq, k, t⟩, g => by
    subst eq
    simp only [List.all_cons, Bool.and_eq_true] at g
    have ih := Frs.inV h f t g.2
    unfold L2.inV at ih ⊢
    rw [List.any_cons, List.any_cons, ih, k.eqV h g.1 f]
def inD (neg : Bool) (a b : D) (μ : Mu) : Ro D := match b with
  | .tup ys => if a.flat && ys.all D.flat then some (.ok (.bl (neg ^^ (ys.any fun z => z.eqv a))) μ) else none
  | b => match val μ b with
    | .lst ys => if (val μ a).nice 60 && (D.lst ys).nice 60 then some (.ok (.bl (neg ^^ (ys.any fun z => z.eqv (val μ a)))) μ) else none
    | _ => none
abbrev oIn := inD false
abbrev oNotIn := inD true
def rInA (K : PySem.W.Frag) : R2 := fun x y H Q => rIn K false x y H Q ∨ rInD K x y H Q
def rNotInA (K : PySem.W.Frag) : R2 := fun x y H Q => rIn K true x y H Q ∨ rNotInD K x y H Q
theorem op_inA {X : Cx} (hu : X.A.units + 65 < cLine) : OpR X (compareOp .In) (rInA X.K) := opR_or op_in_seq (op_inD hu)
theorem op_notInA {X : Cx} (hu : X.A.units + 65 < cLine) : OpR X (compareOp .NotIn) (rNotInA X.K) := opR_or op_notIn_seq (op_notInD hu)
theorem any_py (a : D) (ys : List D) : ((pys ys).any fun z => PyData.eqv z a.py) = ys.any fun z => z.eqv a := by
  rw [pys_map, List.any_map]
  rfl
theorem val_lst {G : Gx} {w : Hw} {μ : Mu} (c : Mc G w μ) {d : D} {v : V} {ys : List D} (h : Fr G.K w d v) (e : val μ d = .lst ys) (n : (D.lst ys).nice 60 = true) : Dp G.K w.H v (.list (pys ys)) := by
  have := val_dp c h (by rw [e]; exact n)
  rw [e] at this
  exact this
theorem dr_in : DR2 G n0 W (rInA G.K) oIn := by
  intro w μ σ a x b y c hn ra rb q e Q f
  unfold oIn inD at e
  split at e
  · rename_i ys
    split at e <;> rename_i hs <;> cases e
    rw [Bool.and_eq_true] at hs
    obtain ⟨p, vs, rfl, np, hp, rs⟩ := rb
    refine .inl ⟨p, vs, rfl, .inr (.of hp), ra.flat hs.1, rs.flat hs.2, f w _ (.refl c) ?_⟩
    rw [Frs.inV ra hs.1 rs hs.2]
    simp [Fr]
  · split at e <;> try cases e
    rename_i ys hy
    split at e <;> rename_i hs <;> cases e
    rw [Bool.and_eq_true] at hs
    refine .inr ⟨_, _, val_dp c ra hs.1, val_lst c rb hy hs.2, nice_shaped hs.1, nice_shaped (d := .lst ys) hs.2, f w _ (.refl c) ?_⟩
    rw [any_py]
    simp [Fr]
theorem dr_notIn : DR2 G n0 W (rNotInA G.K) oNotIn := by
  intro w μ σ a x b y c hn ra rb q e Q f
  unfold oNotIn inD at e
  split at e
  · rename_i ys
    split at e <;> rename_i hs <;> cases e
    rw [Bool.and_eq_true] at hs
    obtain ⟨p, vs, rfl, np, hp, rs⟩ := rb
    refine .inl ⟨p, vs, rfl, .inr (.of hp), ra.flat hs.1, rs.flat hs.2, f w _ (.refl c) ?_⟩
    rw [Frs.inV ra hs.1 rs hs.2]
    simp [Fr]
  · split at e <;> try cases e
    rename_i ys hy
    split at e <;> rename_i hs <;> cases e
    rw [Bool.and_eq_true] at hs
    refine .inr ⟨_, _, val_dp c ra hs.1, val_lst c rb hy hs.2, nice_shaped hs.1, nice_shaped (d := .lst ys) hs.2, f w _ (.refl c) ?_⟩
    rw [any_py]
    simp [Fr]

/-! ### isinstance with a built-in class -/
def tyD (μ : Mu) : D → String
  | .non => "NoneType"
  | .bl _ => "bool"
  | .int _ => "int"
  | .str _ => "str"
  | .tup _ => "tuple"
  | .lst _ => "list"
  | .scr _ => "list"
  | .cell k => match μ[k]? with
    | some (some (.lst _)) => "list"
    | some (some (.dK _)) => "dict"
    | some (some (.dT _)) => "dict"
    | _ => ""
  | .exn _ => ""
theorem tyD_ok {G : Gx} {w : Hw} {μ : Mu} (c : Mc G w μ) {d : D} {v : V} (h : Fr G.K w d v) (hn : tyD μ d ≠ "") : TyX G.K w.H v (.type (tyD μ d)) := by
  cases d with
  | non => cases h; exact .base .non
  | bl b => cases h; exact .base (.bl b)
  | int b => cases h; exact .base (.int b)
  | str b => cases h; exact .base (.str b)
  | tup b => obtain ⟨a, vs, rfl, n, h, r⟩ := h; exact .base (.tup h)
  | lst b => obtain ⟨a, vs, rfl, n, h, r⟩ := h; exact .base (.lst h)
  | scr b =>
    obtain ⟨a, vs, rfl, h, r⟩ := h
    rcases h with ⟨_, h | ⟨o, h⟩⟩ | ⟨o, its, n, h1, h2, _⟩
    · exact .base (.lst h)
    · exact .base (.frz h)
    · exact .kList h1 h2
  | cell k =>
    obtain ⟨a, rfl, ha⟩ := h
    unfold tyD at hn ⊢
    simp only at hn ⊢
    split
    · rename_i hm
      obtain ⟨⟨vs, h1, _⟩, _⟩ := c.cell k _ a hm ha
      exact .base (.lst h1)
    · rename_i hm
      obtain ⟨⟨vs, h1, _⟩, _⟩ := c.cell k _ a hm ha
      exact .base (.dK h1)
    · rename_i hm
      obtain ⟨⟨vs, h1, _⟩, _⟩ := c.cell k _ a hm ha
      exact .base (.dT h1)
    · rename_i h1 h2 h3
      split at hn
      · rename_i z; exact absurd z (h1 _)
      · rename_i z; exact absurd z (h2 _)
      · rename_i z; exact absurd z (h3 _)
      · exact absurd rfl hn
  | exn b => exact absurd rfl hn
def isD (t : String) (c : String) : Option Bool := match t, c with
  | "int", "int" => some true
  | "bool", "bool" => some true
  | "bool", "int" => some true
  | "str", "str" => some true
  | "tuple", "tuple" => some true
  | "list", "list" => some true
  | "dict", "dict" => some true
  | "NoneType", "int" => some false
  | "NoneType", "bool" => some false
  | "NoneType", "tuple" => some false
  | "NoneType", "list" => some false
  | "NoneType", "str" => some false
  | "int", "bool" => some false
  | "int", "tuple" => some false
  | "int", "list" => some false
  | "int", "str" => some false
  | "str", "int" => some false
  | "str", "bool" => some false
  | "str", "tuple" => some false
  | "str", "list" => some false
  | "tuple", "int" => some false
  | "tuple", "bool" => some false
  | "tuple", "list" => some false
  | "tuple", "str" => some false
  | "list", "int" => some false
  | "list", "bool" => some false
  | "list", "tuple" => some false
  | "list", "str" => some false
  | "bool", "tuple" => some false
  | "bool", "list" => some false
  | "bool", "str" => some false
  | _, _ => none
theorem isD_kit {t c : String} {b : Bool} (h : isD t c = some b) : kitB t c = some b := by
  unfold isD at h
  split at h <;> first | (cases h; decide +kernel) | cases h
/-- isinstance(x, T), T a built-in class by name -/
def eIsi (T : String) (f : Ev D) : Ev D := fun ρ μ => (f ρ μ).bnd fun d μ1 => match isD (tyD μ1 d) T with
  | some b => some (.ok (.bl b) μ1)
  | none => none
theorem de_isi {T : String} {t : TE} {f : Ev D} (h : DE G n0 W t f) : DE G n0 W (tCB (rIsi G.K) (tCons t (tCons (tC (.ty T)) tNil))) (eIsi T f) := by
  intro w ρ μ σ c vr hn
  refine (h w ρ μ σ c vr hn).bnd (uu := fun x H1 Q => rIsi G.K [x, .ty T] H1 Q) fun w1 μ1 d x p1 r1 => ?_
  intro q e Q f
  split at e <;> cases e
  rename_i b hb
  have hne : tyD μ1 d ≠ "" := fun z => by rw [z] at hb; simp [isD] at hb
  exact ⟨x, .ty T, _, _, b, rfl, .ty T, tyD_ok p1.mc r1 hne, kit_ty (isD_kit hb), f w1 _ (.refl p1.mc) rfl⟩
end
end G4

/-! G6: dicts, targets, statements, loops, comprehensions. -/
namespace G4
open PySem PySem.Spec PyProof.Rows L2

/-! ### dicts -/
section
variable {κ : Type} [DecidableEq κ]
def look (kvs : List (κ × D)) (k : κ) : Option D := (kvs.find? fun kv => decide (kv.1 = k)).map (·.2)
def putD (kvs : List (κ × D)) (k : κ) (d : D) : List (κ × D) := if (kvs.any fun kv => decide (kv.1 = k)) = true then kvs.map (fun kv => if kv.1 = k then (kv.1, d) else kv) else kvs ++ [(k, d)]
theorem look_rel {K : PySem.W.Frag} {w : Hw} (k : κ) : ∀ {kvs : List (κ × D)} {kvs' : List (κ × V)}, kvs'.map (·.1) = kvs.map (·.1) → Frs K w (kvs.map (·.2)) (kvs'.map (·.2)) →
    (∀ d, look kvs k = some d → ∃ v, valV kvs' k = some v ∧ Fr K w d v) ∧ (look kvs k = none → valV kvs' k = none)
  | [], [], _, _ => ⟨fun d h => (by simp [look] at h), fun _ => rfl⟩
  | [], _ :: _, e, _ => by simp at e
  | _ :: _, [], e, _ => by simp at e
  | p :: r, q :: r', e, f => by
    simp only [List.map_cons, List.cons.injEq] at e
    obtain ⟨e1, e2⟩ := e
    obtain ⟨v, s, e3, h, t⟩ := f
    simp only [List.map_cons, List.cons.injEq] at e3
    obtain ⟨e3, e4⟩ := e3
    rw [← e4] at t
    obtain ⟨i1, i2⟩ := look_rel k e2 t
    by_cases hk : p.1 = k
    · have hk' : q.1 = k := e1.trans hk
      have l1 : look (p :: r) k = some p.2 := by simp [look, List.find?_cons, hk]
      have l2 : valV (q :: r') k = some q.2 := valV_pos hk'
      refine ⟨fun d hd => ?_, fun hd => ?_⟩
      · rw [l1] at hd
        cases hd
        exact ⟨q.2, l2, e3 ▸ h⟩
      · rw [l1] at hd; cases hd
    · have hk' : ¬ q.1 = k := fun z => hk (e1 ▸ z)
      have l1 : look (p :: r) k = look r k := by simp [look, List.find?_cons, hk]
      have l2 : valV (q :: r') k = valV r' k := valV_neg hk'
      rw [l1, l2]
      exact ⟨i1, i2⟩
theorem any_rel (k : κ) : ∀ {kvs : List (κ × D)} {kvs' : List (κ × V)}, kvs'.map (·.1) = kvs.map (·.1) → (kvs'.any fun kv => decide (kv.1 = k)) = (kvs.any fun kv => decide (kv.1 = k))
  | [], [], _ => rfl
  | [], _ :: _, e => by simp at e
  | _ :: _, [], e => by simp at e
  | p :: r, q :: r', e => by
    simp only [List.map_cons, List.cons.injEq] at e
    rw [List.any_cons, List.any_cons, e.1, any_rel k e.2]
theorem map_rel {K : PySem.W.Frag} {w : Hw} (k : κ) {d : D} {v : V} (fr : Fr K w d v) : ∀ {kvs : List (κ × D)} {kvs' : List (κ × V)}, kvs'.map (·.1) = kvs.map (·.1) → Frs K w (kvs.map (·.2)) (kvs'.map (·.2)) →
    (kvs'.map fun kv => if kv.1 = k then (kv.1, v) else kv).map (·.1) = (kvs.map fun kv => if kv.1 = k then (kv.1, d) else kv).map (·.1) ∧
    Frs K w ((kvs.map fun kv => if kv.1 = k then (kv.1, d) else kv).map (·.2)) ((kvs'.map fun kv => if kv.1 = k then (kv.1, v) else kv).map (·.2))
  | [], [], _, _ => ⟨rfl, rfl⟩
  | [], _ :: _, e, _ => by simp at e
  | _ :: _, [], e, _ => by simp at e
  | p :: r, q :: r', e, f => by
    simp only [List.map_cons, List.cons.injEq] at e
    obtain ⟨e1, e2⟩ := e
    obtain ⟨u, s, e3, h, t⟩ := f
    simp only [List.map_cons, List.cons.injEq] at e3
    obtain ⟨e3, e4⟩ := e3
    rw [← e4] at t
    obtain ⟨i1, i2⟩ := map_rel k fr e2 t
    by_cases hk : p.1 = k
    · have hk' : q.1 = k := e1.trans hk
      simp only [List.map_cons, if_pos hk, if_pos hk', i1, e1]
      exact ⟨trivial, v, _, rfl, fr, i2⟩
    · have hk' : ¬ q.1 = k := fun z => hk (e1 ▸ z)
      simp only [List.map_cons, if_neg hk, if_neg hk', i1, e1]
      exact ⟨trivial, q.2, _, rfl, e3 ▸ h, i2⟩
theorem put_rel {K : PySem.W.Frag} {w : Hw} (k : κ) {d : D} {v : V} (fr : Fr K w d v) {kvs : List (κ × D)} {kvs' : List (κ × V)} (e : kvs'.map (·.1) = kvs.map (·.1)) (f : Frs K w (kvs.map (·.2)) (kvs'.map (·.2))) :
    (putK kvs' k v).map (·.1) = (putD kvs k d).map (·.1) ∧ Frs K w ((putD kvs k d).map (·.2)) ((putK kvs' k v).map (·.2)) := by
  unfold putK putD
  rw [any_rel k e]
  split
  · exact map_rel k fr e f
  · simp only [List.map_append, e]
    exact ⟨rfl, f.append (Frs.one fr)⟩
theorem low_put {n : Nat} (k : κ) {d : D} (h : d.low n = true) {kvs : List (κ × D)} (hk : lows n (kvs.map (·.2)) = true) : lows n ((putD kvs k d).map (·.2)) = true := by
  rw [lows_iff] at hk ⊢
  intro e he
  unfold putD at he
  split at he
  · rw [List.map_map] at he
    obtain ⟨p, hp, q⟩ := List.mem_map.mp he
    simp only [Function.comp] at q
    split at q
    · subst q; exact h
    · subst q; exact hk _ (List.mem_map_of_mem hp)
  · rw [List.map_append, List.mem_append] at he
    rcases he with he | he
    · exact hk e he
    · have : e = d := by simpa using he
      subst this
      exact h
end
def keyOf : D → Option Key
  | .int i => some (.inl i)
  | .str x => some (.inr x)
  | _ => none
theorem keyOf_ok {K : PySem.W.Frag} {w : Hw} {d : D} {v : V} {k : Key} (h : Fr K w d v) (e : keyOf d = some k) : v = kV k := by
  cases d <;> simp [keyOf] at e <;> subst e <;> exact h
def keysOf : List D → Option (List Key)
  | [] => some []
  | d :: ds => match keyOf d, keysOf ds with
    | some k, some ks => some (k :: ks)
    | _, _ => none
theorem keysOf_ok {K : PySem.W.Frag} {w : Hw} : ∀ {ds : List D} {vs : List V} {ks : List Key}, Frs K w ds vs → keysOf ds = some ks → vs = ks.map kV
  | [], _, _, h, e => by cases h; cases e; rfl
  | d :: ds, _, _, ⟨v, r, q, h, t⟩, e => by
    subst q
    unfold keysOf at e
    split at e <;> cases e
    rename_i k ks e1 e2
    rw [List.map_cons, ← keyOf_ok h e1, ← keysOf_ok t e2]
/-- what the dict d holds at e -/
def dget (μ : Mu) (d e : D) : Option (Option D) := match d with
  | .cell k => match μ[k]? with
    | some (some (.dK kvs)) => match keyOf e with
      | some j => some (look kvs j)
      | none => none
    | some (some (.dT kvs)) => match e with
      | .tup es => match keysOf es with
        | some j => some (look kvs j)
        | none => none
      | _ => none
    | _ => none
  | _ => none
theorem dget_ok {G : Gx} {w : Hw} {μ : Mu} (c : Mc G w μ) {d e : D} {x y : V} {o : Option D} (h : Fr G.K w d x) (k : Fr G.K w e y) (q : dget μ d e = some o) :
    ∃ a o', x = .ref a ∧ DGet w.H a y o' ∧ (∀ r, o = some r → ∃ v, o' = some v ∧ Fr G.K w r v) ∧ (o = none → o' = none) := by
  unfold dget at q
  split at q
  · obtain ⟨a, rfl, ha⟩ := h
    split at q
    · rename_i kvs hm
      split at q <;> cases q
      rename_i j hj
      obtain ⟨⟨kvs', h1, h2, h3⟩, _⟩ := c.cell _ _ a hm ha
      rw [keyOf_ok k hj]
      obtain ⟨l1, l2⟩ := look_rel j h2 h3
      exact ⟨a, _, rfl, .k h1, l1, l2⟩
    · rename_i kvs hm
      split at q <;> try cases q
      split at q <;> cases q
      rename_i es j hj
      obtain ⟨⟨kvs', h1, h2, h3⟩, _⟩ := c.cell _ _ a hm ha
      obtain ⟨b, vs, rfl, nb, hb, rs⟩ := k
      rw [keysOf_ok rs hj] at hb
      obtain ⟨l1, l2⟩ := look_rel j h2 h3
      exact ⟨a, _, rfl, .t h1 hb, l1, l2⟩
    · cases q
  · cases q
section
variable {G : Gx} {n0 : Nat} {W : WX}
def eGet (f g : Ev D) : Ev D := fun ρ μ => (f ρ μ).bnd fun a μ1 => (g ρ μ1).bnd fun b μ2 => match dget μ2 a b with
  | some (some d) => some (.ok d μ2)
  | _ => none
theorem de_get {t u : TE} {f g : Ev D} (h : DE G n0 W t f) (k : DE G n0 W u g) : DE G n0 W (tDGet t u) (eGet f g) := by
  intro w ρ μ σ c vr hn
  refine (h w ρ μ σ c vr hn).bnd (uu := fun x H1 (Q : VK) => u σ H1 fun y H2 => ∃ a v, x = .ref a ∧ DGet H2 a y (some v) ∧ Q v H2) fun w1 μ1 d x p1 r1 => ?_
  refine (k w1 ρ μ1 σ p1.mc (vr.mono p1.ex) (p1.nn hn)).bnd (uu := fun y H2 (Q : VK) => ∃ a v, x = .ref a ∧ DGet H2 a y (some v) ∧ Q v H2) fun w2 μ2 e y p2 r2 => ?_
  intro q eq Q fin
  split at eq <;> cases eq
  rename_i d' hd
  obtain ⟨a, o', e1, g1, g2, _⟩ := dget_ok p2.mc (r1.mono p2.ex) r2 hd
  obtain ⟨v, rfl, fr⟩ := g2 d' rfl
  exact ⟨a, v, e1, g1, fin w2 v (.refl p2.mc) fr⟩
/-- k in d -/
def eDin (neg : Bool) (f g : Ev D) : Ev D := fun ρ μ => (f ρ μ).bnd fun b μ1 => (g ρ μ1).bnd fun a μ2 => match dget μ2 a b with
  | some o => some (.ok (.bl (neg ^^ o.isSome)) μ2)
  | none => none
theorem de_din {t u : TE} {f g : Ev D} (h : DE G n0 W t f) (k : DE G n0 W u g) : DE G n0 W (tDIn t u) (eDin false f g) := by
  intro w ρ μ σ c vr hn
  refine (h w ρ μ σ c vr hn).bnd (uu := fun y H1 (Q : VK) => u σ H1 fun x H2 => ∃ a o, x = .ref a ∧ DGet H2 a y o ∧ Q (.bl o.isSome) H2) fun w1 μ1 d x p1 r1 => ?_
  refine (k w1 ρ μ1 σ p1.mc (vr.mono p1.ex) (p1.nn hn)).bnd (uu := fun y H2 (Q : VK) => ∃ a o, y = .ref a ∧ DGet H2 a x o ∧ Q (.bl o.isSome) H2) fun w2 μ2 e y p2 r2 => ?_
  intro q eq Q fin
  split at eq <;> cases eq
  rename_i o hd
  obtain ⟨a, o', e1, g1, g2, g3⟩ := dget_ok p2.mc r2 (r1.mono p2.ex) hd
  refine ⟨a, o', e1, g1, fin w2 _ (.refl p2.mc) ?_⟩
  cases o with
  | none => rw [g3 rfl]; rfl
  | some r => obtain ⟨v, e, _⟩ := g2 r rfl; rw [e]; rfl
theorem de_dnotin {t u : TE} {f g : Ev D} (h : DE G n0 W t f) (k : DE G n0 W u g) : DE G n0 W (tDNotIn t u) (eDin true f g) := by
  intro w ρ μ σ c vr hn
  refine (h w ρ μ σ c vr hn).bnd (uu := fun y H1 (Q : VK) => u σ H1 fun x H2 => ∃ a o, x = .ref a ∧ DGet H2 a y o ∧ Q (.bl (!o.isSome)) H2) fun w1 μ1 d x p1 r1 => ?_
  refine (k w1 ρ μ1 σ p1.mc (vr.mono p1.ex) (p1.nn hn)).bnd (uu := fun y H2 (Q : VK) => ∃ a o, y = .ref a ∧ DGet H2 a x o ∧ Q (.bl (!o.isSome)) H2) fun w2 μ2 e y p2 r2 => ?_
  intro q eq Q fin
  split at eq <;> cases eq
  rename_i o hd
  obtain ⟨a, o', e1, g1, g2, g3⟩ := dget_ok p2.mc r2 (r1.mono p2.ex) hd
  refine ⟨a, o', e1, g1, fin w2 _ (.refl p2.mc) ?_⟩
  cases o with
  | none => rw [g3 rfl]; rfl
  | some r => obtain ⟨v, e, _⟩ := g2 r rfl; rw [e]; rfl
/-- {} -/
def eNewK : Ev D := fun ρ μ => some (.ok (.cell μ.length) (μ ++ [some (.dK [])]))
def eNewT : Ev D := fun ρ μ => some (.ok (.cell μ.length) (μ ++ [some (.dT [])]))
theorem de_newK : DE G n0 W tDNewK eNewK := by
  intro w ρ μ σ c vr hn q e Q f
  cases e
  exact fun p hp => fin_mk (m := .dK []) c hn hp ⟨[], upd_same, rfl, rfl⟩ f
theorem de_newT : DE G n0 W tDNewT eNewT := by
  intro w ρ μ σ c vr hn q e Q f
  cases e
  exact fun p hp => fin_mk (m := .dT []) c hn hp ⟨[], upd_same, rfl, rfl⟩ f
/-- {k: v, ..} -/
def ePairs : List (Ev D × Ev D) → Ev (List (D × D))
  | [] => fun _ μ => some (.ok [] μ)
  | p :: r => fun ρ μ => (p.1 ρ μ).bnd fun a μ1 => (p.2 ρ μ1).bnd fun b μ2 => (ePairs r ρ μ2).bnd fun ps μ3 => some (.ok ((a, b) :: ps) μ3)
inductive DPs (G : Gx) (n0 : Nat) (W : WX) : List (TE × TE) → List (Ev D × Ev D) → Prop
  | nil : DPs G n0 W [] []
  | cons {t u : TE} {f g : Ev D} {ts fs} : DE G n0 W t f → DE G n0 W u g → DPs G n0 W ts fs → DPs G n0 W ((t, u) :: ts) ((f, g) :: fs)
def Prs (K : PySem.W.Frag) (w : Hw) (ps : List (D × D)) (vs : List (V × V)) : Prop := Frs K w (ps.map (·.1)) (vs.map (·.1)) ∧ Frs K w (ps.map (·.2)) (vs.map (·.2))
theorem dps_ok {ts : List (TE × TE)} {fs : List (Ev D × Ev D)} (h : DPs G n0 W ts fs) : DX G n0 W (Prs G.K) (tPairs ts) (ePairs fs) := by
  induction h with
  | nil => exact fun w ρ μ σ c vr hn => .ret (v := []) c ⟨rfl, rfl⟩ fun Q q => q
  | @cons t u f g ts fs h k _ ih =>
    intro w ρ μ σ c vr hn
    refine (h w ρ μ σ c vr hn).bnd (uu := fun x H1 Q => u σ H1 fun y H2 => tPairs ts σ H2 fun ps H3 => Q ((x, y) :: ps) H3) fun w1 μ1 a x p1 r1 => ?_
    refine (k w1 ρ μ1 σ p1.mc (vr.mono p1.ex) (p1.nn hn)).bnd (uu := fun y H2 Q => tPairs ts σ H2 fun ps H3 => Q ((x, y) :: ps) H3) fun w2 μ2 b y p2 r2 => ?_
    refine (ih w2 ρ μ2 σ p2.mc ((vr.mono p1.ex).mono p2.ex) (p2.nn (p1.nn hn))).bnd (uu := fun ps H3 Q => Q ((x, y) :: ps) H3) fun w3 μ3 ps vs p3 r3 => ?_
    exact .ret p3.mc ⟨⟨x, _, rfl, (r1.mono p2.ex).mono p3.ex, r3.1⟩, ⟨y, _, rfl, r2.mono p3.ex, r3.2⟩⟩ fun Q q => q
def keyPs : List (D × D) → Option (List (Key × D))
  | [] => some []
  | p :: r => match keyOf p.1, keyPs r with
    | some k, some ks => some ((k, p.2) :: ks)
    | _, _ => none
theorem keyPs_ok {K : PySem.W.Frag} {w : Hw} : ∀ {ps : List (D × D)} {vs : List (V × V)} {kvs : List (Key × D)}, Prs K w ps vs → keyPs ps = some kvs →
    ∃ kvs' : List (Key × V), vs = kvs'.map (fun kv => (kV kv.1, kv.2)) ∧ kvs'.map (·.1) = kvs.map (·.1) ∧ Frs K w (kvs.map (·.2)) (kvs'.map (·.2)) ∧ kvs'.length = kvs.length
  | [], [], _, _, e => by cases e; exact ⟨[], rfl, rfl, rfl, rfl⟩
  | [], _ :: _, _, h, _ => by have := h.1; simp [Frs] at this
  | _ :: _, [], _, h, _ => by obtain ⟨v, r, e, _⟩ := h.1; simp at e
  | p :: ps, q :: vs, _, ⟨⟨v, r, e1, h1, t1⟩, ⟨u, s, e2, h2, t2⟩⟩, e => by
    unfold keyPs at e
    split at e <;> cases e
    rename_i k ks k1 k2
    simp only [List.map_cons, List.cons.injEq] at e1 e2
    obtain ⟨e1, e1'⟩ := e1
    obtain ⟨e2, e2'⟩ := e2
    rw [← e1'] at t1
    rw [← e2'] at t2
    obtain ⟨kvs', i1, i2, i3, i4⟩ := keyPs_ok (ps := ps) (vs := vs) ⟨t1, t2⟩ k2
    refine ⟨(k, q.2) :: kvs', ?_, by simp [i2], ⟨q.2, _, rfl, e2 ▸ h2, i3⟩, by simp [i4]⟩
    rw [List.map_cons, ← i1]
    have := keyOf_ok h1 k1
    obtain ⟨q1, q2⟩ := q
    simp only at e1
    rw [e1, this]
def mergeD (kvs more : List (Key × D)) : List (Key × D) := more.foldl (fun acc kv => putD acc kv.1 kv.2) kvs
theorem merge_rel {K : PySem.W.Frag} {w : Hw} : ∀ {more : List (Key × D)} {more' : List (Key × V)} {kvs : List (Key × D)} {kvs' : List (Key × V)}, more'.map (·.1) = more.map (·.1) → Frs K w (more.map (·.2)) (more'.map (·.2)) →
    kvs'.map (·.1) = kvs.map (·.1) → Frs K w (kvs.map (·.2)) (kvs'.map (·.2)) → (mergeK kvs' more').map (·.1) = (mergeD kvs more).map (·.1) ∧ Frs K w ((mergeD kvs more).map (·.2)) ((mergeK kvs' more').map (·.2))
  | [], [], _, _, _, _, e, f => ⟨e, f⟩
  | [], _ :: _, _, _, e, _, _, _ => by simp at e
  | _ :: _, [], _, _, e, _, _, _ => by simp at e
  | p :: r, q :: r', kvs, kvs', e, f, e', f' => by
    simp only [List.map_cons, List.cons.injEq] at e
    obtain ⟨v, s, e3, h, t⟩ := f
    simp only [List.map_cons, List.cons.injEq] at e3
    obtain ⟨e3, e4⟩ := e3
    rw [← e4] at t
    obtain ⟨a1, a2⟩ := put_rel p.1 (e3 ▸ h : Fr K w p.2 q.2) e' f'
    have := merge_rel (kvs := putD kvs p.1 p.2) (kvs' := putK kvs' p.1 q.2) e.2 t a1 a2
    rw [← e.1] at this
    simpa [mergeK, mergeD, e.1] using this
def eDisp (fs : List (Ev D × Ev D)) : Ev D := fun ρ μ => (ePairs fs ρ μ).bnd fun ps μ1 => match keyPs ps with
  | some kvs => if kvs.length ≤ 15 then some (.ok (.cell μ1.length) (μ1 ++ [some (.dK (mergeD [] kvs))])) else none
  | none => none
theorem de_disp {ts : List (TE × TE)} {fs : List (Ev D × Ev D)} (h : DPs G n0 W ts fs) : DE G n0 W (tDisp ts) (eDisp fs) := by
  intro w ρ μ σ c vr hn r e Q f p hp
  obtain ⟨x1, c1, h1⟩ := Hid.new (o := .dK []) c hp
  have p0 : Post G n0 w μ (w.wr p (.dK [])) μ := ⟨x1, c1, .refl _ _⟩
  rcases Ro.bnd_some e with ⟨ps, μ1, e1, e2⟩ | ⟨x, μ1, e1, e2⟩
  · refine dps_ok h _ ρ μ σ c1 (vr.mono x1) hn _ e1 _ fun w2 vs p2 r2 => ?_
    have h2 := h1.ex p2.ex
    split at e2 <;> try cases e2
    rename_i kvs hk
    split at e2 <;> rename_i hl <;> cases e2
    obtain ⟨kvs', i1, i2, i3, i4⟩ := keyPs_ok r2 hk
    refine ⟨h2.at_, kvs', i1, by omega, ?_⟩
    have x2 := x1.trans p2.ex
    obtain ⟨x3, c3, h3, fr⟩ := Hid.wr (o' := .dK (mergeK [] kvs')) c hp x2 h2 p2.mc
    obtain ⟨m1, m2⟩ := merge_rel (kvs := []) (kvs' := []) i2 i3 rfl (by simp [Frs])
    obtain ⟨x4, c4, l4⟩ := Hid.cel (m := .dK (mergeD [] kvs)) hp x3 h3 c3 ⟨_, upd_same, m1, fr m2⟩
    exact f _ (.ref p) ⟨x4, c4, p2.kp.trans (.push (p2.nn hn) _)⟩ ⟨p, rfl, l4⟩
  · subst e2
    exact dps_ok h _ ρ μ σ c1 (vr.mono x1) hn _ e1 _ fun w2 cls dx p2 xx => f w2 cls dx (p0.trans p2) xx
end
end G4

/-! G7: targets, statements, loops. -/
namespace G4
open PySem PySem.Spec PyProof.Rows L2

inductive Fl where
  | nx (ρ : Env) (μ : Mu)
  | bk (ρ : Env) (μ : Mu)
  | ct (ρ : Env) (μ : Mu)
  | rt (d : D) (μ : Mu)
  | ex (x : XD) (ρ : Env) (μ : Mu)
abbrev Sv := Env → Mu → Option Fl
abbrev Tv := D → Env → Mu → Ro Env

section
variable (G : Gx) (n0 : Nat) (W : WX)
def FinG (w : Hw) (μ : Mu) (σ : L2.St) (Q : L2.St → Hp → Prop) : Rs Env → Prop
  | .ok ρ' μ' => ∀ w' σ', Post G n0 w μ w' μ' → Vr G.K w' ρ' σ' → Q σ' w'.H
  | .exc x μ' => ∀ w' cls dx, Post G n0 w μ w' μ' → Xr G w' x cls dx → W cls dx σ w'.H
/-- a target -/
def DG (g : TG) (h : Tv) : Prop := ∀ w ρ μ σ d v, Mc G w μ → Vr G.K w ρ σ → n0 ≤ μ.length → Fr G.K w d v → ∀ r, h d ρ μ = some r → ∀ Q, FinG G n0 W w μ σ Q r → g v σ w.H Q
def FinS (w : Hw) (μ : Mu) (E : Ends) : Fl → Prop
  | .nx ρ' μ' => ∀ w' σ', Post G n0 w μ w' μ' → Vr G.K w' ρ' σ' → E.nx σ' w'.H
  | .bk ρ' μ' => ∀ w' σ', Post G n0 w μ w' μ' → Vr G.K w' ρ' σ' → E.bk σ' w'.H
  | .ct ρ' μ' => ∀ w' σ', Post G n0 w μ w' μ' → Vr G.K w' ρ' σ' → E.ct σ' w'.H
  | .rt d μ' => ∀ w' v, Post G n0 w μ w' μ' → Fr G.K w' d v → E.rt v w'.H
  | .ex x ρ' μ' => ∀ w' σ' cls dx, Post G n0 w μ w' μ' → Vr G.K w' ρ' σ' → Xr G w' x cls dx → W cls dx σ' w'.H
/-- a statement -/
def DS (t : TS) (g : Sv) : Prop := ∀ w ρ μ σ, Mc G w μ → Vr G.K w ρ σ → n0 ≤ μ.length → ∀ fl, g ρ μ = some fl → ∀ E, FinS G n0 W w μ E fl → t E σ w.H
end
section
variable {G : Gx} {n0 : Nat} {W : WX}
theorem FinS.post {w w1 : Hw} {μ μ1 : Mu} {E : Ends} (p : Post G n0 w μ w1 μ1) : ∀ {fl : Fl}, FinS G n0 W w μ E fl → FinS G n0 W w1 μ1 E fl
  | .nx _ _, f => fun w' σ' p' v => f w' σ' (p.trans p') v
  | .bk _ _, f => fun w' σ' p' v => f w' σ' (p.trans p') v
  | .ct _ _, f => fun w' σ' p' v => f w' σ' (p.trans p') v
  | .rt _ _, f => fun w' v p' r => f w' v (p.trans p') r
  | .ex _ _ _, f => fun w' σ' cls dx p' v x => f w' σ' cls dx (p.trans p') v x
/-- an expression, then a statement's rest -/
def Ro.thn {α : Type} (r : Ro α) (ρ : Env) (k : α → Mu → Option Fl) : Option Fl := match r with
  | some (.ok a μ) => k a μ
  | some (.exc x μ) => some (.ex x ρ μ)
  | none => none
theorem Ro.thn_some {α : Type} {r : Ro α} {ρ : Env} {k : α → Mu → Option Fl} {fl : Fl} (h : r.thn ρ k = some fl) : (∃ a μ, r = some (.ok a μ) ∧ k a μ = some fl) ∨ ∃ x μ, r = some (.exc x μ) ∧ fl = .ex x ρ μ := by
  cases r with
  | none => cases h
  | some r =>
    cases r with
    | ok a μ => exact .inl ⟨a, μ, rfl, h⟩
    | exc x μ => cases h; exact .inr ⟨x, μ, rfl, rfl⟩
theorem thn_run {β ν : Type} {R : Hw → β → ν → Prop} {t : L2.St → Hp → (ν → Hp → Prop) → Prop} {f : Ev β} {w : Hw} {ρ : Env} {μ : Mu} {σ : L2.St} {k : β → Mu → Option Fl} {fl : Fl} {E : Ends} {Q : ν → Hp → Prop} (h : DX G n0 W R t f)
    (c : Mc G w μ) (vr : Vr G.K w ρ σ) (hn : n0 ≤ μ.length) (e : (f ρ μ).thn ρ k = some fl) (fin : FinS G n0 W w μ E fl)
    (next : ∀ w1 μ1 b v, Post G n0 w μ w1 μ1 → R w1 b v → k b μ1 = some fl → FinS G n0 W w1 μ1 E fl → Q v w1.H) : t σ w.H Q := by
  rcases Ro.thn_some e with ⟨b, μ1, e1, e2⟩ | ⟨x, μ1, e1, e2⟩
  · exact h w ρ μ σ c vr hn _ e1 _ fun w1 v p r => next w1 μ1 b v p r e2 (fin.post p)
  · subst e2
    exact h w ρ μ σ c vr hn _ e1 _ fun w1 cls dx p x => fin w1 σ cls dx p (vr.mono p.ex) x

/-! ### targets -/
def tName (i : Nat) : Tv := fun d ρ μ => some (.ok (ρ.set i (some d)) μ)
theorem dg_name {i : Nat} : DG G n0 W (gName i) (tName i) := by
  intro w ρ μ σ d v c vr hn fr r e Q f
  cases e
  exact f w _ (.refl c) (vr.set fr i)
abbrev Tvs := List D → Env → Mu → Ro Env
def DGs (G : Gx) (n0 : Nat) (W : WX) (g : TGs) (h : Tvs) : Prop := ∀ w ρ μ σ ds vs, Mc G w μ → Vr G.K w ρ σ → n0 ≤ μ.length → Frs G.K w ds vs → ∀ r, h ds ρ μ = some r → ∀ Q, FinG G n0 W w μ σ Q r → g vs σ w.H Q
def tNils : Tvs := fun ds ρ μ => match ds with
  | [] => some (.ok ρ μ)
  | _ => none
/-- names within a tuple do not raise -/
def tConss (t : Tv) (u : Tvs) : Tvs := fun ds ρ μ => match ds with
  | d :: r => match t d ρ μ with
    | some (.ok ρ1 μ1) => match u r ρ1 μ1 with
      | some (.ok ρ2 μ2) => some (.ok ρ2 μ2)
      | _ => none
    | _ => none
  | [] => none
theorem dgs_nil : DGs G n0 W gNil tNils := by
  intro w ρ μ σ ds vs c vr hn fr r e Q f
  unfold tNils at e
  split at e <;> cases e
  cases fr
  exact ⟨rfl, f w _ (.refl c) vr⟩
theorem dgs_cons {g : TG} {gs : TGs} {t : Tv} {u : Tvs} (h : DG G n0 W g t) (k : DGs G n0 W gs u) : DGs G n0 W (gCons g gs) (tConss t u) := by
  intro w ρ μ σ ds vs c vr hn fr r e Q f
  unfold tConss at e
  split at e <;> try cases e
  rename_i d rs
  split at e <;> try cases e
  rename_i ρ1 μ1 h1
  split at e <;> cases e
  rename_i ρ2 μ2 h2
  obtain ⟨v, vs', rfl, r1, r2⟩ := fr
  refine ⟨v, vs', rfl, h w ρ μ σ d v c vr hn r1 _ h1 _ fun w1 σ1 p1 vr1 => ?_⟩
  exact k w1 ρ1 μ1 σ1 rs vs' p1.mc vr1 (p1.nn hn) (r2.mono p1.ex) _ h2 _ fun w2 σ2 p2 vr2 => f w2 σ2 (p1.trans p2) vr2
def tTupT (n : Nat) (u : Tvs) : Tv := fun d ρ μ => match viewT d with
  | some ds => if ds.length = n then u ds ρ μ else none
  | none => none
theorem dg_tup {n : Nat} {gs : TGs} {u : Tvs} (k : DGs G n0 W gs u) : DG G n0 W (gTup G.K n gs) (tTupT n u) := by
  intro w ρ μ σ d v c vr hn fr r e Q f
  unfold tTupT at e
  split at e <;> try cases e
  rename_i ds hd
  split at e <;> rename_i hl <;> try cases e
  obtain ⟨a, vs, rfl, s, rs⟩ := view_T fr hd
  exact ⟨a, vs, rfl, s, by rw [rs.length]; exact hl, k w ρ μ σ ds vs c vr hn rs r e Q f⟩
/-- o[i] = d, a list's item -/
def tSub (n0 : Nat) (f g : Ev D) : Tv := fun d ρ μ => (f ρ μ).bnd fun o μ1 => (g ρ μ1).bnd fun i μ2 => match o, i with
  | .cell k, .int i => match μ2[k]? with
    | some (some (.lst xs)) => match ixN xs.length i with
      | some j => if decide (n0 ≤ k) || d.pure then some (.ok ρ (μ2.set k (some (.lst (xs.set j d))))) else none
      | none => none
    | _ => none
  | _, _ => none
theorem wr_low {n0 k : Nat} {d : D} (h : (decide (n0 ≤ k) || d.pure) = true) {n : Nat} (hn : n ≤ n0) (hk : k < n) : d.low n = true := by
  rw [Bool.or_eq_true, decide_eq_true_eq] at h
  rcases h with h | h
  · omega
  · exact low_of_pure h
theorem dg_sub {to ti : TE} {f g : Ev D} (ho : DE G n0 W to f) (hi : DE G n0 W ti g) : DG G n0 W (gSub to ti rSetL) (tSub n0 f g) := by
  intro w ρ μ σ d v c vr hn fr r e Q fin
  rcases Ro.bnd_some e with ⟨o, μ1, e1, e2⟩ | ⟨x, μ1, e1, e2⟩
  · refine ho w ρ μ σ c vr hn _ e1 _ fun w1 x p1 r1 => ?_
    rcases Ro.bnd_some e2 with ⟨i, μ2, e3, e4⟩ | ⟨x, μ2, e3, e4⟩
    · refine hi w1 ρ μ1 σ p1.mc (vr.mono p1.ex) (p1.nn hn) _ e3 _ fun w2 y p2 r2 => ?_
      have p12 := p1.trans p2
      split at e4 <;> try cases e4
      rename_i k i
      split at e4 <;> try cases e4
      rename_i xs hm
      split at e4 <;> try cases e4
      rename_i j hj
      split at e4 <;> rename_i hp <;> cases e4
      obtain ⟨a, rfl, ha⟩ := r1.mono p2.ex
      have r2 : y = .int i := r2
      subst r2
      obtain ⟨⟨vs, h1, h2⟩, nN⟩ := p2.mc.cell k _ a hm ha
      refine ⟨a, vs, i, j, rfl, rfl, h1, by rw [h2.length]; exact hj, ?_⟩
      have x3 : Ex w2 (w2.wr a (.lst (vs.set j v))) := Ex.wr p2.mc hm ha
      have c3 := Mc.wr (m' := .lst (xs.set j d)) (o := .lst (vs.set j v)) p2.mc hm ha ⟨_, upd_same, Frs.set ((fr.mono p12.ex).mono x3) j (h2.mono x3)⟩
      refine fin (w2.wr a (.lst (vs.set j v))) σ (p12.trans ⟨x3, c3, Kp.wr fun n hn hk lo => ?_⟩) (((vr.mono p12.ex)).mono x3)
      have := lo k _ hk hm
      simp only [M.low] at this ⊢
      rw [lows_iff] at this ⊢
      intro z hz
      rcases List.mem_or_eq_of_mem_set hz with hz | hz
      · exact this z hz
      · subst hz; exact wr_low hp hn hk
    · subst e4
      exact hi w1 ρ μ1 σ p1.mc (vr.mono p1.ex) (p1.nn hn) _ e3 _ fun w2 cls dx p2 x => fin w2 cls dx (p1.trans p2) x
  · subst e2
    exact ho w ρ μ σ c vr hn _ e1 _ fun w1 cls dx p1 x => fin w1 cls dx p1 x

/-! ### statements -/
def sNil : Sv := fun ρ μ => some (.nx ρ μ)
theorem ds_next : DS G n0 W tNext sNil := by
  intro w ρ μ σ c vr hn fl e E f
  cases e
  exact f w σ (.refl c) vr
def sSeq (g h : Sv) : Sv := fun ρ μ => match g ρ μ with
  | some (.nx ρ1 μ1) => h ρ1 μ1
  | r => r
theorem ds_seq {t u : TS} {g h : Sv} (a : DS G n0 W t g) (b : DS G n0 W u h) : DS G n0 W (tSeq t u) (sSeq g h) := by
  intro w ρ μ σ c vr hn fl e E f
  unfold sSeq at e
  split at e
  · rename_i ρ1 μ1 h1
    exact a w ρ μ σ c vr hn _ h1 _ fun w1 σ1 p1 v1 => b w1 ρ1 μ1 σ1 p1.mc v1 (p1.nn hn) fl e E (f.post p1)
  · rename_i hno
    refine a w ρ μ σ c vr hn fl e _ ?_
    cases fl with
    | nx ρ1 μ1 => exact absurd e (hno ρ1 μ1)
    | bk _ _ => exact f
    | ct _ _ => exact f
    | rt _ _ => exact f
    | ex _ _ _ => exact f
def sIf (c : Ev Bool) (g h : Sv) : Sv := fun ρ μ => (c ρ μ).thn ρ fun b μ1 => if b then g ρ μ1 else h ρ μ1
theorem ds_if {c : TT} {t u : TS} {k : Ev Bool} {g h : Sv} (hc : DT G n0 W c k) (a : DS G n0 W t g) (b : DS G n0 W u h) : DS G n0 W (tIfS c t u) (sIf k g h) := by
  intro w ρ μ σ mc vr hn fl e E f
  refine thn_run hc mc vr hn e f fun w1 μ1 b' v p r e2 f2 => ?_
  have r : v = b' := r
  subst r
  cases v with
  | true => simpa using a w1 ρ μ1 σ p.mc (vr.mono p.ex) (p.nn hn) fl (by simpa using e2) E f2
  | false => simpa using b w1 ρ μ1 σ p.mc (vr.mono p.ex) (p.nn hn) fl (by simpa using e2) E f2
def sRet (f : Ev D) : Sv := fun ρ μ => (f ρ μ).thn ρ fun d μ1 => some (.rt d μ1)
theorem ds_ret {t : TE} {f : Ev D} (h : DE G n0 W t f) : DS G n0 W (tRet t) (sRet f) := by
  intro w ρ μ σ mc vr hn fl e E fin
  refine thn_run h mc vr hn e fin fun w1 μ1 d v p r e2 f2 => ?_
  cases e2
  exact f2 w1 v (.refl p.mc) r
def sRetN : Sv := fun _ μ => some (.rt .non μ)
theorem ds_retN : DS G n0 W tRetN sRetN := by
  intro w ρ μ σ c vr hn fl e E f
  cases e
  exact f w .non (.refl c) rfl
def sDrop (f : Ev D) : Sv := fun ρ μ => (f ρ μ).thn ρ fun _ μ1 => some (.nx ρ μ1)
theorem ds_drop {t : TE} {f : Ev D} (h : DE G n0 W t f) : DS G n0 W (tDrop t) (sDrop f) := by
  intro w ρ μ σ mc vr hn fl e E fin
  refine thn_run h mc vr hn e fin fun w1 μ1 d v p r e2 f2 => ?_
  cases e2
  exact f2 w1 σ (.refl p.mc) (vr.mono p.ex)
def sBrk : Sv := fun ρ μ => some (.bk ρ μ)
def sCnt : Sv := fun ρ μ => some (.ct ρ μ)
theorem ds_brk : DS G n0 W tBreak sBrk := by
  intro w ρ μ σ c vr hn fl e E f
  cases e
  exact f w σ (.refl c) vr
theorem ds_cnt : DS G n0 W tCont sCnt := by
  intro w ρ μ σ c vr hn fl e E f
  cases e
  exact f w σ (.refl c) vr
def sNever : Sv := fun _ _ => none
theorem ds_never : DS G n0 W tNever sNever := fun _ _ _ _ _ _ _ _ e => nomatch e
def Ro.tg (r : Ro Env) (ρ : Env) : Option Fl := match r with
  | some (.ok ρ' μ) => some (.nx ρ' μ)
  | some (.exc x μ) => some (.ex x ρ μ)
  | none => none
def sAsg (f : Ev D) (t : Tv) : Sv := fun ρ μ => (f ρ μ).thn ρ fun d μ1 => (t d ρ μ1).tg ρ
theorem ds_asg {te : TE} {g : TG} {f : Ev D} {t : Tv} (h : DE G n0 W te f) (k : DG G n0 W g t) : DS G n0 W (tAsg te g) (sAsg f t) := by
  intro w ρ μ σ mc vr hn fl e E fin
  refine thn_run h mc vr hn e fin fun w1 μ1 d v p r e2 f2 => ?_
  unfold Ro.tg at e2
  split at e2 <;> cases e2
  · rename_i ρ' μ2 h2
    exact k w1 ρ μ1 σ d v p.mc (vr.mono p.ex) (p.nn hn) r _ h2 _ fun w' σ' p' v' => f2 w' σ' p' v'
  · rename_i x μ2 h2
    exact k w1 ρ μ1 σ d v p.mc (vr.mono p.ex) (p.nn hn) r _ h2 _ fun w' cls dx p' x' => f2 w' σ cls dx p' ((vr.mono p.ex).mono p'.ex) x'
/-- x = e, the most frequent one -/
def sSet (i : Nat) (f : Ev D) : Sv := fun ρ μ => (f ρ μ).thn ρ fun d μ1 => some (.nx (ρ.set i (some d)) μ1)
theorem ds_set {i : Nat} {te : TE} {f : Ev D} (h : DE G n0 W te f) : DS G n0 W (tAsg te (gName i)) (sSet i f) := ds_asg (t := tName i) h dg_name
/-- x op= e -/
def DIp (G : Gx) (n0 : Nat) (W : WX) (t : TIp) (op : D → D → Mu → Ro D) : Prop := ∀ w μ σ a x b y, Mc G w μ → n0 ≤ μ.length → Fr G.K w a x → Fr G.K w b y → At G n0 W (Fr G.K) w μ σ (fun H Q => t x y H Q) (op a b μ)
def sAug (i : Nat) (op : D → D → Mu → Ro D) (f : Ev D) : Sv := fun ρ μ => match ρ[i]? with
  | some (some a) => (f ρ μ).thn ρ fun b μ1 => (op a b μ1).thn ρ fun d μ2 => some (.nx (ρ.set i (some d)) μ2)
  | _ => none
theorem ds_aug {i : Nat} {te : TE} {ti : TIp} {op : D → D → Mu → Ro D} {f : Ev D} (h : DE G n0 W te f) (ho : DIp G n0 W ti op) : DS G n0 W (tAug i te ti) (sAug i op f) := by
  intro w ρ μ σ mc vr hn fl e E fin
  unfold sAug at e
  split at e <;> try cases e
  rename_i a ha
  obtain ⟨x, hx, ra⟩ := vr.at_ i a ha
  refine ⟨x, hx, thn_run h mc vr hn e fin fun w1 μ1 b y p r e2 f2 => ?_⟩
  have hs := ho w1 μ1 σ a x b y p.mc (p.nn hn) (ra.mono p.ex) r
  rcases Ro.thn_some e2 with ⟨d, μ2, e3, e4⟩ | ⟨x', μ2, e3, e4⟩
  · cases e4
    exact hs _ e3 _ fun w2 v p2 r2 => f2 w2 _ p2 (((vr.mono p.ex).mono p2.ex).set r2 i)
  · subst e4
    exact hs _ e3 _ fun w2 cls dx p2 x2 => f2 w2 σ cls dx p2 ((vr.mono p.ex).mono p2.ex) x2
theorem dip_add : DIp G n0 W (ipI fun i j => i + j) oAdd := dr_I0 (g := fun i j => .int (i + j)) fun _ _ _ => rfl
theorem dip_sub : DIp G n0 W (ipI fun i j => i - j) oSub := dr_I0 (g := fun i j => .int (i - j)) fun _ _ _ => rfl
/-- d[k] = e -/
def sPut (n0 : Nat) (fd fk fv : Ev D) : Sv := fun ρ μ => (fv ρ μ).thn ρ fun v μ1 => (fd ρ μ1).thn ρ fun d μ2 => (fk ρ μ2).thn ρ fun k μ3 => match d with
  | .cell c => match μ3[c]? with
    | some (some (.dK kvs)) => match keyOf k with
      | some j => if decide (kvs.length < 16777216) && (decide (n0 ≤ c) || v.pure) then some (.nx ρ (μ3.set c (some (.dK (putD kvs j v))))) else none
      | none => none
    | some (some (.dT kvs)) => match k with
      | .tup es => match keysOf es with
        | some j => if decide (kvs.length < 16777216) && (decide (n0 ≤ c) || v.pure) then some (.nx ρ (μ3.set c (some (.dT (putD kvs j v))))) else none
        | none => none
      | _ => none
    | _ => none
  | _ => none
theorem ds_put {td ty tv : TE} {fd fk fv : Ev D} (hd : DE G n0 W td fd) (hk : DE G n0 W ty fk) (hv : DE G n0 W tv fv) : DS G n0 W (sDPut td ty tv) (sPut n0 fd fk fv) := by
  intro w ρ μ σ mc vr hn fl e E fin
  refine thn_run hv mc vr hn e fin fun w1 μ1 v x p1 r1 e fin => ?_
  refine thn_run hd p1.mc (vr.mono p1.ex) (p1.nn hn) e fin fun w2 μ2 d y p2 r2 e fin => ?_
  refine thn_run hk p2.mc ((vr.mono p1.ex).mono p2.ex) (p2.nn (p1.nn hn)) e fin fun w3 μ3 k z p3 r3 e fin => ?_
  have vr3 := ((vr.mono p1.ex).mono p2.ex).mono p3.ex
  have rv := (r1.mono p2.ex).mono p3.ex
  have rd := r2.mono p3.ex
  split at e <;> try cases e
  obtain ⟨a, rfl, ha⟩ := rd
  split at e
  · rename_i kvs hm
    split at e <;> try cases e
    rename_i j hj
    split at e <;> rename_i hs <;> cases e
    rw [Bool.and_eq_true] at hs
    obtain ⟨⟨kvs', h1, h2, h3⟩, _⟩ := p3.mc.cell _ _ a hm ha
    have hl : kvs'.length = kvs.length := by simpa using congrArg List.length h2
    rw [keyOf_ok r3 hj]
    refine ⟨a, _, rfl, .k h1 (by rw [hl]; exact small_ok' hs.1), ?_⟩
    obtain ⟨m1, m2⟩ := put_rel j rv h2 h3
    have x4 : Ex w3 (w3.wr a (.dK (putK kvs' j x))) := Ex.wr p3.mc hm ha
    have c4 := Mc.wr (m' := .dK (putD kvs j v)) (o := .dK (putK kvs' j x)) p3.mc hm ha ⟨_, upd_same, m1, m2.mono x4⟩
    exact fin (w3.wr a (.dK (putK kvs' j x))) σ ⟨x4, c4, Kp.wr fun n hn hk lo => low_put j (wr_low hs.2 hn hk) (lo _ _ hk hm)⟩ (vr3.mono x4)
  · rename_i kvs hm
    split at e <;> try cases e
    split at e <;> try cases e
    rename_i es j hj
    split at e <;> rename_i hs <;> cases e
    rw [Bool.and_eq_true] at hs
    obtain ⟨⟨kvs', h1, h2, h3⟩, _⟩ := p3.mc.cell _ _ a hm ha
    have hl : kvs'.length = kvs.length := by simpa using congrArg List.length h2
    obtain ⟨b, vs, rfl, nb, hb, rs⟩ := r3
    rw [keysOf_ok rs hj] at hb
    refine ⟨a, _, rfl, .t h1 hb (by rw [hl]; exact small_ok' hs.1), ?_⟩
    obtain ⟨m1, m2⟩ := put_rel j rv h2 h3
    have x4 : Ex w3 (w3.wr a (.dT (putK kvs' j x))) := Ex.wr p3.mc hm ha
    have c4 := Mc.wr (m' := .dT (putD kvs j v)) (o := .dT (putK kvs' j x)) p3.mc hm ha ⟨_, upd_same, m1, m2.mono x4⟩
    exact fin (w3.wr a (.dT (putK kvs' j x))) σ ⟨x4, c4, Kp.wr fun n hn hk lo => low_put j (wr_low hs.2 hn hk) (lo _ _ hk hm)⟩ (vr3.mono x4)
  · cases e

/-! ### what is walked -/
inductive Src where
  | its (ds : List D)
  | cel (k : Nat)
def Src.cur (μ : Mu) : Src → Option (List D)
  | .its ds => some ds
  | .cel k => viewL μ (.cell k)
/-- J walks src -/
def Yl (G : Gx) (w0 : Hw) (src : Src) (J : It) : Prop := ∀ w μ, Ex0 w0 w → Mc G w μ → ∀ ds, src.cur μ = some ds → ∀ i,
  (∀ d, ds[i]? = some d → J.go i w.H ∧ ∀ x H', J.yld i w.H x H' → ∃ w', w'.H = H' ∧ Ex w w' ∧ Mc G w' μ ∧ Fr G.K w' d x) ∧ (ds.length ≤ i → J.stop i w.H)
def DI (G : Gx) (n0 : Nat) (W : WX) (wi : TI) (f : Ev Src) : Prop := ∀ w ρ μ σ, Mc G w μ → Vr G.K w ρ σ → n0 ≤ μ.length → ∀ r, f ρ μ = some r → ∀ R : It → Hp → Prop,
  (match r with
    | .ok src μ' => ∀ w' J, Post G n0 w μ w' μ' → Yl G w' src J → R J w'.H
    | .exc x μ' => ∀ w' cls dx, Post G n0 w μ w' μ' → Xr G w' x cls dx → W cls dx σ w'.H) → wi σ w.H R
/-- a list's items -/
def iSeq (f : Ev D) : Ev Src := fun ρ μ => (f ρ μ).bnd fun d μ1 => match d with
  | .lst ds => some (.ok (.its ds) μ1)
  | .scr ds => some (.ok (.its ds) μ1)
  | .cell k => match viewL μ1 (.cell k) with
    | some _ => some (.ok (.cel k) μ1)
    | none => none
  | _ => none
def iSeqT (f : Ev D) : Ev Src := fun ρ μ => (f ρ μ).bnd fun d μ1 => match d with
  | .tup ds => some (.ok (.its ds) μ1)
  | _ => none
theorem yl_list {w0 : Hw} {a : Addr} {src : Src} (h : ∀ w μ, Ex0 w0 w → Mc G w μ → ∀ ds, src.cur μ = some ds → ∃ vs, SqL G.K w.H a vs ∧ Frs G.K w ds vs) : Yl G w0 src (Itl G.K a) := by
  intro w μ x c ds e i
  obtain ⟨vs, s, r⟩ := h w μ x c ds e
  refine ⟨fun d hd => ?_, fun hl => ⟨vs, s, by rw [r.length]; exact hl⟩⟩
  obtain ⟨v, hv, fr⟩ := r.get hd
  refine ⟨⟨vs, v, s, hv⟩, fun y H' q => ?_⟩
  obtain ⟨e1, q⟩ := q
  have := q vs s
  rw [hv] at this
  cases this
  exact ⟨w, e1.symm, .refl w, c, fr⟩
end
end G4

/-! G8: loops, comprehensions. -/
namespace G4
open PySem PySem.Spec PyProof.Rows L2
section
variable {G : Gx} {n0 : Nat} {W : WX}
theorem di_bnd {t : TE} {f : Ev D} {g : D → Mu → Ro Src} {ti : V → L2.St → Hp → (It → Hp → Prop) → Prop} (h : DE G n0 W t f)
    (k : ∀ w μ σ d v, Mc G w μ → n0 ≤ μ.length → Fr G.K w d v → ∀ src μ', g d μ = some (.ok src μ') → μ' = μ ∧ ∀ R : It → Hp → Prop, (∀ J, Yl G w src J → R J w.H) → ti v σ w.H R) (hx : ∀ d μ x μ', g d μ = some (.exc x μ') → False) :
    DI G n0 W (fun σ H R => t σ H fun v H1 => ti v σ H1 R) (fun ρ μ => (f ρ μ).bnd g) := by
  intro w ρ μ σ c vr hn r e R fin
  rcases Ro.bnd_some e with ⟨d, μ1, e1, e2⟩ | ⟨x, μ1, e1, e2⟩
  · refine h w ρ μ σ c vr hn _ e1 _ fun w1 v p r1 => ?_
    cases r with
    | ok src μ' =>
      obtain ⟨e3, q⟩ := k w1 μ1 σ d v p.mc (p.nn hn) r1 src μ' e2
      subst e3
      exact q R fun J y => fin w1 J p y
    | exc x μ' => exact (hx _ _ _ _ e2).elim
  · subst e2
    exact h w ρ μ σ c vr hn _ e1 _ fun w1 cls dx p x => fin w1 cls dx p x
theorem di_seq {t : TE} {f : Ev D} (h : DE G n0 W t f) : DI G n0 W (iList G.K t) (iSeq f) := by
  refine di_bnd (ti := fun x σ H1 R => ∃ a, x = .ref a ∧ (∃ xs, SqL G.K H1 a xs) ∧ R (Itl G.K a) H1) h (fun w μ σ d v c hn fr src μ' e => ?_) fun d μ x μ' e => ?_
  · cases d <;> simp only [] at e <;> try cases e
    · rename_i ds
      refine ⟨rfl, fun R q => ?_⟩
      obtain ⟨a, vs, rfl, n, hH, r⟩ := fr
      refine ⟨a, rfl, ⟨vs, .of hH⟩, q _ (yl_list fun w' μ' x c' ds' e' => ?_)⟩
      cases e'
      exact ⟨vs, .of ((x.keep _ n).trans hH), r.mono0 x⟩
    · rename_i ds
      refine ⟨rfl, fun R q => ?_⟩
      obtain ⟨a, vs, rfl, hs, r⟩ := fr
      refine ⟨a, rfl, ⟨vs, hs.sq⟩, q _ (yl_list fun w' μ' x c' ds' e' => ?_)⟩
      cases e'
      exact ⟨vs, (hs.mono0 x).sq, r.mono0 x⟩
    · rename_i k
      split at e <;> cases e
      rename_i xs hx
      refine ⟨rfl, fun R q => ?_⟩
      obtain ⟨a, vs, e1, s, r⟩ := view_L c fr hx
      obtain ⟨b, e2, hb⟩ := fr
      rw [e1] at e2
      cases e2
      refine ⟨a, e1, ⟨vs, s⟩, q _ (yl_list fun w' μ' x c' ds' e' => ?_)⟩
      obtain ⟨b, vs', e3, s', r'⟩ := view_L (d := .cell k) (v := .ref a) c' ⟨a, rfl, x.pre _ _ hb⟩ e'
      cases e3
      exact ⟨vs', s', r'⟩
  · cases d <;> simp only [] at e <;> try cases e
    split at e <;> cases e
theorem di_seqT {t : TE} {f : Ev D} (h : DE G n0 W t f) : DI G n0 W (iTup G.K t) (iSeqT f) := by
  refine di_bnd (ti := fun x σ H1 R => ∃ a, x = .ref a ∧ (∃ xs, SqT G.K H1 a xs) ∧ R (Itt G.K a) H1) h (fun w μ σ d v c hn fr src μ' e => ?_) fun d μ x μ' e => ?_
  · cases d <;> simp only [] at e <;> try cases e
    rename_i ds
    refine ⟨rfl, fun R q => ?_⟩
    obtain ⟨a, vs, rfl, n, hH, r⟩ := fr
    refine ⟨a, rfl, ⟨vs, .of hH⟩, q _ fun w' μ' x c' ds' e' i => ?_⟩
    cases e'
    have s : SqT G.K w'.H a vs := .of ((x.keep _ n).trans hH)
    refine ⟨fun d hd => ?_, fun hl => ⟨vs, s, by rw [r.length]; exact hl⟩⟩
    obtain ⟨v, hv, fr⟩ := r.get hd
    refine ⟨⟨vs, v, s, hv⟩, fun y H' q => ?_⟩
    obtain ⟨e1, q⟩ := q
    have := q vs s
    rw [hv] at this
    cases this
    exact ⟨w', e1.symm, .refl w', c', fr.mono0 x⟩
  · cases d <;> simp only [] at e <;> cases e
/-- range -/
def rngD (lo : Int) (n : Nat) : List D := (List.range n).map fun i => .int (lo + (i : Nat))
theorem rngD_get {lo : Int} {n i : Nat} {d : D} (h : (rngD lo n)[i]? = some d) : i < n ∧ d = .int (lo + i) := by
  unfold rngD at h
  rw [List.getElem?_map] at h
  cases e : (List.range n)[i]? with
  | none => rw [e] at h; cases h
  | some j =>
    rw [e] at h
    obtain ⟨hi, e⟩ := List.getElem?_eq_some_iff.mp e
    rw [List.getElem_range] at e
    subst e
    cases h
    exact ⟨by simpa using hi, rfl⟩
theorem rngD_length (lo : Int) (n : Nat) : (rngD lo n).length = n := by simp [rngD]
theorem yl_range {w0 : Hw} {lo : Int} {n : Nat} : Yl G w0 (.its (rngD lo n)) (Itr lo n) := by
  intro w μ x c ds e i
  cases e
  refine ⟨fun d hd => ?_, fun hl => by rw [rngD_length] at hl; exact hl⟩
  obtain ⟨h1, h2⟩ := rngD_get hd
  subst h2
  refine ⟨h1, fun y H' q => ?_⟩
  obtain ⟨e1, e2⟩ := q
  exact ⟨w, e1.symm, .refl w, c, e2⟩
noncomputable def rOk (i : Int) : Bool := cdec (-(2 ^ 62) ≤ i ∧ i < 2 ^ 62)
theorem rOk_iff {i : Int} : rOk i = true ↔ -(2 ^ 62) ≤ i ∧ i < 2 ^ 62 := cdec_iff
noncomputable def rng1 (ds : List D) (μ1 : Mu) : Ro Src := match ds with
  | [.int j] => if rOk j then some (.ok (.its (rngD 0 j.toNat)) μ1) else none
  | _ => none
noncomputable def rng2 (ds : List D) (μ1 : Mu) : Ro Src := match ds with
  | [.int i, .int j] => if rOk i && rOk j then some (.ok (.its (rngD i (j - i).toNat)) μ1) else none
  | _ => none
noncomputable def iRg1 (f : Ev (List D)) : Ev Src := fun ρ μ => (f ρ μ).bnd rng1
noncomputable def iRg2 (f : Ev (List D)) : Ev Src := fun ρ μ => (f ρ μ).bnd rng2
theorem di_rg1 {t : TA} {f : Ev (List D)} (h : DA G n0 W t f) : DI G n0 W (iRng1 t) (iRg1 f) := by
  intro w ρ μ σ c vr hn r e R fin
  rcases Ro.bnd_some e with ⟨ds, μ1, e1, e2⟩ | ⟨x, μ1, e1, e2⟩
  · refine h w ρ μ σ c vr hn _ e1 _ fun w1 vs p r1 => ?_
    unfold rng1 at e2
    split at e2 <;> try cases e2
    rename_i j
    split at e2 <;> rename_i hj <;> cases e2
    obtain ⟨x, rfl, q⟩ := frs1 r1
    have q : x = .int j := q
    subst q
    rw [rOk_iff] at hj
    exact ⟨j, rfl, hj.1, hj.2, fin w1 _ p yl_range⟩
  · subst e2
    exact h w ρ μ σ c vr hn _ e1 _ fun w1 cls dx p x => fin w1 cls dx p x
theorem di_rg2 {t : TA} {f : Ev (List D)} (h : DA G n0 W t f) : DI G n0 W (iRng2 t) (iRg2 f) := by
  intro w ρ μ σ c vr hn r e R fin
  rcases Ro.bnd_some e with ⟨ds, μ1, e1, e2⟩ | ⟨x, μ1, e1, e2⟩
  · refine h w ρ μ σ c vr hn _ e1 _ fun w1 vs p r1 => ?_
    unfold rng2 at e2
    split at e2 <;> try cases e2
    rename_i i j
    split at e2 <;> rename_i hj <;> cases e2
    obtain ⟨x, y, rfl, q, q2⟩ := frs2 r1
    have q : x = .int i := q
    have q2 : y = .int j := q2
    subst q q2
    rw [Bool.and_eq_true, rOk_iff, rOk_iff] at hj
    exact ⟨i, j, rfl, ⟨hj.1.1, hj.1.2, hj.2.1, hj.2.2⟩, fin w1 _ p yl_range⟩
  · subst e2
    exact h w ρ μ σ c vr hn _ e1 _ fun w1 cls dx p x => fin w1 cls dx p x

/-! ### for -/
def turn (tg : Tv) (body : Sv) (d : D) (ρ : Env) (μ : Mu) (rest : Sv) : Option Fl := match tg d ρ μ with
  | some (.ok ρ1 μ1) => match body ρ1 μ1 with
    | some (.nx ρ2 μ2) => rest ρ2 μ2
    | some (.ct ρ2 μ2) => rest ρ2 μ2
    | some (.bk ρ2 μ2) => some (.nx ρ2 μ2)
    | r => r
  | _ => none
def loopN (src : Src) (tg : Tv) (body : Sv) : Nat → Nat → Sv
  | 0, i => fun ρ μ => match src.cur μ with
    | some ds => if ds.length ≤ i then some (.nx ρ μ) else none
    | none => none
  | n + 1, i => fun ρ μ => match src.cur μ with
    | some ds => match ds[i]? with
      | some d => turn tg body d ρ μ (loopN src tg body n (i + 1))
      | none => some (.nx ρ μ)
    | none => none
def loopL (tg : Tv) (body : Sv) : List D → Sv
  | [] => fun ρ μ => some (.nx ρ μ)
  | d :: ds => fun ρ μ => turn tg body d ρ μ (loopL tg body ds)
theorem loopL_eq (tg : Tv) (body : Sv) (ds : List D) : ∀ (n i : Nat), n + i = ds.length → loopN (.its ds) tg body n i = loopL tg body (ds.drop i)
  | 0, i, h => by
    have : ds.drop i = [] := List.drop_eq_nil_of_le (by omega)
    rw [this]
    funext ρ μ
    simp only [loopN, Src.cur, loopL]
    rw [if_pos (by omega)]
  | n + 1, i, h => by
    have hi : i < ds.length := by omega
    have e : ds.drop i = ds[i] :: ds.drop (i + 1) := List.drop_eq_getElem_cons hi
    rw [e]
    funext ρ μ
    simp only [loopN, Src.cur, loopL, List.getElem?_eq_getElem hi]
    rw [loopL_eq tg body ds n (i + 1) (by omega)]
def sFor (fi : Ev Src) (tg : Tv) (body : Sv) : Sv := fun ρ μ => (fi ρ μ).thn ρ fun src μ1 => match src with
  | .its ds => loopL tg body ds ρ μ1
  | .cel k => match viewL μ1 (.cell k) with
    | some ds => loopN (.cel k) tg body ds.length 0 ρ μ1
    | none => none
theorem turn_ok {w : Hw} {ρ : Env} {μ : Mu} {σ : L2.St} {g : TG} {tb : TS} {tg : Tv} {body rest : Sv} {d : D} {v : V} {fl : Fl} {E : Ends} {N : L2.St → Hp → Prop} (hg : DG G n0 W g tg) (hb : DS G n0 W tb body)
    (c : Mc G w μ) (vr : Vr G.K w ρ σ) (hn : n0 ≤ μ.length) (fr : Fr G.K w d v) (e : turn tg body d ρ μ rest = some fl) (fin : FinS G n0 W w μ E fl)
    (hN : ∀ w' ρ' μ' σ', Post G n0 w μ w' μ' → Vr G.K w' ρ' σ' → rest ρ' μ' = some fl → N σ' w'.H) : g v σ w.H fun σ2 H2 => tb { E with nx := N, ct := N, bk := E.nx } σ2 H2 := by
  unfold turn at e
  split at e <;> try cases e
  rename_i ρ1 μ1 h1
  refine hg w ρ μ σ d v c vr hn fr _ h1 _ fun w1 σ1 p1 v1 => ?_
  split at e
  · rename_i ρ2 μ2 h2
    exact hb w1 ρ1 μ1 σ1 p1.mc v1 (p1.nn hn) _ h2 _ fun w2 σ2 p2 v2 => hN w2 ρ2 μ2 σ2 (p1.trans p2) v2 e
  · rename_i ρ2 μ2 h2
    exact hb w1 ρ1 μ1 σ1 p1.mc v1 (p1.nn hn) _ h2 _ fun w2 σ2 p2 v2 => hN w2 ρ2 μ2 σ2 (p1.trans p2) v2 e
  · rename_i ρ2 μ2 h2
    cases e
    exact hb w1 ρ1 μ1 σ1 p1.mc v1 (p1.nn hn) _ h2 _ fun w2 σ2 p2 v2 => fin w2 σ2 (p1.trans p2) v2
  · rename_i n1 n2 n3
    refine hb w1 ρ1 μ1 σ1 p1.mc v1 (p1.nn hn) fl e _ ?_
    have f := fin.post p1
    cases fl with
    | nx a b => exact absurd e (n1 a b)
    | bk a b => exact absurd e (n3 a b)
    | ct a b => exact absurd e (n2 a b)
    | rt _ _ => exact f
    | ex _ _ _ => exact f
theorem loop_run {w : Hw} {ρ : Env} {μ : Mu} {σ : L2.St} {g : TG} {tb : TS} {tg : Tv} {body : Sv} {src : Src} {J : It} {n : Nat} {fl : Fl} {E : Ends} (hg : DG G n0 W g tg) (hb : DS G n0 W tb body) (c : Mc G w μ) (vr : Vr G.K w ρ σ) (hn : n0 ≤ μ.length)
    (y : Yl G w src J) (e : loopN src tg body n 0 ρ μ = some fl) (fin : FinS G n0 W w μ E fl) :
    ∃ Wv : Nat → Nat → L2.St → Hp → Prop, (∃ m, Wv 0 m σ w.H) ∧ ∀ i m σ H, Wv i m σ H →
      (J.stop i H ∧ E.nx σ H) ∨ (J.go i H ∧ ∃ N : L2.St → Hp → Prop, (∀ σ' H', N σ' H' → ∃ m', m' < m ∧ Wv (i + 1) m' σ' H') ∧ ∀ x H', J.yld i H x H' → g x σ H' fun σ2 H2 => tb { E with nx := N, ct := N, bk := E.nx } σ2 H2) := by
  refine ⟨fun i m σ' H' => ∃ w' ρ' μ', w'.H = H' ∧ Post G n0 w μ w' μ' ∧ Vr G.K w' ρ' σ' ∧ loopN src tg body m i ρ' μ' = some fl, ⟨n, w, ρ, μ, rfl, .refl c, vr, e⟩, ?_⟩
  rintro i m σ' H' ⟨w', ρ', μ', rfl, p, v', e'⟩
  cases m with
  | zero =>
    simp only [loopN] at e'
    split at e' <;> try cases e'
    rename_i ds hd
    split at e' <;> rename_i hl <;> cases e'
    exact .inl ⟨(y w' μ' p.ex.e0 p.mc ds hd i).2 hl, fin w' σ' p v'⟩
  | succ m =>
    simp only [loopN] at e'
    split at e' <;> try cases e'
    rename_i ds hd
    obtain ⟨y1, y2⟩ := y w' μ' p.ex.e0 p.mc ds hd i
    split at e'
    · rename_i d hdi
      obtain ⟨go, yl⟩ := y1 d hdi
      refine .inr ⟨go, fun σ' H' => ∃ w2 ρ2 μ2, w2.H = H' ∧ Post G n0 w μ w2 μ2 ∧ Vr G.K w2 ρ2 σ' ∧ loopN src tg body m (i + 1) ρ2 μ2 = some fl, fun σ' H' q => ⟨m, Nat.lt_succ_self m, q⟩, fun x H' hy => ?_⟩
      obtain ⟨w2, rfl, x2, c2, fr⟩ := yl x H' hy
      have p2 : Post G n0 w' μ' w2 μ' := ⟨x2, c2, .refl _ _⟩
      have p02 := p.trans p2
      exact turn_ok hg hb c2 (v'.mono x2) (p.nn hn) fr e' (fin.post p02) fun w3 ρ3 μ3 σ3 p3 v3 e3 => ⟨w3, ρ3, μ3, rfl, p02.trans p3, v3, e3⟩
    · rename_i hdi
      cases e'
      exact .inl ⟨y2 (by simpa using hdi), fin w' σ' p v'⟩
theorem ds_for {wi : TI} {g : TG} {tb : TS} {fi : Ev Src} {tg : Tv} {body : Sv} (hi : DI G n0 W wi fi) (hg : DG G n0 W g tg) (hb : DS G n0 W tb body) : DS G n0 W (tFor wi g tb) (sFor fi tg body) := by
  intro w ρ μ σ c vr hn fl e E fin
  rcases Ro.thn_some e with ⟨src, μ1, e1, e2⟩ | ⟨x, μ1, e1, e2⟩
  · refine hi w ρ μ σ c vr hn _ e1 _ fun w1 J p y => ?_
    have e3 : ∃ n, loopN src tg body n 0 ρ μ1 = some fl := by
      cases src with
      | its ds => exact ⟨ds.length, by rw [loopL_eq tg body ds ds.length 0 rfl]; exact e2⟩
      | cel k =>
        simp only [] at e2
        split at e2 <;> try cases e2
        exact ⟨_, e2⟩
    obtain ⟨n, e3⟩ := e3
    exact loop_run hg hb p.mc (vr.mono p.ex) (p.nn hn) y e3 (fin.post p)
  · subst e2
    exact hi w ρ μ σ c vr hn _ e1 _ fun w1 cls dx p x => fin w1 σ cls dx p (vr.mono p.ex) x

/-! ### while -/
def loopW (k : Ev Bool) (body : Sv) : Nat → Sv
  | 0 => fun _ _ => none
  | n + 1 => fun ρ μ => (k ρ μ).thn ρ fun b μ1 => if b then match body ρ μ1 with
      | some (.nx ρ2 μ2) => loopW k body n ρ2 μ2
      | some (.ct ρ2 μ2) => loopW k body n ρ2 μ2
      | some (.bk ρ2 μ2) => some (.nx ρ2 μ2)
      | r => r
    else some (.nx ρ μ1)
theorem ds_while {t : TT} {tb : TS} {k : Ev Bool} {body : Sv} (n : Nat) (hk : DT G n0 W t k) (hb : DS G n0 W tb body) : DS G n0 W (tWhile t tb) (loopW k body n) := by
  intro w ρ μ σ c vr hn fl e E fin
  refine ⟨fun m σ' H' => ∃ w' ρ' μ', w'.H = H' ∧ Post G n0 w μ w' μ' ∧ Vr G.K w' ρ' σ' ∧ loopW k body m ρ' μ' = some fl, ⟨n, w, ρ, μ, rfl, .refl c, vr, e⟩, ?_⟩
  rintro m σ' H' ⟨w', ρ', μ', rfl, p, v', e'⟩
  cases m with
  | zero => cases e'
  | succ m =>
    refine thn_run hk p.mc v' (p.nn hn) e' (fin.post p) fun w1 μ1 b x p1 r1 e2 f1 => ?_
    have r1 : x = b := r1
    subst r1
    have p01 := p.trans p1
    cases x with
    | false =>
      simp only [Bool.false_eq_true, if_false] at e2 ⊢
      cases e2
      exact fin w1 σ' p01 (v'.mono p1.ex)
    | true =>
      simp only [if_true] at e2 ⊢
      refine ⟨fun σ' H' => ∃ w2 ρ2 μ2, w2.H = H' ∧ Post G n0 w μ w2 μ2 ∧ Vr G.K w2 ρ2 σ' ∧ loopW k body m ρ2 μ2 = some fl, fun σ' H' q => ⟨m, Nat.lt_succ_self m, q⟩, ?_⟩
      have v1 := v'.mono p1.ex
      have hn1 := p01.nn hn
      split at e2
      · rename_i ρ2 μ2 h2
        exact hb w1 ρ' μ1 σ' p1.mc v1 hn1 _ h2 _ fun w2 σ2 p2 v2 => ⟨w2, ρ2, μ2, rfl, p01.trans p2, v2, e2⟩
      · rename_i ρ2 μ2 h2
        exact hb w1 ρ' μ1 σ' p1.mc v1 hn1 _ h2 _ fun w2 σ2 p2 v2 => ⟨w2, ρ2, μ2, rfl, p01.trans p2, v2, e2⟩
      · rename_i ρ2 μ2 h2
        cases e2
        exact hb w1 ρ' μ1 σ' p1.mc v1 hn1 _ h2 _ fun w2 σ2 p2 v2 => fin w2 σ2 (p01.trans p2) v2
      · rename_i n1 n2 n3
        refine hb w1 ρ' μ1 σ' p1.mc v1 hn1 fl e2 _ ?_
        have f := fin.post p01
        cases fl with
        | nx a b => exact absurd e2 (n1 a b)
        | bk a b => exact absurd e2 (n3 a b)
        | ct a b => exact absurd e2 (n2 a b)
        | rt _ _ => exact f
        | ex _ _ _ => exact f
end
end G4

/-! G9: comprehensions, freezing, methods of lists, calls, defs. -/
namespace G4
open PySem PySem.Spec PyProof.Rows L2
section
variable {G : Gx} {n0 : Nat} {W : WX}
/-! ### list comprehensions -/
def W0 : WX := fun _ _ _ _ => False
def wipeE (ρ : Env) : List Nat → Env
  | [] => ρ
  | v :: vs => (wipeE ρ vs).set v none
theorem wipeE_some {ρ : Env} {i : Nat} {d : D} : ∀ {vs : List Nat}, (wipeE ρ vs)[i]? = some (some d) → ρ[i]? = some (some d) ∧ i ∉ vs
  | [], h => ⟨h, by simp⟩
  | v :: vs, h => by
    unfold wipeE at h
    by_cases hi : v = i
    · subst hi
      by_cases hv : v < (wipeE ρ vs).length
      · rw [List.getElem?_set_self hv] at h; cases h
      · rw [List.getElem?_eq_none (by simpa using hv)] at h; cases h
    · rw [List.getElem?_set_ne hi] at h
      obtain ⟨h1, h2⟩ := wipeE_some h
      exact ⟨h1, by simp only [List.mem_cons, not_or]; exact ⟨fun e => hi e.symm, h2⟩⟩
theorem wipeE_length (ρ : Env) : ∀ vs : List Nat, (wipeE ρ vs).length = ρ.length
  | [] => rfl
  | v :: vs => by unfold wipeE; rw [List.length_set, wipeE_length ρ vs]
theorem Vr.wipe {K : PySem.W.Frag} {w : Hw} {ρ : Env} {σ : L2.St} (h : Vr K w ρ σ) (vs : List Nat) : Vr K w (wipeE ρ vs) (wipe σ vs) :=
  ⟨by rw [wipe_length, wipeE_length]; exact h.len, fun i d e => by
    obtain ⟨e1, e2⟩ := wipeE_some e
    rw [wipe_out e2]
    exact h.at_ i d e1⟩
theorem wipe_set_in {σ : L2.St} {i : Nat} {x : Option V} : ∀ {vs : List Nat}, i ∈ vs → wipe (σ.set i x) vs = wipe σ vs
  | [], h => by cases h
  | v :: vs, h => by
    unfold L2.wipe
    by_cases hi : i ∈ vs
    · rw [wipe_set_in hi]
    · have hv : i = v := by
        rcases List.mem_cons.mp h with e | e
        · exact e
        · exact absurd e hi
      subst hv
      apply List.ext_getElem?
      intro j
      by_cases hj : i = j
      · subst hj
        by_cases hl : i < σ.length
        · rw [List.getElem?_set_self (by rw [wipe_length, List.length_set]; exact hl), List.getElem?_set_self (by rw [wipe_length]; exact hl)]
        · rw [List.getElem?_eq_none (by rw [List.length_set, wipe_length, List.length_set]; omega), List.getElem?_eq_none (by rw [List.length_set, wipe_length]; omega)]
      · rw [List.getElem?_set_ne hj, List.getElem?_set_ne hj]
        by_cases hjv : j ∈ vs
        · have a : ∀ σ : L2.St, (wipe σ vs)[j]? = if j < σ.length then some none else none := fun σ => by
            clear hi h hj
            induction vs with
            | nil => cases hjv
            | cons u us ih =>
              unfold L2.wipe
              by_cases hu : u = j
              · subst hu
                by_cases hl : u < σ.length
                · rw [List.getElem?_set_self (by rw [wipe_length]; exact hl), if_pos hl]
                · rw [List.getElem?_eq_none (by rw [List.length_set, wipe_length]; omega), if_neg hl]
              · rw [List.getElem?_set_ne hu]
                rcases List.mem_cons.mp hjv with e | e
                · exact absurd e.symm hu
                · exact ih e
          rw [a, a, List.length_set]
        · rw [wipe_out hjv, wipe_out hjv, List.getElem?_set_ne hj]
theorem wipe_wipe (σ : L2.St) (vs : List Nat) : wipe (wipe σ vs) vs = wipe σ vs := by
  have all : ∀ us : List Nat, (∀ u ∈ us, u ∈ vs) → wipe (wipe σ us) vs = wipe σ vs := by
    intro us
    induction us with
    | nil => intro _; rfl
    | cons u us ih =>
      intro h
      show wipe ((wipe σ us).set u none) vs = wipe σ vs
      rw [wipe_set_in (h u List.mem_cons_self)]
      exact ih fun x hx => h x (List.mem_cons_of_mem _ hx)
  exact all vs fun _ h => h
/-- a target that stores in vs alone -/
def Own (g : TG) (vs : List Nat) : Prop := ∀ v σ H Q, g v σ H Q → g v σ H fun σ2 H2 => wipe σ2 vs = wipe σ vs ∧ Q σ2 H2
def Owns (g : TGs) (vs : List Nat) : Prop := ∀ us σ H Q, g us σ H Q → g us σ H fun σ2 H2 => wipe σ2 vs = wipe σ vs ∧ Q σ2 H2
theorem own_name {i : Nat} {vs : List Nat} (h : i ∈ vs := by decide) : Own (gName i) vs := fun v σ H Q q => ⟨wipe_set_in h, q⟩
theorem owns_nil {vs : List Nat} : Owns gNil vs := fun us σ H Q q => ⟨q.1, rfl, q.2⟩
theorem owns_cons {g : TG} {gs : TGs} {vs : List Nat} (h : Own g vs) (k : Owns gs vs) (mono : ∀ v σ H (Q Q' : L2.St → Hp → Prop), (∀ σ H, Q σ H → Q' σ H) → g v σ H Q → g v σ H Q') (monos : ∀ v σ H (Q Q' : L2.St → Hp → Prop), (∀ σ H, Q σ H → Q' σ H) → gs v σ H Q → gs v σ H Q') : Owns (gCons g gs) vs := by
  intro us σ H Q q
  obtain ⟨v, r, e, q⟩ := q
  refine ⟨v, r, e, mono _ _ _ _ _ (fun σ1 H1 ⟨e1, q1⟩ => ?_) (h v σ H _ q)⟩
  exact monos _ _ _ _ _ (fun σ2 H2 ⟨e2, q2⟩ => ⟨e2.trans e1, q2⟩) (k r σ1 H1 Q q1)
theorem own_tup {n : Nat} {gs : TGs} {vs : List Nat} (k : Owns gs vs) : Own (gTup G.K n gs) vs := fun v σ H Q ⟨a, xs, e, s, l, q⟩ => ⟨a, xs, e, s, l, k xs σ H Q q⟩
/-- targets of names, tuples of names -/
def Mono (g : TG) : Prop := ∀ v σ H (Q Q' : L2.St → Hp → Prop), (∀ σ H, Q σ H → Q' σ H) → g v σ H Q → g v σ H Q'
def Monos (g : TGs) : Prop := ∀ v σ H (Q Q' : L2.St → Hp → Prop), (∀ σ H, Q σ H → Q' σ H) → g v σ H Q → g v σ H Q'
theorem mono_name {i : Nat} : Mono (gName i) := fun _ _ _ _ _ h q => h _ _ q
theorem mono_nil : Monos gNil := fun _ _ _ _ _ h q => ⟨q.1, h _ _ q.2⟩
theorem mono_cons {g : TG} {gs : TGs} (a : Mono g) (b : Monos gs) : Monos (gCons g gs) := fun _ _ _ _ _ h ⟨v, r, e, q⟩ => ⟨v, r, e, a _ _ _ _ _ (fun _ _ q => b _ _ _ _ _ h q) q⟩
theorem mono_tup {n : Nat} {gs : TGs} (b : Monos gs) : Mono (gTup G.K n gs) := fun _ _ _ _ _ h ⟨a, xs, e, s, l, q⟩ => ⟨a, xs, e, s, l, b _ _ _ _ _ h q⟩

def stepC (tg : Tv) (tt : Ev Bool) (te : Ev D) (ρ : Env) (d : D) (μ : Mu) (rest : Mu → Ro (List D)) : Ro (List D) := match tg d ρ μ with
  | some (.ok ρ1 μ1) => match tt ρ1 μ1 with
    | some (.ok true μ2) => match te ρ1 μ2 with
      | some (.ok y μ3) => match rest μ3 with
        | some (.ok ys μ4) => some (.ok (y :: ys) μ4)
        | _ => none
      | _ => none
    | some (.ok false μ2) => rest μ2
    | _ => none
  | _ => none
def compN (src : Src) (tg : Tv) (tt : Ev Bool) (te : Ev D) (ρ : Env) : Nat → Nat → Mu → Ro (List D)
  | 0, i => fun μ => match src.cur μ with
    | some ds => if ds.length ≤ i then some (.ok [] μ) else none
    | none => none
  | n + 1, i => fun μ => match src.cur μ with
    | some ds => match ds[i]? with
      | some d => stepC tg tt te ρ d μ (compN src tg tt te ρ n (i + 1))
      | none => some (.ok [] μ)
    | none => none
def compL (tg : Tv) (tt : Ev Bool) (te : Ev D) (ρ : Env) : List D → Mu → Ro (List D)
  | [] => fun μ => some (.ok [] μ)
  | d :: ds => fun μ => stepC tg tt te ρ d μ (compL tg tt te ρ ds)
theorem compL_eq (tg : Tv) (tt : Ev Bool) (te : Ev D) (ρ : Env) (ds : List D) : ∀ (n i : Nat), n + i = ds.length → compN (.its ds) tg tt te ρ n i = compL tg tt te ρ (ds.drop i)
  | 0, i, h => by
    have : ds.drop i = [] := List.drop_eq_nil_of_le (by omega)
    rw [this]
    funext μ
    simp only [compN, Src.cur, compL]
    rw [if_pos (by omega)]
  | n + 1, i, h => by
    have hi : i < ds.length := by omega
    have e : ds.drop i = ds[i] :: ds.drop (i + 1) := List.drop_eq_getElem_cons hi
    rw [e]
    funext μ
    simp only [compN, Src.cur, compL, List.getElem?_eq_getElem hi]
    rw [compL_eq tg tt te ρ ds n (i + 1) (by omega)]
def comp (tg : Tv) (tt : Ev Bool) (te : Ev D) (ρ : Env) (src : Src) (μ : Mu) : Ro (List D) := match src with
  | .its ds => compL tg tt te ρ ds μ
  | .cel k => match viewL μ (.cell k) with
    | some ds => compN (.cel k) tg tt te ρ ds.length 0 μ
    | none => none
def eComp (fi : Ev Src) (tg : Tv) (tt : Ev Bool) (te : Ev D) (vs : List Nat) : Ev D := fun ρ μ => (fi ρ μ).bnd fun src μ1 => match comp tg tt te (wipeE ρ vs) src μ1 with
  | some (.ok ys μ2) => newL ys μ2
  | _ => none
def eCompC (fi : Ev Src) (tg : Tv) (tt : Ev Bool) (te : Ev D) (vs : List Nat) : Ev D := fun ρ μ => (fi ρ μ).bnd fun src μ1 => match comp tg tt te (wipeE ρ vs) src μ1 with
  | some (.ok ys μ2) => newC ys μ2
  | _ => none
def eYes : Ev Bool := fun _ μ => some (.ok true μ)
theorem dt_yes : DT G n0 W tYes eYes := fun w ρ μ σ c vr hn => .ret c rfl fun Q q => q
theorem comp_run {w : Hw} {ρ : Env} {μ μf : Mu} {σ : L2.St} {g : TG} {t : TT} {te : TE} {tg : Tv} {ft : Ev Bool} {fe : Ev D} {src : Src} {J : It} {vs : List Nat} {n : Nat} {ys : List D} {p : Addr} {Q : VK}
    (hg : DG G n0 W0 g tg) (ho : Own g vs) (hm : Mono g) (ht : DT G n0 W0 t ft) (he : DE G n0 W0 te fe) (c : Mc G w μ) (vr : Vr G.K w ρ σ) (hn : n0 ≤ μ.length) (hp : w.H p = none)
    (y : Yl G w src J) (e : compN src tg ft fe (wipeE ρ vs) n 0 μ = some (.ok ys μf)) (hs : ys.length ≤ 16777216)
    (fin : ∀ w' vs', Ex w w' → Mc G w' μf → Kp n0 μ μf → Hid w' p (.lst vs') → Frs G.K w' ys vs' → Q (.ref p) w'.H) :
    ∃ Wv : Nat → Nat → Hp → Prop, (∃ m, Wv 0 m (upd w.H p (.lst []))) ∧ ∀ i m H, Wv i m H →
      (J.stop i H ∧ Q (.ref p) H) ∨ (J.go i H ∧ ∃ Nx : Hp → Prop, (∀ H', Nx H' → ∃ m', m' < m ∧ Wv (i + 1) m' H') ∧ ∀ x H', J.yld i H x H' → g x (wipe σ vs) H' fun σ2 H2 => wipe σ2 vs = wipe σ vs ∧ t σ2 H2 fun b H3 =>
        if b = true then te σ2 H3 fun y H4 => ∃ acc, H4 p = some (.lst acc) ∧ acc.length < sizeLine ∧ Nx (upd H4 p (.lst (acc ++ [y]))) else Nx H3) := by
  have inv : ∀ (i m : Nat) (H : Hp), (∃ w' μ' acc av zs, w'.H = H ∧ Ex w w' ∧ Mc G w' μ' ∧ Kp n0 μ μ' ∧ Hid w' p (.lst av) ∧ Frs G.K w' acc av ∧ acc ++ zs = ys ∧ compN src tg ft fe (wipeE ρ vs) m i μ' = some (.ok zs μf)) → True := fun _ _ _ _ => trivial
  refine ⟨fun i m H => ∃ w' μ' acc av zs, w'.H = H ∧ Ex w w' ∧ Mc G w' μ' ∧ Kp n0 μ μ' ∧ Hid w' p (.lst av) ∧ Frs G.K w' acc av ∧ acc ++ zs = ys ∧ compN src tg ft fe (wipeE ρ vs) m i μ' = some (.ok zs μf), ?_, ?_⟩
  · obtain ⟨x1, c1, h1⟩ := Hid.new (o := .lst []) c hp
    exact ⟨n, w.wr p (.lst []), μ, [], [], ys, rfl, x1, c1, .refl _ _, h1, rfl, rfl, e⟩
  · rintro i m H ⟨w', μ', acc, av, zs, rfl, x, c', kp, h, r, e1, e2⟩
    have stop : ∀ ds, src.cur μ' = some ds → ds.length ≤ i → zs = [] → μ' = μf → J.stop i w'.H ∧ Q (.ref p) w'.H := fun ds hd hl hz hμ => by
      subst hz hμ
      rw [List.append_nil] at e1
      subst e1
      exact ⟨(y w' μ' x.e0 c' ds hd i).2 hl, fin w' av x c' kp h r⟩
    cases m with
    | zero =>
      simp only [compN] at e2
      split at e2 <;> try cases e2
      rename_i ds hd
      split at e2 <;> rename_i hl <;> cases e2
      exact .inl (stop ds hd hl rfl rfl)
    | succ m =>
      simp only [compN] at e2
      split at e2 <;> try cases e2
      rename_i ds hd
      obtain ⟨y1, y2⟩ := y w' μ' x.e0 c' ds hd i
      split at e2
      · rename_i d hdi
        obtain ⟨go, yl⟩ := y1 d hdi
        refine .inr ⟨go, fun H => ∃ w' μ' acc av zs, w'.H = H ∧ Ex w w' ∧ Mc G w' μ' ∧ Kp n0 μ μ' ∧ Hid w' p (.lst av) ∧ Frs G.K w' acc av ∧ acc ++ zs = ys ∧ compN src tg ft fe (wipeE ρ vs) m (i + 1) μ' = some (.ok zs μf), fun H' q => ⟨m, Nat.lt_succ_self m, q⟩, fun u H' hy => ?_⟩
        obtain ⟨w2, rfl, x2, c2, fr⟩ := yl u H' hy
        have hn2 : n0 ≤ μ'.length := Nat.le_trans hn kp.len
        have xx2 := x.trans x2
        unfold stepC at e2
        split at e2 <;> try cases e2
        rename_i ρ1 μ1 h1
        refine hm _ _ _ _ _ (fun σ2 H2 ⟨a, b⟩ => ⟨a.trans (wipe_wipe σ vs), b⟩) (ho _ _ _ _ (hg w2 (wipeE ρ vs) μ' (wipe σ vs) d u c2 ((vr.mono xx2).wipe vs) hn2 fr _ h1 _ fun w3 σ3 p3 v3 => ?_))
        have hn3 := p3.nn hn2
        have xx3 := xx2.trans p3.ex
        have kp3 := kp.trans p3.kp
        split at e2
        · rename_i μ2 h2
          refine ht w3 ρ1 μ1 σ3 p3.mc v3 hn3 _ h2 _ fun w4 b p4 r4 => ?_
          have r4 : b = true := r4
          subst r4
          rw [if_pos rfl]
          have hn4 := p4.nn hn3
          split at e2 <;> try cases e2
          rename_i y' μ3 h3
          split at e2 <;> cases e2
          rename_i ys' h4
          refine he w4 ρ1 μ2 σ3 p4.mc (v3.mono p4.ex) hn4 _ h3 _ fun w5 v5 p5 r5 => ?_
          have xx5 := (xx3.trans p4.ex).trans p5.ex
          have x25 := (x2.trans p3.ex).trans (p4.ex.trans p5.ex)
          have h5 := h.ex x25
          have rl := r.length
          have hl : acc.length + (1 + ys'.length) = ys.length := by rw [← e1]; simp; omega
          refine ⟨av, h5.at_, by rw [sizeLine_eq, rl]; omega, ?_⟩
          obtain ⟨x6, c6, h6, f6⟩ := Hid.wr (o' := .lst (av ++ [v5])) c hp xx5 h5 p5.mc
          exact ⟨w5.wr p (.lst (av ++ [v5])), μ3, acc ++ [y'], av ++ [v5], ys', rfl, x6, c6, (kp3.trans p4.kp).trans p5.kp, h6, f6 ((r.mono x25).append (Frs.one r5)), by rw [← e1]; simp, h4⟩
        · rename_i μ2 h2
          refine ht w3 ρ1 μ1 σ3 p3.mc v3 hn3 _ h2 _ fun w4 b p4 r4 => ?_
          have r4 : b = false := r4
          subst r4
          rw [if_neg Bool.false_ne_true]
          have x24 := (x2.trans p3.ex).trans p4.ex
          exact ⟨w4, μ2, acc, av, zs, rfl, xx3.trans p4.ex, p4.mc, kp3.trans p4.kp, h.ex x24, r.mono x24, e1, e2⟩
        · cases e2
      · rename_i hdi
        cases e2
        exact .inl (stop ds hd (by simpa using hdi) rfl rfl)
theorem comp_n {tg : Tv} {tt : Ev Bool} {te : Ev D} {ρ : Env} {src : Src} {μ : Mu} {r : Rs (List D)} (e : comp tg tt te ρ src μ = some r) : ∃ n, compN src tg tt te ρ n 0 μ = some r := by
  cases src with
  | its ds => exact ⟨ds.length, by rw [compL_eq tg tt te ρ ds ds.length 0 rfl]; exact e⟩
  | cel k =>
    simp only [comp] at e
    split at e <;> try cases e
    exact ⟨_, e⟩
theorem de_comp {wi : TI} {g : TG} {t : TT} {te : TE} {fi : Ev Src} {tg : Tv} {ft : Ev Bool} {fe : Ev D} {vs : List Nat} (hi : DI G n0 W wi fi) (hg : DG G n0 W0 g tg) (ho : Own g vs) (hm : Mono g) (ht : DT G n0 W0 t ft) (he : DE G n0 W0 te fe) :
    DE G n0 W (tLc wi g t te vs) (eComp fi tg ft fe vs) := by
  intro w ρ μ σ c vr hn r e Q fin
  rcases Ro.bnd_some e with ⟨src, μ1, e1, e2⟩ | ⟨x, μ1, e1, e2⟩
  · refine hi w ρ μ σ c vr hn _ e1 _ fun w1 J p1 y => ?_
    intro p hp
    split at e2 <;> try cases e2
    rename_i ys μ2 h2
    obtain ⟨n, h3⟩ := comp_n h2
    unfold newL at e2
    split at e2 <;> rename_i hs <;> cases e2
    refine comp_run hg ho hm ht he p1.mc (vr.mono p1.ex) (p1.nn hn) hp y h3 (by simpa [small] using hs) fun w2 vs' x2 c2 k2 h2 r2 => ?_
    obtain ⟨x3, c3, f3⟩ := h2.stays hp x2 c2
    exact fin (w2.kill p) (.ref p) (p1.trans ⟨x3, c3, k2⟩) ⟨p, vs', rfl, .inr rfl, h2.at_, f3 r2⟩
  · subst e2
    exact hi w ρ μ σ c vr hn _ e1 _ fun w1 cls dx p x => fin w1 cls dx p x
theorem de_compC {wi : TI} {g : TG} {t : TT} {te : TE} {fi : Ev Src} {tg : Tv} {ft : Ev Bool} {fe : Ev D} {vs : List Nat} (hi : DI G n0 W wi fi) (hg : DG G n0 W0 g tg) (ho : Own g vs) (hm : Mono g) (ht : DT G n0 W0 t ft) (he : DE G n0 W0 te fe) :
    DE G n0 W (tLc wi g t te vs) (eCompC fi tg ft fe vs) := by
  intro w ρ μ σ c vr hn r e Q fin
  rcases Ro.bnd_some e with ⟨src, μ1, e1, e2⟩ | ⟨x, μ1, e1, e2⟩
  · refine hi w ρ μ σ c vr hn _ e1 _ fun w1 J p1 y => ?_
    intro p hp
    split at e2 <;> try cases e2
    rename_i ys μ2 h2
    obtain ⟨n, h3⟩ := comp_n h2
    unfold newC at e2
    split at e2 <;> rename_i hs <;> cases e2
    refine comp_run hg ho hm ht he p1.mc (vr.mono p1.ex) (p1.nn hn) hp y h3 (by simpa [small] using hs) fun w2 vs' x2 c2 k2 h2 r2 => ?_
    obtain ⟨x3, c3, l3⟩ := Hid.cel (m := .lst ys) hp x2 h2 c2 ⟨vs', h2.at_, r2⟩
    exact fin (w2.cel p) (.ref p) (p1.trans ⟨x3, c3, k2.trans (.push (Nat.le_trans (p1.nn hn) k2.len) _)⟩) ⟨p, rfl, l3⟩
  · subst e2
    exact hi w ρ μ σ c vr hn _ e1 _ fun w1 cls dx p x => fin w1 cls dx p x

/-! ### freezing -/
def frzs (f : D → Mu → Option (D × Mu)) : List D → Mu → Option (List D × Mu)
  | [], μ => some ([], μ)
  | d :: ds, μ => match f d μ with
    | some (e, μ1) => match frzs f ds μ1 with
      | some (es, μ2) => some (e :: es, μ2)
      | none => none
    | none => none
def frz : Nat → D → Mu → Option (D × Mu)
  | 0, d, μ => match d with
    | .cell _ => none
    | d => some (d, μ)
  | n + 1, d, μ => match d with
    | .cell k => match μ[k]? with
      | some (some (.lst xs)) => match frzs (frz n) xs (μ.set k none) with
        | some (ys, μ1) => some (.lst ys, μ1)
        | none => none
      | _ => none
    | d => some (d, μ)
def FrzOk (G : Gx) (f : D → Mu → Option (D × Mu)) : Prop := ∀ w μ d v d' μ', Mc G w μ → Fr G.K w d v → f d μ = some (d', μ') → ∃ w', w'.H = w.H ∧ Ex w w' ∧ Mc G w' μ' ∧ (∀ n0, Kp n0 μ μ') ∧ Fr G.K w' d' v
theorem frzs_ok {f : D → Mu → Option (D × Mu)} (h : FrzOk G f) : ∀ (ds : List D) (w : Hw) (μ : Mu) (vs : List V) (ds' : List D) (μ' : Mu), Mc G w μ → Frs G.K w ds vs → frzs f ds μ = some (ds', μ') →
    ∃ w', w'.H = w.H ∧ Ex w w' ∧ Mc G w' μ' ∧ (∀ n0, Kp n0 μ μ') ∧ Frs G.K w' ds' vs
  | [], w, μ, vs, ds', μ', c, r, e => by
    cases e
    exact ⟨w, rfl, .refl w, c, fun _ => .refl _ _, r⟩
  | d :: ds, w, μ, vs, ds', μ', c, ⟨v, r, e1, h1, t⟩, e => by
    subst e1
    unfold frzs at e
    split at e <;> try cases e
    rename_i e1 μ1 q1
    split at e <;> cases e
    rename_i es q2
    obtain ⟨w1, hH, x1, c1, k1, f1⟩ := h w μ d v e1 μ1 c h1 q1
    obtain ⟨w2, hH2, x2, c2, k2, f2⟩ := frzs_ok h ds w1 μ1 r es μ' c1 (t.mono x1) q2
    exact ⟨w2, hH2.trans hH, x1.trans x2, c2, fun n => (k1 n).trans (k2 n), v, r, rfl, f1.mono x2, f2⟩
theorem frz_ok : ∀ n, FrzOk G (frz n)
  | 0 => by
    intro w μ d v d' μ' c fr e
    unfold frz at e
    cases d <;> cases e
    all_goals exact ⟨w, rfl, .refl w, c, fun _ => .refl _ _, fr⟩
  | n + 1 => by
    intro w μ d v d' μ' c fr e
    unfold frz at e
    cases d
    case cell k =>
      simp only at e
      split at e <;> try cases e
      rename_i xs hm
      split at e <;> cases e
      rename_i ys hy
      obtain ⟨a, rfl, ha⟩ := fr
      obtain ⟨⟨vs, h1, h2⟩, _⟩ := c.cell k _ a hm ha
      have x1 : Ex w (w.kill a) := Ex.kill ha
      have c1 := Mc.kill c hm ha
      obtain ⟨w2, hH, x2, c2, k2, f2⟩ := frzs_ok (frz_ok n) xs (w.kill a) _ vs ys μ' c1 (h2.mono x1) hy
      exact ⟨w2, hH, x1.trans x2, c2, fun n0 => (Kp.kill k).trans (k2 n0), a, vs, rfl, x2.le _ (.inr rfl), by rw [hH]; exact h1, f2⟩
    all_goals
      simp only at e
      cases e
      exact ⟨w, rfl, .refl w, c, fun _ => .refl _ _, fr⟩
/-- the value stays as it is from now on -/
def eFrz (f : Ev D) : Ev D := fun ρ μ => (f ρ μ).bnd fun d μ1 => match frz 4 d μ1 with
  | some (d', μ2) => some (.ok d' μ2)
  | none => none
theorem de_frz {t : TE} {f : Ev D} (h : DE G n0 W t f) : DE G n0 W t (eFrz f) := by
  intro w ρ μ σ c vr hn r e Q fin
  rcases Ro.bnd_some e with ⟨d, μ1, e1, e2⟩ | ⟨x, μ1, e1, e2⟩
  · refine h w ρ μ σ c vr hn _ e1 _ fun w1 v p r1 => ?_
    split at e2 <;> cases e2
    rename_i d' μ2 hf
    obtain ⟨w2, hH, x2, c2, k2, f2⟩ := frz_ok 4 w1 μ1 d v d' μ2 p.mc r1 hf
    rw [← hH]
    exact fin w2 v (p.trans ⟨x2, c2, k2 n0⟩) f2
  · subst e2
    exact h w ρ μ σ c vr hn _ e1 _ fun w1 cls dx p x => fin w1 cls dx p x

/-! ### methods of lists -/
/-- o.m(args): o a cell that holds a list -/
def eMt (op : Nat → List D → List D → Mu → Ro D) (f : Ev D) (g : Ev (List D)) : Ev D := fun ρ μ => (f ρ μ).bnd fun o μ1 => match o with
  | .cell k => (match μ1[k]? with
    | some (some (.lst _)) => (g ρ μ1).bnd fun as μ2 => match μ2[k]? with
      | some (some (.lst xs)) => op k xs as μ2
      | _ => none
    | _ => none)
  | _ => none
def DM (G : Gx) (n0 : Nat) (W : WX) (r : V → List V → Hp → VK → Prop) (op : Nat → List D → List D → Mu → Ro D) : Prop := ∀ w μ σ k a xs vs as us, Mc G w μ → n0 ≤ μ.length → μ[k]? = some (some (.lst xs)) → w.A[k]? = some a → w.H a = some (.lst vs) → Frs G.K w xs vs → Frs G.K w as us →
  At G n0 W (Fr G.K) w μ σ (fun H Q => r (.ref a) us H Q) (op k xs as μ)
theorem de_mt {r : V → List V → Hp → VK → Prop} {op : Nat → List D → List D → Mu → Ro D} {to : TE} {t : TA} {f : Ev D} {g : Ev (List D)} (ho : DM G n0 W r op) (h : DE G n0 W to f) (k : DA G n0 W t g) : DE G n0 W (tBM G.K "list" r to t) (eMt op f g) := by
  intro w ρ μ σ c vr hn
  refine (h w ρ μ σ c vr hn).bnd (uu := fun x H1 (Q : VK) => tyV G.K "list" x H1 ∧ t σ H1 fun xs H2 => r x xs H2 Q) fun w1 μ1 o x p1 r1 => ?_
  intro q e Q fin
  split at e <;> try cases e
  rename_i k'
  split at e <;> try cases e
  rename_i ys hm
  obtain ⟨a, rfl, ha⟩ := r1
  obtain ⟨⟨vs, h1, _⟩, _⟩ := p1.mc.cell k' _ a hm ha
  refine ⟨.inl ⟨rfl, vs, .of h1⟩, ?_⟩
  have := (k w1 ρ μ1 σ p1.mc (vr.mono p1.ex) (p1.nn hn)).bnd (R' := Fr G.K) (uu := fun xs H2 (Q : VK) => r (.ref a) xs H2 Q) (g := fun as μ2 => match μ2[k']? with
      | some (some (.lst xs)) => op k' xs as μ2
      | _ => none) fun w2 μ2 as us p2 r2 => ?_
  · exact this q e Q fin
  · intro q e Q fin
    split at e <;> try cases e
    rename_i xs hm2
    have ha2 := p2.ex.pre _ _ ha
    obtain ⟨⟨vs2, g1, g2⟩, _⟩ := p2.mc.cell k' _ a hm2 ha2
    exact ho w2 μ2 σ k' a xs vs2 as us p2.mc (p2.nn (p1.nn hn)) hm2 ha2 g1 g2 r2 q e Q fin
theorem wr_lst {w : Hw} {μ : Mu} {k : Nat} {a : Addr} {xs zs : List D} {us : List V} {d : D} (c : Mc G w μ) (hm : μ[k]? = some (some (.lst xs))) (ha : w.A[k]? = some a) (r : Frs G.K w zs us) (hz : ∀ z ∈ zs, z ∈ xs ∨ ((decide (n0 ≤ k) || z.pure) = true)) :
    Post G n0 w μ (w.wr a (.lst us)) (μ.set k (some (.lst zs))) := by
  have x : Ex w (w.wr a (.lst us)) := Ex.wr c hm ha
  refine ⟨x, Mc.wr (m' := .lst zs) c hm ha ⟨us, upd_same, r.mono x⟩, Kp.wr fun n hn hk lo => ?_⟩
  have := lo k _ hk hm
  simp only [M.low] at this ⊢
  rw [lows_iff] at this ⊢
  intro z hz'
  rcases hz z hz' with q | q
  · exact this z q
  · exact wr_low q hn hk
def oAppend (n0 : Nat) : Nat → List D → List D → Mu → Ro D := fun k xs as μ => match as with
  | [d] => if decide (xs.length < 16777216) && (decide (n0 ≤ k) || d.pure) then some (.ok .non (μ.set k (some (.lst (xs ++ [d]))))) else none
  | _ => none
theorem dm_append : DM G n0 W rAppend (oAppend n0) := by
  intro w μ σ k a xs vs as us c hn hm ha h1 h2 r q e Q f
  unfold oAppend at e
  split at e <;> try cases e
  rename_i d
  split at e <;> rename_i hs <;> cases e
  rw [Bool.and_eq_true] at hs
  obtain ⟨v, rfl, fr⟩ := frs1 r
  refine ⟨a, vs, v, rfl, rfl, h1, by rw [h2.length]; exact small_ok' hs.1, ?_⟩
  refine f (w.wr a (.lst (vs ++ [v]))) .non (wr_lst (d := d) c hm ha (h2.append (Frs.one fr)) fun z hz => ?_) rfl
  rcases List.mem_append.mp hz with hz | hz
  · exact .inl hz
  · have : z = d := by simpa using hz
    subst this
    exact .inr hs.2
def eMt0 (op : Nat → List D → Mu → Ro D) (f : Ev D) : Ev D := fun ρ μ => (f ρ μ).bnd fun o μ1 => match o with
  | .cell k => (match μ1[k]? with
    | some (some (.lst xs)) => op k xs μ1
    | _ => none)
  | _ => none
def DM0 (G : Gx) (n0 : Nat) (W : WX) (r : V → List V → Hp → VK → Prop) (op : Nat → List D → Mu → Ro D) : Prop := ∀ w μ σ k a xs vs, Mc G w μ → n0 ≤ μ.length → μ[k]? = some (some (.lst xs)) → w.A[k]? = some a → w.H a = some (.lst vs) → Frs G.K w xs vs →
  At G n0 W (Fr G.K) w μ σ (fun H Q => r (.ref a) [] H Q) (op k xs μ)
theorem de_mt0 {r : V → List V → Hp → VK → Prop} {op : Nat → List D → Mu → Ro D} {to : TE} {f : Ev D} (ho : DM0 G n0 W r op) (h : DE G n0 W to f) : DE G n0 W (tBM0 G.K "list" r to) (eMt0 op f) := by
  intro w ρ μ σ c vr hn
  refine (h w ρ μ σ c vr hn).bnd (uu := fun x H1 (Q : VK) => tyV G.K "list" x H1 ∧ r x [] H1 Q) fun w1 μ1 o x p1 r1 => ?_
  intro q e Q fin
  split at e <;> try cases e
  rename_i k'
  split at e <;> try cases e
  rename_i ys hm
  obtain ⟨a, rfl, ha⟩ := r1
  obtain ⟨⟨vs, h1, h2⟩, _⟩ := p1.mc.cell k' _ a hm ha
  exact ⟨.inl ⟨rfl, vs, .of h1⟩, ho w1 μ1 σ k' a ys vs p1.mc (p1.nn hn) hm ha h1 h2 q e Q fin⟩
def oPop : Nat → List D → Mu → Ro D := fun k xs μ => match xs[xs.length - 1]? with
  | some d => some (.ok d (μ.set k (some (.lst xs.dropLast))))
  | none => none
theorem dm_pop : DM0 G n0 W rPop oPop := by
  intro w μ σ k a xs vs c hn hm ha h1 h2 q e Q f
  unfold oPop at e
  split at e <;> cases e
  rename_i d hd
  obtain ⟨v, hv, fr⟩ := h2.get hd
  have hl := h2.length
  refine ⟨a, vs, v, rfl, rfl, h1, by rw [hl]; exact hv, ?_⟩
  have x : Ex w (w.wr a (.lst vs.dropLast)) := Ex.wr c hm ha
  refine f (w.wr a (.lst vs.dropLast)) v (wr_lst (d := d) c hm ha (by rw [List.dropLast_eq_take, List.dropLast_eq_take, hl]; exact h2.take _) fun z hz => .inl (List.dropLast_subset _ hz)) (fr.mono x)
def oReverse : Nat → List D → Mu → Ro D := fun k xs μ => some (.ok .non (μ.set k (some (.lst xs.reverse))))
theorem dm_reverse : DM0 G n0 W rReverse oReverse := by
  intro w μ σ k a xs vs c hn hm ha h1 h2 q e Q f
  cases e
  exact ⟨a, vs, rfl, rfl, h1, f (w.wr a (.lst vs.reverse)) .non (wr_lst (d := .non) c hm ha h2.reverse fun z hz => .inl (List.mem_reverse.mp hz)) rfl⟩
end
end G4

/-! G10: defs and their calls. -/
namespace G4
open PySem PySem.Spec PyProof.Rows L2
abbrev Fd := List D → Mu → Ro D
def XD.low (n : Nat) (x : XD) : Bool := lows n (x.fs.map (·.2))
/-- what a def promises: n arguments, its meaning m -/
def spD (G : Gx) (n : Nat) (m : Fd) : Sp := fun vs H Q E => ∃ (w : Hw) (μ : Mu) (ds : List D) (r : Rs D), w.H = H ∧ Mc G w μ ∧ Frs G.K w ds vs ∧ ds.length = n ∧ m ds μ = some r ∧
  match r with
  | .ok d μ' => ∀ w' v, Post G μ.length w μ w' μ' → Fr G.K w' d v → Q v w'.H
  | .exc x μ' => ∀ w' cls dx, Post G μ.length w μ w' μ' → Xr G w' x cls dx → E cls dx w'.H
/-- back to the caller's cells -/
def leave (n0 : Nat) (d : D) (μ : Mu) : Ro D := match d with
  | .cell k => if k < n0 then some (.ok (.cell k) (μ.take n0)) else match μ[k]? with
    | some (some m) => if m.low n0 then some (.ok (.cell n0) (μ.take n0 ++ [some m])) else none
    | _ => none
  | d => if d.low n0 then some (.ok d (μ.take n0)) else none
/-- a def's meaning: its names, its body -/
def runD (N : Nat) (body : Nat → Sv) : Fd := fun ds μ => match body μ.length (ds.map some ++ List.replicate (N - ds.length) none) μ with
  | some (.nx _ μ') => leave μ.length .non μ'
  | some (.rt d μ') => leave μ.length d μ'
  | some (.ex x _ μ') => if x.low μ.length then some (.exc x (μ'.take μ.length)) else none
  | _ => none
section
variable {G : Gx}
theorem lo_of {w : Hw} {μ : Mu} (c : Mc G w μ) : Lo μ.length μ := fun k m hk e => by
  have : k < w.A.length := by rw [c.len]; exact hk
  obtain ⟨r, _⟩ := c.cell k m _ e (List.getElem?_eq_getElem this)
  rw [← c.len]
  exact r.low
/-- the cells from n on forgotten -/
def Hw.cut (w : Hw) (n : Nat) : Hw := ⟨w.N, w.A.take n, w.H, w.T⟩
theorem cut_ok {w w1 : Hw} {μ μ1 : Mu} (c : Mc G w μ) (p : Post G μ.length w μ w1 μ1) : Post G μ.length w μ (w1.cut μ.length) (μ1.take μ.length) ∧ (∀ {d : D} {v : V}, d.low μ.length = true → Fr G.K w1 d v → Fr G.K (w1.cut μ.length) d v) ∧
    ∀ {ds : List D} {vs : List V}, lows μ.length ds = true → Frs G.K w1 ds vs → Frs G.K (w1.cut μ.length) ds vs := by
  have hA : ∀ (k : Nat) (a : Addr), k < μ.length → w1.A[k]? = some a → (w1.cut μ.length).A[k]? = some a := fun k a hk e => by
    show (w1.A.take μ.length)[k]? = some a
    rw [List.getElem?_take, if_pos hk]
    exact e
  have lo := p.kp.lo μ.length (Nat.le_refl _) (lo_of c)
  have hl : w1.A.length = μ1.length := p.mc.len
  have hle := p.kp.len
  refine ⟨⟨⟨p.ex.le, fun k a e => ?_, p.ex.keep, p.ex.old, fun a ha => p.ex.new a (List.mem_of_mem_take ha), p.ex.newN, p.ex.tabs, p.ex.newT, p.ex.old2, p.ex.tc⟩, ⟨?_, ?_, fun k m a hm ha => ?_, p.mc.old, fun a ha => p.mc.oldA a (List.mem_of_mem_take ha), p.mc.tab, fun a ha => ⟨(p.mc.tabN a ha).1, fun z => (p.mc.tabN a ha).2 (List.mem_of_mem_take z)⟩, p.mc.tab0, fun a f z => XdAt.cut (w := w1) (w' := w1.cut μ.length) (fun _ z => z) (fun _ _ => rfl) (p.mc.xd0 a f z)⟩, ⟨?_, fun n hn l k m hk e => ?_⟩⟩,
    fun hd fr => Fr.cut (w := w1) (w' := w1.cut μ.length) (n := μ.length) (fun _ z => z) (fun _ _ => rfl) hA hd fr, fun hd fr => Frs.cut (w := w1) (w' := w1.cut μ.length) (n := μ.length) (fun _ z => z) (fun _ _ => rfl) hA hd fr⟩
  · refine hA k a ?_ (p.ex.pre k a e)
    rw [← c.len]
    exact (List.getElem?_eq_some_iff.mp e).1
  · show (w1.A.take μ.length).length = (μ1.take μ.length).length
    rw [List.length_take, List.length_take, hl]
  · exact p.mc.nd.sublist (List.take_sublist _ _)
  · have hk : k < μ.length := by
      have := (List.getElem?_eq_some_iff.mp hm).1
      rw [List.length_take] at this
      omega
    rw [List.getElem?_take, if_pos hk] at hm
    have ha : (w1.A.take μ.length)[k]? = some a := ha
    rw [List.getElem?_take, if_pos hk] at ha
    obtain ⟨r, n⟩ := p.mc.cell k m a hm ha
    exact ⟨Mr.cut (w := w1) (w' := w1.cut μ.length) (n := μ.length) (fun _ z => z) (fun _ _ => rfl) hA rfl (lo k m hk hm) r, n⟩
  · rw [List.length_take]; omega
  · have hk2 : k < μ.length := by omega
    rw [List.getElem?_take, if_pos hk2] at e
    exact p.kp.lo n hn l k m hk e
theorem leave_ok {w w1 : Hw} {μ μ1 : Mu} {d : D} {v : V} {r : Rs D} (c : Mc G w μ) (p : Post G μ.length w μ w1 μ1) (fr : Fr G.K w1 d v) (e : leave μ.length d μ1 = some r) :
    ∃ d' μ' w', r = .ok d' μ' ∧ w'.H = w1.H ∧ Post G μ.length w μ w' μ' ∧ Fr G.K w' d' v := by
  obtain ⟨pc, fc, fcs⟩ := cut_ok c p
  have gen : ∀ {d : D}, Fr G.K w1 d v → (if d.low μ.length then some (Rs.ok d (μ1.take μ.length)) else none) = some r → ∃ d' μ' w', r = .ok d' μ' ∧ w'.H = w1.H ∧ Post G μ.length w μ w' μ' ∧ Fr G.K w' d' v := fun {d} fr e => by
    split at e <;> rename_i hd <;> cases e
    exact ⟨d, _, w1.cut μ.length, rfl, rfl, pc, fc hd fr⟩
  cases d with
  | cell k =>
    simp only [leave] at e
    split at e
    · rename_i hk
      exact gen fr (by rw [show (D.cell k).low μ.length = true by simpa [D.low] using hk]; simpa using e)
    · rename_i hk
      split at e <;> try cases e
      rename_i m hm
      split at e <;> rename_i hl <;> cases e
      -- one new cell comes along
      obtain ⟨a, rfl, ha⟩ := fr
      obtain ⟨q, nN⟩ := p.mc.cell k m a hm ha
      have na : a ∉ (w1.cut μ.length).A := fun hm2 => by
        have hm2 : a ∈ w1.A.take μ.length := hm2
        obtain ⟨j, hj, ej⟩ := List.getElem_of_mem hm2
        have hj2 : j < μ.length := by rw [List.length_take] at hj; omega
        have e2 : (w1.A.take μ.length)[j]? = some a := by rw [List.getElem?_eq_getElem hj, ej]
        rw [List.getElem?_take, if_pos hj2] at e2
        have := nodup_get p.mc.nd e2 ha
        omega
      obtain ⟨o, ho⟩ := p.mc.oldA a (List.mem_of_getElem? ha)
      have q2 : Mr G (w1.cut μ.length) a m := Mr.cut (w := w1) (w' := w1.cut μ.length) (n := μ.length) (fun _ z => z) (fun _ _ => rfl) (fun k a hk e => by
        show (w1.A.take μ.length)[k]? = some a
        rw [List.getElem?_take, if_pos hk]
        exact e) rfl hl q
      have hid : Hid (w1.cut μ.length) a o := ⟨ho, na, nN, fun z => (p.mc.tabN a z).2 (List.mem_of_getElem? ha)⟩
      have hnew : w.H a = none := by
        rcases p.ex.new a (List.mem_of_getElem? ha) with z | z
        · obtain ⟨j, hj, ej⟩ := List.getElem_of_mem z
          have e2 : w.A[j]? = some a := by rw [List.getElem?_eq_getElem hj, ej]
          have := nodup_get p.mc.nd (p.ex.pre _ _ e2) ha
          rw [c.len] at hj
          omega
        · exact z
      have hle := p.kp.len
      have hlen : (μ1.take μ.length).length = μ.length := by rw [List.length_take]; omega
      obtain ⟨x3, c3, l3⟩ := Hid.cel (m := m) hnew pc.ex hid pc.mc q2
      exact ⟨.cell μ.length, _, (w1.cut μ.length).cel a, rfl, rfl, ⟨x3, c3, pc.kp.trans (.push (by rw [hlen]; exact Nat.le_refl _) _)⟩, a, rfl, by rw [hlen] at l3; exact l3⟩
  | non => exact gen fr (by simpa [leave] using e)
  | bl b => exact gen fr (by simpa [leave] using e)
  | int b => exact gen fr (by simpa [leave] using e)
  | str b => exact gen fr (by simpa [leave] using e)
  | tup b => exact gen fr (by simpa [leave] using e)
  | lst b => exact gen fr (by simpa [leave] using e)
  | scr b => exact gen fr (by simpa [leave] using e)
  | exn b => exact gen fr (by simpa [leave] using e)
theorem start_vr {K : PySem.W.Frag} {w : Hw} {N : List Str} {ds : List D} {vs : List V} (r : Frs K w ds vs) (hl : ds.length ≤ N.length) : Vr K w (ds.map some ++ List.replicate (N.length - ds.length) none) (L2.start N vs) := by
  have hv := r.length
  refine ⟨by simp [L2.start, hv], fun i d e => ?_⟩
  by_cases hi : i < ds.length
  · rw [List.getElem?_append_left (by simpa using hi), List.getElem?_map] at e
    cases q : ds[i]? with
    | none => rw [q] at e; cases e
    | some d' =>
      rw [q] at e
      cases e
      obtain ⟨v, hv2, fr⟩ := r.get q
      refine ⟨v, ?_, fr⟩
      unfold L2.start
      rw [List.getElem?_append_left (by rw [List.length_map, hv]; exact hi), List.getElem?_map, hv2]
      rfl
  · rw [List.getElem?_append_right (by simpa using hi)] at e
    rw [List.getElem?_replicate] at e
    split at e <;> cases e
/-- the reading of a def's body gives its promise -/
theorem def_reads {N : List Str} {n : Nat} {body : Nat → Sv} {t : TS} {vs : List V} {H : Hp} {Q : VK} {E : XK} (h : ∀ n0, DS G n0 (fun cls dx _ H => E cls dx H) t (body n0)) (hN : n ≤ N.length) (sp : spD G n (runD N.length body) vs H Q E) :
    t { nx := fun _ H' => Q .non H', rt := Q } (L2.start N vs) H := by
  obtain ⟨w, μ, ds, r, rfl, c, fr, hn, e, k⟩ := sp
  unfold runD at e
  have vr := start_vr (N := N) fr (by omega)
  split at e
  · rename_i ρ' μ' h1
    refine h μ.length w _ μ _ c vr (Nat.le_refl _) _ h1 _ fun w1 σ1 p1 v1 => ?_
    obtain ⟨d', μ2, w2, rfl, hH, p2, f2⟩ := leave_ok (d := .non) (v := .non) c p1 rfl e
    show Q .non w1.H
    rw [← hH]
    exact k w2 .non p2 f2
  · rename_i d μ' h1
    refine h μ.length w _ μ _ c vr (Nat.le_refl _) _ h1 _ fun w1 v p1 r1 => ?_
    obtain ⟨d', μ2, w2, rfl, hH, p2, f2⟩ := leave_ok c p1 r1 e
    show Q v w1.H
    rw [← hH]
    exact k w2 v p2 f2
  · rename_i x ρ' μ' h1
    split at e <;> rename_i hx <;> cases e
    refine h μ.length w _ μ _ c vr (Nat.le_refl _) _ h1 _ fun w1 σ1 cls dx p1 v1 x1 => ?_
    obtain ⟨pc, fc, fcs⟩ := cut_ok c p1
    have := k (w1.cut μ.length) cls dx pc ⟨x1.1, by
      have x2 := x1.2
      split
      · rename_i he
        rw [he] at x2
        exact x2
      · rename_i fs hne
        split at x2
        · rename_i he; exact absurd he hne
        · obtain ⟨a, fs', e1, e2, e3, e4, e5⟩ := x2
          exact ⟨a, fs', e1, e2, e3, e4, fcs hx e5⟩⟩
    exact this
  · cases e
theorem spD_len {n : Nat} {m : Fd} {vs : List V} {H : Hp} {Q : VK} {E : XK} (h : spD G n m vs H Q E) : vs.length = n := by
  obtain ⟨w, μ, ds, r, _, _, fr, hn, _⟩ := h
  rw [fr.length, hn]
end
section
variable {G : Gx} {n0 : Nat} {W : WX}
/-- a call that raises nothing -/
def eCall (m : Fd) (f : Ev (List D)) : Ev D := fun ρ μ => (f ρ μ).bnd fun ds μ1 => match m ds μ1 with
  | some (.ok d μ2) => some (.ok d μ2)
  | _ => none
theorem de_call {n : Nat} {m : Fd} {t : TA} {f : Ev (List D)} (h : DA G n0 W t f) (hn : ∀ ρ μ ds μ1, f ρ μ = some (.ok ds μ1) → ds.length = n) : DE G n0 W (tCall (spD G n m) [] E0 t) (eCall m f) := by
  intro w ρ μ σ c vr hn0 r e Q fin
  rcases Ro.bnd_some e with ⟨ds, μ1, e1, e2⟩ | ⟨x, μ1, e1, e2⟩
  · refine h w ρ μ σ c vr hn0 _ e1 _ fun w1 vs p r1 => ?_
    split at e2 <;> cases e2
    rename_i d μ2 h2
    refine ⟨w1, μ1, ds, _, rfl, p.mc, by rw [List.append_nil]; exact r1, hn ρ μ ds μ1 e1, h2, fun w2 v p2 r2 => ?_⟩
    exact fin w2 v (p.trans ⟨p2.ex, p2.mc, p2.kp.mono (p.nn hn0)⟩) r2
  · subst e2
    exact h w ρ μ σ c vr hn0 _ e1 _ fun w1 cls dx p x => fin w1 cls dx p x
/-- a call that may raise -/
def eCallX (m : Fd) (f : Ev (List D)) : Ev D := fun ρ μ => (f ρ μ).bnd m
theorem de_callX {n : Nat} {m : Fd} {t : TA} {f : Ev (List D)} (h : DA G n0 W t f) (hn : ∀ ρ μ ds μ1, f ρ μ = some (.ok ds μ1) → ds.length = n) : DE G n0 W (tCallSD (spD G n m) [] (fun σ cls dx H => W cls dx σ H) t) (eCallX m f) := by
  intro w ρ μ σ c vr hn0 r e Q fin
  rcases Ro.bnd_some e with ⟨ds, μ1, e1, e2⟩ | ⟨x, μ1, e1, e2⟩
  · refine h w ρ μ σ c vr hn0 _ e1 _ fun w1 vs p r1 => ?_
    refine ⟨w1, μ1, ds, r, rfl, p.mc, by rw [List.append_nil]; exact r1, hn ρ μ ds μ1 e1, e2, ?_⟩
    cases r with
    | ok d μ2 => exact fun w2 v p2 r2 => fin w2 v (p.trans ⟨p2.ex, p2.mc, p2.kp.mono (p.nn hn0)⟩) r2
    | exc x μ2 => exact fun w2 cls dx p2 x2 => fin w2 cls dx (p.trans ⟨p2.ex, p2.mc, p2.kp.mono (p.nn hn0)⟩) x2
  · subst e2
    exact h w ρ μ σ c vr hn0 _ e1 _ fun w1 cls dx p x => fin w1 cls dx p x
/-- how many arguments there are -/
def ArgN (n : Nat) (f : Ev (List D)) : Prop := ∀ ρ μ ds μ1, f ρ μ = some (.ok ds μ1) → ds.length = n
theorem argN_nil : ArgN 0 aNil := fun ρ μ ds μ1 e => by cases e; rfl
theorem argN_cons {n : Nat} {f : Ev D} {g : Ev (List D)} (h : ArgN n g) : ArgN (n + 1) (aCons f g) := fun ρ μ ds μ1 e => by
  rcases Ro.bnd_some e with ⟨d, μ2, _, e2⟩ | ⟨x, μ2, _, e2⟩
  · rcases Ro.bnd_some e2 with ⟨es, μ3, e3, e4⟩ | ⟨x, μ3, _, e4⟩
    · cases e4
      rw [List.length_cons, h _ _ _ _ e3]
    · cases e4
  · cases e2
end

/-! ### a def stands, with its meaning -/
/-- the def x of n arguments means m; calls of it raise nothing -/
structure Df (P : Program) (w : World) (K : PySem.W.Frag) (mg : Str → Option Value) (base : Heap) (C : Ct) (k : Nat) (x : Str) (n : Nat) (m : Fd) : Prop where
  ex : ∃ (f : Addr) (fd : FuncData) (ps : List Str), FnOk P w K mg base CX0 k f fd ps (spD ⟨K, C⟩ n m) ∧ mg x = some (.ref f) ∧ PySem.W.keepIn K (.ref f) = true ∧ Binds K fd ps []
theorem Df.mono {P : Program} {w : World} {K : PySem.W.Frag} {mg : Str → Option Value} {base : Heap} {C : Ct} {k j : Nat} {x : Str} {n : Nat} {m : Fd} (h : Df P w K mg base C k x n m) (hj : k ≤ j) : Df P w K mg base C j x n m := by
  obtain ⟨f, fd, ps, F, a, b, c⟩ := h.ex
  exact ⟨f, fd, ps, F.mono hj, a, b, c⟩
section
variable {P : Program} {w : World} {K : PySem.W.Frag} {mg : Str → Option Value} {base : Heap} {C : Ct}
/-- from the body's derivation -/
theorem df_mk {x : Str} {st : Stmt} {f : Addr} {fd : FuncData} {N ps : List Str} {k : Nat} {n : Nat} {body : Nat → Sv} (F : Fun K x x st f fd) (S : FnScope N ps (defScope st)) (hn : ps.length = n) (hN : n ≤ N.length) (hm : mg x = some (.ref f))
    (b : Binds K fd ps []) (h : ∀ (X : Cx) (A : Around) (s : Shared) (H : Hp) (E : XK) (outer : List PySem.Env) (cdv : Value), X = (cxOf CX0 P w K mg base N x (defScope st) f cdv A outer s H E).nox → Room k X.A →
      ∃ t, PSs X (defBody st) t ∧ ∀ n0, DS ⟨K, C⟩ n0 (fun cls dx _ H => E cls dx H) t (body n0)) : Df P w K mg base C (k + 1) x n (runD N.length body) := by
  refine ⟨f, fd, ps, F.ok S (fun vs H Q E q => by rw [spD_len q, hn]) (fun cdv A outer s H vs Q E hr q => ?_), hm, F.kp, b⟩
  obtain ⟨t, h1, h2⟩ := h _ A s H E outer cdv rfl hr
  exact ⟨t, h1, def_reads h2 hN q⟩
end
end G4

/-! G11: walks of lists or tuples, truth, slices, more operators, the law's end. -/
namespace G4
open PySem PySem.Spec PyProof.Rows L2
section
variable {X : Cx} {tg : Expr}
def iAny (K : PySem.W.Frag) (tl : TE) : TI := fun σ H R => tl σ H fun x H1 => ∃ a, x = .ref a ∧ (((∃ xs, SqL K H1 a xs) ∧ R (Itl K a) H1) ∨ ((∃ xs, SqT K H1 a xs) ∧ R (Itt K a) H1))
theorem pi_any {l : Expr} {tl : TE} (hl : PE X l tl) : PI X tg l (iAny X.K tl) := by
  refine ⟨fun pins s σ H R I h => ?_⟩
  refine thn (hl.run pins s σ H _ I h) fun v s1 ⟨x, H1, I1, r1, q1⟩ => ?_
  obtain ⟨a, e, q | q⟩ := q1
  · obtain ⟨⟨xs, hq⟩, q⟩ := q
    subst e
    cases r1
    obtain ⟨its, rv, p, hz⟩ := I1.list hq
    refine wpAny_pyIter_list p.isList ?_
    refine ⟨s1.heap.objs.size, [s1.heap.objs.size], _, _, H1, rfl, I1.kept (t' := s1.toks) fun b o e => Heap.get?_push_of_some _ e, turn_list a _, ⟨_, Heap.get?_push_size _ rfl, rfl, rfl⟩, fun b hb => ?_, q⟩
    have e : b = s1.heap.objs.size := by simpa using hb
    subst e
    exact I1.fpOk (Nat.le_refl _) (I1.hok.fresh (Nat.le_refl _))
  · obtain ⟨⟨xs, hq⟩, q⟩ := q
    subst e
    cases r1
    obtain ⟨its, rv, p, hz⟩ := I1.tuple hq
    refine wpAny_pyIter_tuple (show s1.heap.IsTuple a its.toArray from p) ?_
    refine ⟨s1.heap.objs.size, [s1.heap.objs.size], _, _, H1, rfl, I1.kept (t' := s1.toks) fun b o e => Heap.get?_push_of_some _ e, turn_tuple a _, ⟨_, Heap.get?_push_size _ rfl, rfl, rfl⟩, fun b hb => ?_, q⟩
    have e : b = s1.heap.objs.size := by simpa using hb
    subst e
    exact I1.fpOk (Nat.le_refl _) (I1.hok.fresh (Nat.le_refl _))
end
section
variable {G : Gx} {n0 : Nat} {W : WX}
def srcOf (μ : Mu) : D → Option Src
  | .lst ds => some (.its ds)
  | .scr ds => some (.its ds)
  | .tup ds => some (.its ds)
  | .cell k => match viewL μ (.cell k) with
    | some _ => some (.cel k)
    | none => none
  | _ => none
def iAnyD (f : Ev D) : Ev Src := fun ρ μ => (f ρ μ).bnd fun d μ1 => match srcOf μ1 d with
  | some s => some (.ok s μ1)
  | none => none
theorem di_any {t : TE} {f : Ev D} (h : DE G n0 W t f) : DI G n0 W (iAny G.K t) (iAnyD f) := by
  refine di_bnd (ti := fun x σ H1 R => ∃ a, x = .ref a ∧ (((∃ xs, SqL G.K H1 a xs) ∧ R (Itl G.K a) H1) ∨ ((∃ xs, SqT G.K H1 a xs) ∧ R (Itt G.K a) H1))) h (fun w μ σ d v c hn fr src μ' e => ?_) fun d μ x μ' e => ?_
  · split at e <;> cases e
    rename_i hs
    refine ⟨rfl, fun R q => ?_⟩
    cases d <;> simp only [srcOf] at hs <;> try cases hs
    · rename_i ds
      obtain ⟨a, vs, rfl, n, hH, r⟩ := fr
      refine ⟨a, rfl, .inr ⟨⟨vs, .of hH⟩, q _ fun w' μ' x c' ds' e' i => ?_⟩⟩
      cases e'
      have s : SqT G.K w'.H a vs := .of ((x.keep _ n).trans hH)
      refine ⟨fun d hd => ?_, fun hl => ⟨vs, s, by rw [r.length]; exact hl⟩⟩
      obtain ⟨v, hv, fr⟩ := r.get hd
      refine ⟨⟨vs, v, s, hv⟩, fun y H' q => ?_⟩
      obtain ⟨e1, q⟩ := q
      have := q vs s
      rw [hv] at this
      cases this
      exact ⟨w', e1.symm, .refl w', c', fr.mono0 x⟩
    · rename_i ds
      obtain ⟨a, vs, rfl, n, hH, r⟩ := fr
      refine ⟨a, rfl, .inl ⟨⟨vs, .of hH⟩, q _ (yl_list fun w' μ' x c' ds' e' => ?_)⟩⟩
      cases e'
      exact ⟨vs, .of ((x.keep _ n).trans hH), r.mono0 x⟩
    · rename_i ds
      obtain ⟨a, vs, rfl, hs, r⟩ := fr
      refine ⟨a, rfl, .inl ⟨⟨vs, hs.sq⟩, q _ (yl_list fun w' μ' x c' ds' e' => ?_)⟩⟩
      cases e'
      exact ⟨vs, (hs.mono0 x).sq, r.mono0 x⟩
    · rename_i k
      split at hs <;> cases hs
      rename_i xs hx
      obtain ⟨a, vs, e1, s, r⟩ := view_L c fr hx
      obtain ⟨b, e2, hb⟩ := fr
      rw [e1] at e2
      cases e2
      refine ⟨a, e1, .inl ⟨⟨vs, s⟩, q _ (yl_list fun w' μ' x c' ds' e' => ?_)⟩⟩
      obtain ⟨b, vs', e3, s', r'⟩ := view_L (d := .cell k) (v := .ref a) c' ⟨a, rfl, x.pre _ _ hb⟩ e'
      cases e3
      exact ⟨vs', s', r'⟩
  · split at e <;> cases e

/-! ### tests -/
theorem dt_test {t : TE} {f : Ev D} (h : DE G n0 W t f) : DT G n0 W (tTest t) (eTest f) := dt_val h
/-- a value's truth -/
def truth (μ : Mu) (d : D) : Option Bool := match d with
  | .non => some false
  | .bl b => some b
  | .int i => some (i != 0)
  | .str x => if small x.length then some ((x.length : Int) != 0) else none
  | d => match viewS μ d with
    | some xs => some (!xs.isEmpty)
    | none => none
def eTru (f : Ev D) : Ev Bool := fun ρ μ => (f ρ μ).bnd fun d μ1 => match truth μ1 d with
  | some b => some (.ok b μ1)
  | none => none
theorem isEmpty_rel {K : PySem.W.Frag} {w : Hw} {xs : List D} {vs : List V} (r : Frs K w xs vs) : vs.isEmpty = xs.isEmpty := by
  have := r.length
  cases xs <;> cases vs <;> simp at this <;> rfl
theorem dt_tru {t : TE} {f : Ev D} (h : DE G n0 W t f) : DT G n0 W (fun σ H Q => t σ H fun x H' => ∃ k, TruV G.K x H' k ∧ Q k H') (eTru f) := by
  intro w ρ μ σ c vr hn
  refine (h w ρ μ σ c vr hn).bnd (uu := fun x H' Q => ∃ k, TruV G.K x H' k ∧ Q k H') fun w1 μ1 d x p r => ?_
  intro q e Q fin
  split at e <;> cases e
  rename_i b hb
  refine ⟨b, ?_, fin w1 b (.refl p.mc) rfl⟩
  unfold truth at hb
  split at hb
  · cases hb; cases r; rfl
  · cases hb; cases r; rfl
  · cases hb; cases r; rfl
  · split at hb <;> rename_i hs <;> cases hb
    cases r
    exact ⟨small_ok hs, rfl⟩
  · split at hb <;> cases hb
    rename_i xs hx
    obtain ⟨a, vs, rfl, s, rs⟩ := view_S p.mc r hx
    rcases s with s | s
    · exact .inl ⟨vs, s, by rw [isEmpty_rel rs]⟩
    · exact .inr (.inl ⟨vs, s, by rw [isEmpty_rel rs]⟩)

/-! ### more operators -/
def oNeg : D → Mu → Ro D
  | .int i, μ => some (.ok (.int (-i)) μ)
  | _, _ => none
theorem dr_neg : DR1 G n0 W (rU fun i => .int (-i)) oNeg := by
  intro w μ σ a x c hn ra r e Q f
  cases a <;> simp only [oNeg] at e <;> cases e
  have e1 : x = .int _ := ra
  subst e1
  exact ⟨_, rfl, f w _ (.refl c) rfl⟩
/-- [x] * n -/
def repD (xs : List D) (n : Nat) : List D := (List.replicate n xs).flatten
theorem rep_rel {K : PySem.W.Frag} {w : Hw} {xs : List D} {vs : List V} (r : Frs K w xs vs) : ∀ n, Frs K w (repD xs n) (List.replicate n vs).flatten
  | 0 => rfl
  | n + 1 => by
    unfold repD
    rw [List.replicate_succ, List.replicate_succ, List.flatten_cons, List.flatten_cons]
    exact r.append (rep_rel r n)
def repL (mk : List D → Mu → Ro D) (a b : D) (μ : Mu) : Ro D := match viewK μ a, b with
  | some xs, .int k => if decide (-(2 ^ 63) ≤ k) && decide (k < 2 ^ 63) && small (xs.length * k.toNat) then mk (repD xs k.toNat) μ else none
  | _, _ => none
abbrev oRep := repL newL
abbrev oRepC := repL newC
theorem rep_parts {a b : D} {x y : V} {w : Hw} {μ : Mu} {q : Rs D} {mk : List D → Mu → Ro D} (c : Mc G w μ) (ra : Fr G.K w a x) (rb : Fr G.K w b y) (e : repL mk a b μ = some q) :
    ∃ l vs xs k, x = .ref l ∧ y = .int k ∧ w.H l = some (.lst vs) ∧ -(2 ^ 63) ≤ k ∧ k < 2 ^ 63 ∧ vs.length * k.toNat ≤ sizeLine ∧ Frs G.K w (repD xs k.toNat) (List.replicate k.toNat vs).flatten ∧ mk (repD xs k.toNat) μ = some q := by
  unfold repL at e
  split at e
  · rename_i xs k h1
    split at e <;> rename_i hs <;> try cases e
    simp only [Bool.and_eq_true, decide_eq_true_eq] at hs
    obtain ⟨l, vs, rfl, hl, rs⟩ := view_K c ra h1
    have rb : y = .int k := rb
    exact ⟨l, vs, xs, k, rfl, rb, hl, hs.1.1, hs.1.2, by rw [rs.length]; exact small_ok hs.2, rep_rel rs _, e⟩
  · cases e
theorem dr_rep : DR2 G n0 W rRep oRep := by
  intro w μ σ a x b y c hn ra rb q e Q f
  obtain ⟨l, vs, xs, k, rfl, rfl, hl, h1, h2, h3, h4, h5⟩ := rep_parts c ra rb e
  obtain ⟨_, h6⟩ := at_newL (σ := σ) c h4 q h5 Q f
  exact ⟨l, k, vs, rfl, rfl, hl, h1, h2, h3, h6⟩
theorem dr_repC : DR2 G n0 W rRep oRepC := by
  intro w μ σ a x b y c hn ra rb q e Q f
  obtain ⟨l, vs, xs, k, rfl, rfl, hl, h1, h2, h3, h4, h5⟩ := rep_parts c ra rb e
  obtain ⟨_, h6⟩ := at_newC (σ := σ) c hn h4 q h5 Q f
  exact ⟨l, k, vs, rfl, rfl, hl, h1, h2, h3, h6⟩
end

/-! ### the law's end -/
section
variable {P : Program} {w : World} {K : PySem.W.Frag} {mg : Str → Option Value} {base : Heap} {C : Ct}
theorem hu65 {k : Nat} {A : Around} (r : Room k A) : A.units + 65 < cLine := by have := r.un; omega
/-- the law's promise -/
def spLaw (K : PySem.W.Frag) (T : Addr → Prop) : Sp := fun vs H Q _ => ∃ (a : Addr) (ns : List Int), vs = [.ref a] ∧ SqL K H a (ns.map V.int) ∧ ns.length ≤ 63 ∧ (∀ P, T P → H P = some (.tbl #[])) ∧ ∀ H', Q (.bl true) H'
theorem frs_ints {K : PySem.W.Frag} {w : Hw} : ∀ ns : List Int, Frs K w (ns.map D.int) (ns.map V.int)
  | [] => rfl
  | n :: ns => ⟨.int n, _, rfl, rfl, frs_ints ns⟩
theorem law_sp {m : Fd} (h : ∀ ns : List Int, ns.length ≤ 63 → ∃ μ, m [.scr (ns.map D.int)] [] = some (.ok (.bl true) μ)) {vs : List V} {H : Hp} {Q : VK} {E : XK} (q : spLaw K C.tabs vs H Q E) (hx : ∀ dd fs, C.xds dd fs → False) (hcd : ∀ c P, C.cods c P → False := by intro _ _ z; exact z) : spD ⟨K, C⟩ 1 m vs H Q E := by
  obtain ⟨a, ns, rfl, hs, hl, hT, k⟩ := q
  obtain ⟨μ, hm⟩ := h ns hl
  refine ⟨⟨fun b => b = a ∧ Rd H a (.lst (ns.map V.int)), [], H, C.tabs⟩, [], [.scr (ns.map D.int)], .ok (.bl true) μ, rfl, ?_, ⟨.ref a, [], rfl, ⟨a, ns.map V.int, rfl, ?_, frs_ints ns⟩, rfl⟩, rfl, hm, fun w' v p r => ?_⟩
  · refine ⟨rfl, List.nodup_nil, fun k m a e => by simp at e, fun b hb => ?_, fun a h => (by cases h), fun P hP => .inr ⟨#[], hT P hP, trivial, fun pos cv hc => by simp [codeAmong] at hc⟩, fun P hP => ⟨fun hb => ?_, by simp⟩, ⟨fun P hP => ⟨hP, _, hT P hP⟩, fun c P z => (hcd c P z).elim⟩, fun a f z => (hx a f z).elim⟩
    · obtain ⟨rfl, hb | ⟨o, hb⟩⟩ := hb
      · exact ⟨_, hb⟩
      · exact ⟨_, hb⟩
    · obtain ⟨rfl, hb | ⟨o, hb⟩⟩ := hb
      · rw [hT _ hP] at hb; cases hb
      · rw [hT _ hP] at hb; cases hb
  · rcases hs with hs | hs
    · exact .inl ⟨⟨rfl, hs⟩, hs⟩
    · exact .inr hs
  · have r : v = .bl true := r
    subst r
    exact k _
end
end G4

/-! G12: names for the printed derivations. -/
namespace G4
open PySem PySem.Spec PyProof.Rows L2
abbrev rAddI : R2 := rI0 fun i j => .int (i + j)
abbrev rSubI : R2 := rI0 fun i j => .int (i - j)
abbrev rMulI : R2 := rI CMul fun i j => .int (i * j)
abbrev rDivI : R2 := rI CDiv fun i j => .int (i / j)
abbrev rModI : R2 := rI (fun _ j => 0 < j) fun i j => .int (i % j)
abbrev rPowI : R2 := rI CPow fun i j => .int (i ^ j.toNat)
abbrev rLtI : R2 := rI0 fun i j => .bl (decide (i < j))
abbrev rLeI : R2 := rI0 fun i j => .bl (decide (i ≤ j))
abbrev rGtI : R2 := rI0 fun i j => .bl (decide (j < i))
abbrev rGeI : R2 := rI0 fun i j => .bl (decide (j ≤ i))
abbrev rIsN' : R2 := fun x y H Q => y = .non ∧ Q (.bl (decide (x = .non))) H
abbrev rNotN' : R2 := fun x y H Q => y = .non ∧ Q (.bl (!decide (x = .non))) H
abbrev rInt1 : List V → Hp → VK → Prop := fun xs H Q => (∃ i, xs = [.int i] ∧ Q (.int i) H) ∨ ∃ k, xs = [.bl k] ∧ Q (.int (if k then 1 else 0)) H
abbrev rMax2 : List V → Hp → VK → Prop := fun xs H Q => ∃ i j, xs = [.int i, .int j] ∧ Q (.int (if j > i then j else i)) H
abbrev rMin2 : List V → Hp → VK → Prop := fun xs H Q => ∃ i j, xs = [.int i, .int j] ∧ Q (.int (if j < i then j else i)) H
abbrev rTuple (K : PySem.W.Frag) : List V → Hp → VK → Prop := fun xs H Q => ∃ p ys, xs = [.ref p] ∧ ((SqL K H p ys ∧ ∀ l, H l = none → Q (.ref l) (upd H l (.tup ys))) ∨ (SqT K H p ys ∧ Q (.ref p) H))
abbrev tTru (K : PySem.W.Frag) (t : TE) : TT := fun σ H Q => t σ H fun x H' => ∃ k, TruV K x H' k ∧ Q k H'
/-- a def of the text as it stands behind the top -/
structure DefAt (K : PySem.W.Frag) (mg : Str → Option Value) (x : Str) (st : Stmt) (ps : List Str) : Prop where
  ex : ∃ (f : Addr) (fd : FuncData), Fun K x x st f fd ∧ mg x = some (.ref f) ∧ Binds K fd ps []
section
variable {P : Program} {w : World} {K : PySem.W.Frag} {mg : Str → Option Value} {base : Heap} {C : Ct}
theorem df_of {x : Str} {st : Stmt} {N ps : List Str} {k n : Nat} {body : Nat → Sv} (T : DefAt K mg x st ps) (S : FnScope N ps (defScope st)) (hn : ps.length = n) (hN : n ≤ N.length)
    (h : ∀ (X : Cx) (f : Addr) (A : Around) (s : Shared) (H : Hp) (E : XK) (outer : List PySem.Env) (cdv : Value), X = (cxOf CX0 P w K mg base N x (defScope st) f cdv A outer s H E).nox → Room k X.A →
      ∃ t, PSs X (defBody st) t ∧ ∀ n0, DS ⟨K, C⟩ n0 (fun cls dx _ H => E cls dx H) t (body n0)) : Df P w K mg base C (k + 1) x n (runD N.length body) := by
  obtain ⟨f, fd, F, hm, b⟩ := T.ex
  exact df_mk F S hn hN hm b fun X A s H E outer cdv => h X f A s H E outer cdv
theorem fnD_of {x : Str} {st : Stmt} {f : Addr} {fd : FuncData} {N ps : List Str} {k n : Nat} {body : Nat → Sv} (F : Fun K x x st f fd) (S : FnScope N ps (defScope st)) (hn : ps.length = n) (hN : n ≤ N.length)
    (h : ∀ (X : Cx) (A : Around) (s : Shared) (H : Hp) (E : XK) (outer : List PySem.Env) (cdv : Value), X = (cxOf CX0 P w K mg base N x (defScope st) f cdv A outer s H E).nox → Room k X.A →
      ∃ t, PSs X (defBody st) t ∧ ∀ n0, DS ⟨K, C⟩ n0 (fun cls dx _ H => E cls dx H) t (body n0)) : FnOk P w K mg base CX0 (k + 1) f fd ps (spD ⟨K, C⟩ n (runD N.length body)) := by
  refine F.ok S (fun vs H Q E q => by rw [spD_len q, hn]) (fun cdv A outer s H vs Q E hr q => ?_)
  obtain ⟨t, h1, h2⟩ := h _ A s H E outer cdv rfl hr
  exact ⟨t, h1, def_reads h2 hN q⟩
end
end G4

/-! G13: the meanings run step by step by simp: applied forms, no binders. -/
namespace G4
open PySem L2
variable {α β : Type} {ρ : Env} {μ μ1 : Mu}
@[simp] theorem bnd_ok (a : α) (g : α → Mu → Ro β) : Ro.bnd (some (.ok a μ)) g = g a μ := rfl
@[simp] theorem thn_ok (a : α) (k : α → Mu → Option Fl) : Ro.thn (some (.ok a μ)) ρ k = k a μ := rfl
@[simp] theorem eVar_ap (i : Nat) : eVar i ρ μ = match ρ[i]? with
  | some (some d) => some (.ok d μ)
  | _ => none := rfl
@[simp] theorem eC_ap (d : D) : eC d ρ μ = some (.ok d μ) := rfl
def op2' (op : D → D → Mu → Ro D) (a : D) (r : Ro D) : Ro D := r.bnd fun b μ' => op a b μ'
def op2 (op : D → D → Mu → Ro D) (r : Ro D) (k : Mu → Ro D) : Ro D := r.bnd fun a μ => op2' op a (k μ)
@[simp] theorem eOp_ap (op : D → D → Mu → Ro D) (f g : Ev D) : eOp op f g ρ μ = op2 op (f ρ μ) (g ρ) := rfl
@[simp] theorem op2_ok (op : D → D → Mu → Ro D) (a : D) (k : Mu → Ro D) : op2 op (some (.ok a μ)) k = op2' op a (k μ) := rfl
@[simp] theorem op2'_ok (op : D → D → Mu → Ro D) (a b : D) : op2' op a (some (.ok b μ)) = op a b μ := rfl
def op1 (op : D → Mu → Ro D) (r : Ro D) : Ro D := r.bnd op
@[simp] theorem eUn_ap (op : D → Mu → Ro D) (f : Ev D) : eUn op f ρ μ = op1 op (f ρ μ) := rfl
@[simp] theorem op1_ok (op : D → Mu → Ro D) (a : D) : op1 op (some (.ok a μ)) = op a μ := rfl
/-! operators -/
@[simp] theorem oAdd_ap (i j : Int) : oAdd (.int i) (.int j) μ = some (.ok (.int (i + j)) μ) := rfl
@[simp] theorem oSub_ap (i j : Int) : oSub (.int i) (.int j) μ = some (.ok (.int (i - j)) μ) := rfl
@[simp] theorem oMul_ap {i j : Int} (h : cMul i j = true) : oMul (.int i) (.int j) μ = some (.ok (.int (i * j)) μ) := by simp [dInt2C, h]
@[simp] theorem oDiv_ap {i j : Int} (h : cDiv i j = true) : oDiv (.int i) (.int j) μ = some (.ok (.int (i / j)) μ) := by simp [dInt2C, h]
@[simp] theorem oMod_ap {i j : Int} (h : 0 < j) : oMod (.int i) (.int j) μ = some (.ok (.int (i % j)) μ) := by simp [dInt2C, h]
@[simp] theorem oPow_ap {i j : Int} (h : cPow i j = true) : oPow (.int i) (.int j) μ = some (.ok (.int (i ^ j.toNat)) μ) := by simp [dInt2C, h]
theorem cMul_l {i j : Int} (h0 : -18446744073709551616 < i) (h1 : i < 18446744073709551616) : cMul i j = true := cdec_iff.mpr (.inl ⟨h0, h1⟩)
theorem cMul_r {i j : Int} (h0 : -18446744073709551616 < j) (h1 : j < 18446744073709551616) : cMul i j = true := cdec_iff.mpr (.inr ⟨h0, h1⟩)
theorem cDiv_of {i j : Int} (h0 : 0 < j) (h1 : j < 1073741824) : cDiv i j = true := cdec_iff.mpr ⟨h0, h1⟩
theorem cPow_18 : cPow 10 18 = true := cdec_iff.mpr ⟨by decide, by decide, by decide⟩
@[simp] theorem oLt_ap (i j : Int) : oLt (.int i) (.int j) μ = some (.ok (.bl (decide (i < j))) μ) := rfl
@[simp] theorem oLe_ap (i j : Int) : oLe (.int i) (.int j) μ = some (.ok (.bl (decide (i ≤ j))) μ) := rfl
@[simp] theorem oGt_ap (i j : Int) : oGt (.int i) (.int j) μ = some (.ok (.bl (decide (j < i))) μ) := rfl
@[simp] theorem oGe_ap (i j : Int) : oGe (.int i) (.int j) μ = some (.ok (.bl (decide (j ≤ i))) μ) := rfl
@[simp] theorem oPlus_int (i j : Int) : oPlus (.int i) (.int j) μ = some (.ok (.int (i + j)) μ) := rfl
@[simp] theorem oPlus_str (i j : Str) : oPlus (.str i) (.str j) μ = if small (i.length + j.length) = true then some (.ok (.str (i ++ j)) μ) else none := rfl
@[simp] theorem oPlus_lst (xs ys : List D) : oPlus (.lst xs) (.lst ys) μ = newL (xs ++ ys) μ := rfl
@[simp] theorem oNeg_ap (i : Int) : oNeg (.int i) μ = some (.ok (.int (-i)) μ) := rfl
@[simp] theorem oIsN_ap (d : D) : oIsN d .non μ = some (.ok (.bl d.isNon) μ) := rfl
@[simp] theorem oNotN_ap (d : D) : oNotN d .non μ = some (.ok (.bl (!d.isNon)) μ) := rfl
@[simp] theorem isNon_non : D.isNon .non = true := rfl
@[simp] theorem isNon_int (i : Int) : D.isNon (.int i) = false := rfl
@[simp] theorem isNon_bl (i : Bool) : D.isNon (.bl i) = false := rfl
@[simp] theorem isNon_str (i : Str) : D.isNon (.str i) = false := rfl
@[simp] theorem isNon_tup (i : List D) : D.isNon (.tup i) = false := rfl
@[simp] theorem isNon_lst (i : List D) : D.isNon (.lst i) = false := rfl
@[simp] theorem viewT_tup (xs : List D) : viewT (.tup xs) = some xs := rfl
@[simp] theorem viewS_tup (xs : List D) : viewS μ (.tup xs) = some xs := rfl
@[simp] theorem viewS_lst (xs : List D) : viewS μ (.lst xs) = some xs := rfl
@[simp] theorem viewS_scr (xs : List D) : viewS μ (.scr xs) = some xs := rfl
@[simp] theorem viewS_cell (k : Nat) : viewS μ (.cell k) = viewL μ (.cell k) := rfl
@[simp] theorem viewL_lst (xs : List D) : viewL μ (.lst xs) = some xs := rfl
theorem viewL_cell {k : Nat} {xs : List D} (h : μ[k]? = some (some (.lst xs))) : viewL μ (.cell k) = some xs := by simp [viewL, h]
def ix1 (o : Option D) (μ : Mu) : Ro D := match o with
  | some d => some (.ok d μ)
  | none => none
@[simp] theorem ix1_some (d : D) : ix1 (some d) μ = some (.ok d μ) := rfl
@[simp] theorem oIx_lst (xs : List D) (i : Int) : oIx (.lst xs) (.int i) μ = ix1 (atI xs i) μ := by
  simp only [oIx, viewS_lst]; cases atI xs i <;> rfl
@[simp] theorem oIx_tup (xs : List D) (i : Int) : oIx (.tup xs) (.int i) μ = ix1 (atI xs i) μ := by
  simp only [oIx, viewS_tup]; cases atI xs i <;> rfl
theorem oIx_cell {k : Nat} {xs : List D} (h : μ[k]? = some (some (.lst xs))) (i : Int) : oIx (.cell k) (.int i) μ = ix1 (atI xs i) μ := by
  simp only [oIx, viewS_cell, viewL_cell h]; cases atI xs i <;> rfl
theorem atI_ok {xs : List D} {i : Int} {d : D} (h0 : 0 ≤ i) (h : xs[i.toNat]? = some d) : atI xs i = some d := by
  have := (List.getElem?_eq_some_iff.mp h).1
  unfold atI ixN
  rw [if_pos h0, if_pos (by omega)]
  exact h
/-! tests -/
def tst (r : Ro D) : Ro Bool := r.bnd fun d μ1 => match d with
  | .bl b => some (.ok b μ1)
  | _ => none
@[simp] theorem eTest_ap (f : Ev D) : eTest f ρ μ = tst (f ρ μ) := rfl
@[simp] theorem tst_ok (b : Bool) : tst (some (.ok (.bl b) μ)) = some (.ok b μ) := rfl
def and2 (r : Ro Bool) (k : Mu → Ro Bool) : Ro Bool := r.bnd fun b μ1 => if b then k μ1 else some (.ok false μ1)
def or2 (r : Ro Bool) (k : Mu → Ro Bool) : Ro Bool := r.bnd fun b μ1 => if b then some (.ok true μ1) else k μ1
def not1 (r : Ro Bool) : Ro Bool := r.bnd fun b μ1 => some (.ok (!b) μ1)
@[simp] theorem eAnd_ap (f g : Ev Bool) : eAnd f g ρ μ = and2 (f ρ μ) (g ρ) := rfl
@[simp] theorem eOr_ap (f g : Ev Bool) : eOr f g ρ μ = or2 (f ρ μ) (g ρ) := rfl
@[simp] theorem eNot_ap (f : Ev Bool) : eNot f ρ μ = not1 (f ρ μ) := rfl
@[simp] theorem and2_t (k : Mu → Ro Bool) : and2 (some (.ok true μ)) k = k μ := rfl
@[simp] theorem and2_f (k : Mu → Ro Bool) : and2 (some (.ok false μ)) k = some (.ok false μ) := rfl
@[simp] theorem or2_t (k : Mu → Ro Bool) : or2 (some (.ok true μ)) k = some (.ok true μ) := rfl
@[simp] theorem or2_f (k : Mu → Ro Bool) : or2 (some (.ok false μ)) k = k μ := rfl
@[simp] theorem not1_ok (b : Bool) : not1 (some (.ok b μ)) = some (.ok (!b) μ) := rfl
/-- both sides known: no case is needed -/
theorem and2_b {b c : Bool} {k : Mu → Ro Bool} (h : k μ = some (.ok c μ)) : and2 (some (.ok b μ)) k = some (.ok (b && c) μ) := by cases b <;> simp [h]
theorem or2_b {b c : Bool} {k : Mu → Ro Bool} (h : k μ = some (.ok c μ)) : or2 (some (.ok b μ)) k = some (.ok (b || c) μ) := by cases b <;> simp [h]
def ifE (r : Ro Bool) (f g : Mu → Ro D) : Ro D := r.bnd fun b μ1 => if b then f μ1 else g μ1
@[simp] theorem eIf_ap (c : Ev Bool) (f g : Ev D) : eIf c f g ρ μ = ifE (c ρ μ) (f ρ) (g ρ) := rfl
@[simp] theorem ifE_t (f g : Mu → Ro D) : ifE (some (.ok true μ)) f g = f μ := rfl
@[simp] theorem ifE_f (f g : Mu → Ro D) : ifE (some (.ok false μ)) f g = g μ := rfl
def andV (r : Ro D) (k : Mu → Ro D) : Ro D := r.bnd fun d μ1 => match d with
  | .bl b => if b then k μ1 else some (.ok (.bl false) μ1)
  | _ => none
def orV (r : Ro D) (k : Mu → Ro D) : Ro D := r.bnd fun d μ1 => match d with
  | .bl b => if b then some (.ok (.bl true) μ1) else k μ1
  | _ => none
def notV (r : Ro D) : Ro D := r.bnd fun d μ1 => match d with
  | .bl b => some (.ok (.bl (!b)) μ1)
  | _ => none
@[simp] theorem eAndV_ap (f g : Ev D) : eAndV f g ρ μ = andV (f ρ μ) (g ρ) := rfl
@[simp] theorem eOrV_ap (f g : Ev D) : eOrV f g ρ μ = orV (f ρ μ) (g ρ) := rfl
@[simp] theorem eNotV_ap (f : Ev D) : eNotV f ρ μ = notV (f ρ μ) := rfl
@[simp] theorem andV_t (k : Mu → Ro D) : andV (some (.ok (.bl true) μ)) k = k μ := rfl
@[simp] theorem andV_f (k : Mu → Ro D) : andV (some (.ok (.bl false) μ)) k = some (.ok (.bl false) μ) := rfl
@[simp] theorem orV_t (k : Mu → Ro D) : orV (some (.ok (.bl true) μ)) k = some (.ok (.bl true) μ) := rfl
@[simp] theorem orV_f (k : Mu → Ro D) : orV (some (.ok (.bl false) μ)) k = k μ := rfl
@[simp] theorem notV_ok (b : Bool) : notV (some (.ok (.bl b) μ)) = some (.ok (.bl (!b)) μ) := rfl
def chain2 (op' : D → D → Mu → Ro D) (b : D) (r : Ro D) (h : Mu → Ro D) : Ro D := r.bnd fun k μ3 => match k with
  | .bl k => if k then op2' op' b (h μ3) else some (.ok (.bl false) μ3)
  | _ => none
def chain1 (op op' : D → D → Mu → Ro D) (a : D) (r : Ro D) (h : Mu → Ro D) : Ro D := r.bnd fun b μ2 => chain2 op' b (op a b μ2) h
def chain0 (op op' : D → D → Mu → Ro D) (r : Ro D) (g h : Mu → Ro D) : Ro D := r.bnd fun a μ1 => chain1 op op' a (g μ1) h
@[simp] theorem eChain_ap (op op' : D → D → Mu → Ro D) (f g h : Ev D) : eChain op op' f g h ρ μ = chain0 op op' (f ρ μ) (g ρ) (h ρ) := rfl
@[simp] theorem chain0_ok (op op' : D → D → Mu → Ro D) (a : D) (g h : Mu → Ro D) : chain0 op op' (some (.ok a μ)) g h = chain1 op op' a (g μ) h := rfl
@[simp] theorem chain1_ok (op op' : D → D → Mu → Ro D) (a b : D) (h : Mu → Ro D) : chain1 op op' a (some (.ok b μ)) h = chain2 op' b (op a b μ) h := rfl
@[simp] theorem chain2_t (op' : D → D → Mu → Ro D) (b : D) (h : Mu → Ro D) : chain2 op' b (some (.ok (.bl true) μ)) h = op2' op' b (h μ) := rfl
@[simp] theorem chain2_f (op' : D → D → Mu → Ro D) (b : D) (h : Mu → Ro D) : chain2 op' b (some (.ok (.bl false) μ)) h = some (.ok (.bl false) μ) := rfl
@[simp] theorem eYes_ap : eYes ρ μ = some (.ok true μ) := rfl
def tru1 (r : Ro D) : Ro Bool := r.bnd fun d μ1 => match truth μ1 d with
  | some b => some (.ok b μ1)
  | none => none
@[simp] theorem eTru_ap (f : Ev D) : eTru f ρ μ = tru1 (f ρ μ) := rfl
@[simp] theorem tru1_lst (xs : List D) : tru1 (some (.ok (.lst xs) μ)) = some (.ok (!xs.isEmpty) μ) := rfl
@[simp] theorem tru1_tup (xs : List D) : tru1 (some (.ok (.tup xs) μ)) = some (.ok (!xs.isEmpty) μ) := rfl
@[simp] theorem tru1_bl (b : Bool) : tru1 (some (.ok (.bl b) μ)) = some (.ok b μ) := rfl
@[simp] theorem tru1_int (i : Int) : tru1 (some (.ok (.int i) μ)) = some (.ok (i != 0) μ) := rfl
/-! arguments, displays, calls -/
def cons2 (d : D) (r : Ro (List D)) : Ro (List D) := r.bnd fun ds μ2 => some (.ok (d :: ds) μ2)
def cons1 (r : Ro D) (k : Mu → Ro (List D)) : Ro (List D) := r.bnd fun d μ1 => cons2 d (k μ1)
@[simp] theorem aNil_ap : aNil ρ μ = some (.ok [] μ) := rfl
@[simp] theorem aCons_ap (f : Ev D) (g : Ev (List D)) : aCons f g ρ μ = cons1 (f ρ μ) (g ρ) := rfl
@[simp] theorem cons1_ok (d : D) (k : Mu → Ro (List D)) : cons1 (some (.ok d μ)) k = cons2 d (k μ) := rfl
@[simp] theorem cons2_ok (d : D) (ds : List D) : cons2 d (some (.ok ds μ)) = some (.ok (d :: ds) μ) := rfl
@[simp] theorem eLst_ap (f : Ev (List D)) : eLst f ρ μ = Ro.bnd (f ρ μ) newL := rfl
@[simp] theorem eLstC_ap (f : Ev (List D)) : eLstC f ρ μ = Ro.bnd (f ρ μ) newC := rfl
@[simp] theorem eTup_ap (f : Ev (List D)) : eTup f ρ μ = Ro.bnd (f ρ μ) newT := rfl
theorem newL_ok {ds : List D} (h : ds.length ≤ 16777216) : newL ds μ = some (.ok (.lst ds) μ) := by simp [newL, small, h]
theorem newC_ok {ds : List D} (h : ds.length ≤ 16777216) : newC ds μ = some (.ok (.cell μ.length) (μ ++ [some (.lst ds)])) := by simp [newC, small, h]
theorem newT_ok {ds : List D} (h : ds.length ≤ 16777216) : newT ds μ = some (.ok (.tup ds) μ) := by simp [newT, small, h]
@[simp] theorem newL_0 : newL [] μ = some (.ok (.lst []) μ) := newL_ok (by simp)
@[simp] theorem newL_1 (a : D) : newL [a] μ = some (.ok (.lst [a]) μ) := newL_ok (by simp)
@[simp] theorem newL_2 (a b : D) : newL [a, b] μ = some (.ok (.lst [a, b]) μ) := newL_ok (by simp)
@[simp] theorem newL_3 (a b c : D) : newL [a, b, c] μ = some (.ok (.lst [a, b, c]) μ) := newL_ok (by simp)
@[simp] theorem newL_4 (a b c d : D) : newL [a, b, c, d] μ = some (.ok (.lst [a, b, c, d]) μ) := newL_ok (by simp)
@[simp] theorem newL_7 (a b c d e f g : D) : newL [a, b, c, d, e, f, g] μ = some (.ok (.lst [a, b, c, d, e, f, g]) μ) := newL_ok (by simp)
@[simp] theorem newC_0 : newC [] μ = some (.ok (.cell μ.length) (μ ++ [some (.lst [])])) := newC_ok (by simp)
@[simp] theorem newC_1 (a : D) : newC [a] μ = some (.ok (.cell μ.length) (μ ++ [some (.lst [a])])) := newC_ok (by simp)
@[simp] theorem newT_0 : newT [] μ = some (.ok (.tup []) μ) := newT_ok (by simp)
@[simp] theorem newT_1 (a : D) : newT [a] μ = some (.ok (.tup [a]) μ) := newT_ok (by simp)
@[simp] theorem newT_2 (a b : D) : newT [a, b] μ = some (.ok (.tup [a, b]) μ) := newT_ok (by simp)
@[simp] theorem newT_3 (a b c : D) : newT [a, b, c] μ = some (.ok (.tup [a, b, c]) μ) := newT_ok (by simp)
@[simp] theorem newT_4 (a b c d : D) : newT [a, b, c, d] μ = some (.ok (.tup [a, b, c, d]) μ) := newT_ok (by simp)
@[simp] theorem eB_ap (op : List D → Mu → Ro D) (f : Ev (List D)) : eB op f ρ μ = Ro.bnd (f ρ μ) op := rfl
@[simp] theorem oInt_ap (i : Int) : oInt [.int i] μ = some (.ok (.int i) μ) := rfl
@[simp] theorem oMax2_ap (i j : Int) : oMax2 [.int i, .int j] μ = some (.ok (.int (if j > i then j else i)) μ) := rfl
@[simp] theorem oMin2_ap (i j : Int) : oMin2 [.int i, .int j] μ = some (.ok (.int (if j < i then j else i)) μ) := rfl
@[simp] theorem oLen_lst (xs : List D) : oLen [.lst xs] μ = some (.ok (.int xs.length) μ) := rfl
@[simp] theorem oLen_tup (xs : List D) : oLen [.tup xs] μ = some (.ok (.int xs.length) μ) := rfl
@[simp] theorem oLen_scr (xs : List D) : oLen [.scr xs] μ = some (.ok (.int xs.length) μ) := rfl
theorem oLen_cell {k : Nat} {xs : List D} (h : μ[k]? = some (some (.lst xs))) : oLen [.cell k] μ = some (.ok (.int xs.length) μ) := by
  simp only [oLen, viewS_cell, viewL_cell h]
@[simp] theorem oList_lst (xs : List D) : oList [.lst xs] μ = some (.ok (.lst xs) μ) := rfl
@[simp] theorem oList_tup (xs : List D) : oList [.tup xs] μ = some (.ok (.lst xs) μ) := rfl
@[simp] theorem oTuple_lst (xs : List D) : oTuple [.lst xs] μ = some (.ok (.tup xs) μ) := rfl
@[simp] theorem oTuple_tup (xs : List D) : oTuple [.tup xs] μ = some (.ok (.tup xs) μ) := rfl
theorem oTuple_cell {k : Nat} {xs : List D} (h : μ[k]? = some (some (.lst xs))) : oTuple [.cell k] μ = some (.ok (.tup xs) μ) := by
  simp only [oTuple, viewS_cell, viewL_cell h]
def isi1 (T : String) (r : Ro D) : Ro D := r.bnd fun d μ1 => match isD (tyD μ1 d) T with
  | some b => some (.ok (.bl b) μ1)
  | none => none
@[simp] theorem eIsi_ap (T : String) (f : Ev D) : eIsi T f ρ μ = isi1 T (f ρ μ) := rfl
@[simp] theorem isi_ii (i : Int) : isi1 "int" (some (.ok (.int i) μ)) = some (.ok (.bl true) μ) := rfl
@[simp] theorem isi_bi (i : Int) : isi1 "bool" (some (.ok (.int i) μ)) = some (.ok (.bl false) μ) := rfl
@[simp] theorem isi_tt (i : List D) : isi1 "tuple" (some (.ok (.tup i) μ)) = some (.ok (.bl true) μ) := rfl
@[simp] theorem isi_ll (i : List D) : isi1 "list" (some (.ok (.lst i) μ)) = some (.ok (.bl true) μ) := rfl
@[simp] theorem isi_bb (i : Bool) : isi1 "bool" (some (.ok (.bl i) μ)) = some (.ok (.bl true) μ) := rfl
def get2 (a : D) (r : Ro D) : Ro D := r.bnd fun b μ2 => match dget μ2 a b with
  | some (some d) => some (.ok d μ2)
  | _ => none
def get1 (r : Ro D) (k : Mu → Ro D) : Ro D := r.bnd fun a μ1 => get2 a (k μ1)
@[simp] theorem eGet_ap (f g : Ev D) : eGet f g ρ μ = get1 (f ρ μ) (g ρ) := rfl
@[simp] theorem get1_ok (a : D) (k : Mu → Ro D) : get1 (some (.ok a μ)) k = get2 a (k μ) := rfl
theorem get2_ok {a b d : D} (h : dget μ a b = some (some d)) : get2 a (some (.ok b μ)) = some (.ok d μ) := by simp [get2, h]
def call1 (m : Fd) (r : Ro (List D)) : Ro D := r.bnd fun ds μ1 => match m ds μ1 with
  | some (.ok d μ2) => some (.ok d μ2)
  | _ => none
@[simp] theorem eCall_ap (m : Fd) (f : Ev (List D)) : eCall m f ρ μ = call1 m (f ρ μ) := rfl
theorem call1_ok {m : Fd} {ds : List D} {d : D} (h : m ds μ = some (.ok d μ1)) : call1 m (some (.ok ds μ)) = some (.ok d μ1) := by simp [call1, h]
def frz1 (r : Ro D) : Ro D := r.bnd fun d μ1 => match frz 4 d μ1 with
  | some (d', μ2) => some (.ok d' μ2)
  | none => none
@[simp] theorem eFrz_ap (f : Ev D) : eFrz f ρ μ = frz1 (f ρ μ) := rfl
@[simp] theorem frz1_lst (xs : List D) : frz1 (some (.ok (.lst xs) μ)) = some (.ok (.lst xs) μ) := rfl
@[simp] theorem frz1_tup (xs : List D) : frz1 (some (.ok (.tup xs) μ)) = some (.ok (.tup xs) μ) := rfl
@[simp] theorem frz1_int (i : Int) : frz1 (some (.ok (.int i) μ)) = some (.ok (.int i) μ) := rfl
theorem frzs_pure {f : D → Mu → Option (D × Mu)} (hf : ∀ d μ, d.pure = true → f d μ = some (d, μ)) : ∀ {ds : List D}, pures ds = true → frzs f ds μ = some (ds, μ)
  | [], _ => rfl
  | d :: ds, h => by
    simp only [pures, Bool.and_eq_true] at h
    simp [frzs, hf d μ h.1, frzs_pure hf h.2]
theorem frz_pure (n : Nat) (d : D) (μ : Mu) (h : d.pure = true) : frz n d μ = some (d, μ) := by
  cases d <;> first | (simp [D.pure] at h; done) | (cases n <;> rfl)
theorem frz1_cell {k : Nat} {xs : List D} (h : μ[k]? = some (some (.lst xs))) (p : pures xs = true) : frz1 (some (.ok (.cell k) μ)) = some (.ok (.lst xs) (μ.set k none)) := by
  have e : frz 4 (.cell k) μ = some (.lst xs, μ.set k none) := by
    rw [frz]
    simp only [h]
    rw [frzs_pure (fun d μ => frz_pure 3 d μ) p]
  simp only [frz1, bnd_ok, e]
/-- o.append(d) and the like -/
def mt1 (op : Nat → List D → List D → Mu → Ro D) (r : Ro D) (k : Mu → Ro (List D)) : Ro D := r.bnd fun o μ1 => match o with
  | .cell c => (match μ1[c]? with
    | some (some (.lst _)) => (k μ1).bnd fun as μ2 => match μ2[c]? with
      | some (some (.lst xs)) => op c xs as μ2
      | _ => none
    | _ => none)
  | _ => none
@[simp] theorem eMt_ap (op : Nat → List D → List D → Mu → Ro D) (f : Ev D) (g : Ev (List D)) : eMt op f g ρ μ = mt1 op (f ρ μ) (g ρ) := rfl
theorem mt1_ok {op : Nat → List D → List D → Mu → Ro D} {c : Nat} {k : Mu → Ro (List D)} {xs ys as : List D} (h : μ[c]? = some (some (.lst xs))) (e : k μ = some (.ok as μ1)) (h2 : μ1[c]? = some (some (.lst ys))) : mt1 op (some (.ok (.cell c) μ)) k = op c ys as μ1 := by
  simp [mt1, h, e, h2]
theorem oAppend_ok {n0 k : Nat} {xs : List D} {d : D} (h : xs.length < 16777216) (p : (decide (n0 ≤ k) || d.pure) = true) : oAppend n0 k xs [d] μ = some (.ok .non (μ.set k (some (.lst (xs ++ [d]))))) := by
  simp only [oAppend, p, decide_eq_true h]; rfl
def mt0 (op : Nat → List D → Mu → Ro D) (r : Ro D) : Ro D := r.bnd fun o μ1 => match o with
  | .cell k => (match μ1[k]? with
    | some (some (.lst xs)) => op k xs μ1
    | _ => none)
  | _ => none
@[simp] theorem eMt0_ap (op : Nat → List D → Mu → Ro D) (f : Ev D) : eMt0 op f ρ μ = mt0 op (f ρ μ) := rfl
theorem mt0_ok {op : Nat → List D → Mu → Ro D} {c : Nat} {xs : List D} (h : μ[c]? = some (some (.lst xs))) : mt0 op (some (.ok (.cell c) μ)) = op c xs μ := by simp [mt0, h]
/-! walks -/
@[simp] theorem iRg1_ap (f : Ev (List D)) : iRg1 f ρ μ = Ro.bnd (f ρ μ) rng1 := rfl
@[simp] theorem iRg2_ap (f : Ev (List D)) : iRg2 f ρ μ = Ro.bnd (f ρ μ) rng2 := rfl
theorem rOk_of {j : Int} (h0 : -4611686018427387904 ≤ j) (h1 : j < 4611686018427387904) : rOk j = true := by
  exact rOk_iff.mpr ⟨h0, h1⟩
@[simp] theorem rng1_ok {j : Int} (h : rOk j = true) : rng1 [.int j] μ = some (.ok (.its (rngD 0 j.toNat)) μ) := by simp [rng1, h]
@[simp] theorem rng2_ok {i j : Int} (h : rOk i = true) (k : rOk j = true) : rng2 [.int i, .int j] μ = some (.ok (.its (rngD i (j - i).toNat)) μ) := by simp [rng2, h, k]
def any1 (r : Ro D) : Ro Src := r.bnd fun d μ1 => match srcOf μ1 d with
  | some s => some (.ok s μ1)
  | none => none
@[simp] theorem iAnyD_ap (f : Ev D) : iAnyD f ρ μ = any1 (f ρ μ) := rfl
@[simp] theorem any1_lst (xs : List D) : any1 (some (.ok (.lst xs) μ)) = some (.ok (.its xs) μ) := rfl
@[simp] theorem any1_tup (xs : List D) : any1 (some (.ok (.tup xs) μ)) = some (.ok (.its xs) μ) := rfl
@[simp] theorem any1_scr (xs : List D) : any1 (some (.ok (.scr xs) μ)) = some (.ok (.its xs) μ) := rfl
theorem any1_cell {k : Nat} {xs : List D} (h : μ[k]? = some (some (.lst xs))) : any1 (some (.ok (.cell k) μ)) = some (.ok (.cel k) μ) := by
  simp [any1, srcOf, viewL, h]
/-! targets -/
@[simp] theorem tName_ap (i : Nat) (d : D) : tName i d ρ μ = some (.ok (ρ.set i (some d)) μ) := rfl
@[simp] theorem tTupT_ap (n : Nat) (u : Tvs) (ds : List D) : tTupT n u (.tup ds) ρ μ = if ds.length = n then u ds ρ μ else none := rfl
def tg2 (r : Ro Env) : Ro Env := match r with
  | some (.ok ρ2 μ2) => some (.ok ρ2 μ2)
  | _ => none
def tg1 (r : Ro Env) (u : Env → Mu → Ro Env) : Ro Env := match r with
  | some (.ok ρ1 μ1) => tg2 (u ρ1 μ1)
  | _ => none
@[simp] theorem tConss_ap (t : Tv) (u : Tvs) (d : D) (r : List D) : tConss t u (d :: r) ρ μ = tg1 (t d ρ μ) (u r) := rfl
@[simp] theorem tg1_ok (u : Env → Mu → Ro Env) : tg1 (some (.ok ρ μ)) u = tg2 (u ρ μ) := rfl
@[simp] theorem tg2_ok : tg2 (some (.ok ρ μ)) = some (.ok ρ μ) := rfl
@[simp] theorem tNils_ap : tNils [] ρ μ = some (.ok ρ μ) := rfl
theorem tSub_ok {n0 k j : Nat} {f g : Ev D} {d : D} {xs : List D} {i : Int} {μ2 : Mu} (h1 : f ρ μ = some (.ok (.cell k) μ1)) (h2 : g ρ μ1 = some (.ok (.int i) μ2)) (h3 : μ2[k]? = some (some (.lst xs))) (i0 : 0 ≤ i) (hj : i.toNat = j) (hl : j < xs.length)
    (hp : (decide (n0 ≤ k) || d.pure) = true) : tSub n0 f g d ρ μ = some (.ok ρ (μ2.set k (some (.lst (xs.set j d))))) := by
  have e : ixN xs.length i = some j := by
    unfold ixN
    rw [if_pos i0, if_pos (by omega), hj]
  simp [tSub, h1, h2, h3, e]
  intro hk
  have : ¬ n0 ≤ k := by omega
  simpa [this] using hp
/-! statements -/
def seqs (r : Option Fl) (h : Sv) : Option Fl := match r with
  | some (.nx ρ1 μ1) => h ρ1 μ1
  | r => r
@[simp] theorem sSeq_ap (g h : Sv) : sSeq g h ρ μ = seqs (g ρ μ) h := rfl
@[simp] theorem seqs_nx (h : Sv) : seqs (some (.nx ρ μ)) h = h ρ μ := rfl
@[simp] theorem seqs_rt (d : D) (h : Sv) : seqs (some (.rt d μ)) h = some (.rt d μ) := rfl
@[simp] theorem seqs_bk (h : Sv) : seqs (some (.bk ρ μ)) h = some (.bk ρ μ) := rfl
@[simp] theorem seqs_ct (h : Sv) : seqs (some (.ct ρ μ)) h = some (.ct ρ μ) := rfl
@[simp] theorem seqs_ex (x : XD) (h : Sv) : seqs (some (.ex x ρ μ)) h = some (.ex x ρ μ) := rfl
@[simp] theorem seqs_seqs (r : Option Fl) (h k : Sv) : seqs (seqs r h) k = seqs r (sSeq h k) := by
  cases r with
  | none => rfl
  | some fl => cases fl <;> rfl
@[simp] theorem sNil_ap : sNil ρ μ = some (.nx ρ μ) := rfl
def ifs (r : Ro Bool) (ρ : Env) (g h : Sv) : Option Fl := r.thn ρ fun b μ1 => if b then g ρ μ1 else h ρ μ1
@[simp] theorem sIf_ap (c : Ev Bool) (g h : Sv) : sIf c g h ρ μ = ifs (c ρ μ) ρ g h := rfl
@[simp] theorem ifs_t (g h : Sv) : ifs (some (.ok true μ)) ρ g h = g ρ μ := rfl
@[simp] theorem ifs_f (g h : Sv) : ifs (some (.ok false μ)) ρ g h = h ρ μ := rfl
def rets (r : Ro D) (ρ : Env) : Option Fl := r.thn ρ fun d μ1 => some (.rt d μ1)
@[simp] theorem sRet_ap (f : Ev D) : sRet f ρ μ = rets (f ρ μ) ρ := rfl
@[simp] theorem rets_ok (d : D) : rets (some (.ok d μ)) ρ = some (.rt d μ) := rfl
@[simp] theorem sRetN_ap : sRetN ρ μ = some (.rt .non μ) := rfl
def drops (r : Ro D) (ρ : Env) : Option Fl := r.thn ρ fun _ μ1 => some (.nx ρ μ1)
@[simp] theorem sDrop_ap (f : Ev D) : sDrop f ρ μ = drops (f ρ μ) ρ := rfl
@[simp] theorem drops_ok (d : D) : drops (some (.ok d μ)) ρ = some (.nx ρ μ) := rfl
@[simp] theorem sBrk_ap : sBrk ρ μ = some (.bk ρ μ) := rfl
@[simp] theorem sCnt_ap : sCnt ρ μ = some (.ct ρ μ) := rfl
def sets (i : Nat) (r : Ro D) (ρ : Env) : Option Fl := r.thn ρ fun d μ1 => some (.nx (ρ.set i (some d)) μ1)
@[simp] theorem sSet_ap (i : Nat) (f : Ev D) : sSet i f ρ μ = sets i (f ρ μ) ρ := rfl
@[simp] theorem sets_ok (i : Nat) (d : D) : sets i (some (.ok d μ)) ρ = some (.nx (ρ.set i (some d)) μ) := rfl
def asgs (t : Tv) (r : Ro D) (ρ : Env) : Option Fl := r.thn ρ fun d μ1 => (t d ρ μ1).tg ρ
@[simp] theorem sAsg_ap (f : Ev D) (t : Tv) : sAsg f t ρ μ = asgs t (f ρ μ) ρ := rfl
@[simp] theorem asgs_ok (t : Tv) (d : D) : asgs t (some (.ok d μ)) ρ = (t d ρ μ).tg ρ := rfl
@[simp] theorem tg_ok {ρ' : Env} : Ro.tg (some (.ok ρ' μ)) ρ = some (.nx ρ' μ) := rfl
def fors (r : Ro Src) (ρ : Env) (tg : Tv) (body : Sv) : Option Fl := r.thn ρ fun src μ1 => match src with
  | .its ds => loopL tg body ds ρ μ1
  | .cel k => match viewL μ1 (.cell k) with
    | some ds => loopN (.cel k) tg body ds.length 0 ρ μ1
    | none => none
@[simp] theorem sFor_ap (fi : Ev Src) (tg : Tv) (body : Sv) : sFor fi tg body ρ μ = fors (fi ρ μ) ρ tg body := rfl
@[simp] theorem fors_its (ds : List D) (tg : Tv) (body : Sv) : fors (some (.ok (.its ds) μ)) ρ tg body = loopL tg body ds ρ μ := rfl
theorem fors_cel {k : Nat} {xs : List D} (h : μ[k]? = some (some (.lst xs))) (tg : Tv) (body : Sv) : fors (some (.ok (.cel k) μ)) ρ tg body = loopN (.cel k) tg body xs.length 0 ρ μ := by
  simp [fors, viewL, h]
/-- one turn -/
def turn1 (tg : Tv) (body : Sv) (d : D) : Sv := fun ρ μ => match tg d ρ μ with
  | some (.ok ρ1 μ1) => body ρ1 μ1
  | _ => none
/-- how a loop goes on -/
def Go (I : Env → Mu → Prop) (Q : Fl → Prop) : Option Fl → Prop
  | some (.nx ρ μ) => I ρ μ
  | some (.ct ρ μ) => I ρ μ
  | some (.bk ρ μ) => Q (.nx ρ μ)
  | some fl => Q fl
  | none => False
/-- THE RULE of a for over known items -/
theorem loop_rule {tg : Tv} {body : Sv} {Q : Fl → Prop} : ∀ {ds : List D} {ρ : Env} {μ : Mu} (I : Nat → Env → Mu → Prop) (h0 : I 0 ρ μ)
    (step : ∀ i d ρ μ, ds[i]? = some d → I i ρ μ → Go (I (i + 1)) Q (turn1 tg body d ρ μ)) (done : ∀ ρ μ, I ds.length ρ μ → Q (.nx ρ μ)), ∃ fl, loopL tg body ds ρ μ = some fl ∧ Q fl
  | [], ρ, μ, I, h0, step, done => ⟨_, rfl, done ρ μ h0⟩
  | d :: ds, ρ, μ, I, h0, step, done => by
    have h := step 0 d ρ μ rfl h0
    have rest : ∀ ρ' μ', I 1 ρ' μ' → ∃ fl, loopL tg body ds ρ' μ' = some fl ∧ Q fl := fun ρ' μ' h1 =>
      loop_rule (ds := ds) (fun i => I (i + 1)) h1 (fun i d ρ μ e h => step (i + 1) d ρ μ (by simpa using e) h) (fun ρ μ h => done ρ μ (by simpa using h))
    unfold turn1 at h
    show ∃ fl, turn tg body d ρ μ (loopL tg body ds) = some fl ∧ Q fl
    unfold turn
    split at h
    · rename_i ρ1 μ1 h1
      cases hb : body ρ1 μ1 with
      | none => rw [hb] at h; exact h.elim
      | some fl =>
        rw [hb] at h
        try simp only [h1, hb]
        cases fl with
        | nx a b => exact rest a b h
        | ct a b => exact rest a b h
        | bk a b => exact ⟨_, rfl, h⟩
        | rt a b => exact ⟨_, rfl, h⟩
        | ex a b c => exact ⟨_, rfl, h⟩
    · exact h.elim
/-- a for whose turns go on to the end -/
theorem loop_all {tg : Tv} {body : Sv} {ds : List D} {ρ : Env} {μ : Mu} (I : Nat → Env → Mu → Prop) (h0 : I 0 ρ μ)
    (step : ∀ i d ρ μ, ds[i]? = some d → I i ρ μ → Go (I (i + 1)) (fun _ => False) (turn1 tg body d ρ μ)) : ∃ ρ' μ', loopL tg body ds ρ μ = some (.nx ρ' μ') ∧ I ds.length ρ' μ' := by
  obtain ⟨fl, e, q⟩ := loop_rule (Q := fun fl => ∃ ρ' μ', fl = .nx ρ' μ' ∧ I ds.length ρ' μ') I h0 (fun i d ρ μ e h => by
    have := step i d ρ μ e h
    revert this
    cases turn1 tg body d ρ μ with
    | none => exact id
    | some fl => cases fl <;> simp [Go]) (fun ρ μ h => ⟨ρ, μ, rfl, h⟩)
  obtain ⟨ρ', μ', rfl, h⟩ := q
  exact ⟨ρ', μ', e, h⟩
@[simp] theorem turn1_name (i : Nat) (body : Sv) (d : D) : turn1 (tName i) body d ρ μ = body (ρ.set i (some d)) μ := rfl
theorem rng_get {lo : Int} {n i : Nat} {d : D} (h : (rngD lo n)[i]? = some d) : i < n ∧ d = .int (lo + i) := rngD_get h
/-! comprehensions -/
/-- a comprehension over known items: what each turn yields -/
theorem comp_rule {tg : Tv} {tt : Ev Bool} {te : Ev D} {ρ : Env} : ∀ {ds : List D} {μ : Mu} (I : Nat → Mu → List D → Prop) (h0 : I 0 μ [])
    (step : ∀ i d μ acc, ds[i]? = some d → I i μ acc → ∃ ρ1 μ1 b μ2, tg d ρ μ = some (.ok ρ1 μ1) ∧ tt ρ1 μ1 = some (.ok b μ2) ∧ (b = true → ∃ y μ3, te ρ1 μ2 = some (.ok y μ3) ∧ I (i + 1) μ3 (acc ++ [y])) ∧ (b = false → I (i + 1) μ2 acc)),
    ∃ ys μ', compL tg tt te ρ ds μ = some (.ok ys μ') ∧ I ds.length μ' ys := by
  have gen : ∀ {ds : List D} {μ : Mu} (I : Nat → Mu → List D → Prop) (acc : List D) (h0 : I 0 μ acc)
    (step : ∀ i d μ acc, ds[i]? = some d → I i μ acc → ∃ ρ1 μ1 b μ2, tg d ρ μ = some (.ok ρ1 μ1) ∧ tt ρ1 μ1 = some (.ok b μ2) ∧ (b = true → ∃ y μ3, te ρ1 μ2 = some (.ok y μ3) ∧ I (i + 1) μ3 (acc ++ [y])) ∧ (b = false → I (i + 1) μ2 acc)),
    ∃ ys μ', compL tg tt te ρ ds μ = some (.ok ys μ') ∧ I ds.length μ' (acc ++ ys) := by
    intro ds
    induction ds with
    | nil => intro μ I acc h0 step; exact ⟨[], μ, rfl, by simpa using h0⟩
    | cons d ds ih =>
      intro μ I acc h0 step
      obtain ⟨ρ1, μ1, b, μ2, e1, e2, ht, hf⟩ := step 0 d μ acc rfl h0
      have st := fun i d μ acc (e : ds[i]? = some d) h => step (i + 1) d μ acc (by simpa using e) h
      cases b with
      | true =>
        obtain ⟨y, μ3, e3, h1⟩ := ht rfl
        obtain ⟨ys, μ', e4, h2⟩ := ih (fun i => I (i + 1)) (acc ++ [y]) h1 st
        refine ⟨y :: ys, μ', ?_, by simpa using h2⟩
        show stepC tg tt te ρ d μ (compL tg tt te ρ ds) = _
        simp [stepC, e1, e2, e3, e4]
      | false =>
        obtain ⟨ys, μ', e4, h2⟩ := ih (fun i => I (i + 1)) acc (hf rfl) st
        refine ⟨ys, μ', ?_, by simpa using h2⟩
        show stepC tg tt te ρ d μ (compL tg tt te ρ ds) = _
        simp [stepC, e1, e2, e4]
  intro ds μ I h0 step
  obtain ⟨ys, μ', e, h⟩ := gen I [] h0 step
  exact ⟨ys, μ', e, by simpa using h⟩
def comps (mk : List D → Mu → Ro D) (r : Ro Src) (tg : Tv) (tt : Ev Bool) (te : Ev D) (ρ : Env) : Ro D := r.bnd fun src μ1 => match comp tg tt te ρ src μ1 with
  | some (.ok ys μ2) => mk ys μ2
  | _ => none
@[simp] theorem eComp_ap (fi : Ev Src) (tg : Tv) (tt : Ev Bool) (te : Ev D) (vs : List Nat) : eComp fi tg tt te vs ρ μ = comps newL (fi ρ μ) tg tt te (wipeE ρ vs) := rfl
@[simp] theorem eCompC_ap (fi : Ev Src) (tg : Tv) (tt : Ev Bool) (te : Ev D) (vs : List Nat) : eCompC fi tg tt te vs ρ μ = comps newC (fi ρ μ) tg tt te (wipeE ρ vs) := rfl
theorem comps_its {mk : List D → Mu → Ro D} {tg : Tv} {tt : Ev Bool} {te : Ev D} {ds ys : List D} (h : compL tg tt te ρ ds μ = some (.ok ys μ1)) : comps mk (some (.ok (.its ds) μ)) tg tt te ρ = mk ys μ1 := by
  simp [comps, comp, h]
theorem comps_cel {mk : List D → Mu → Ro D} {tg : Tv} {tt : Ev Bool} {te : Ev D} {k : Nat} {ds ys : List D} (hk : μ[k]? = some (some (.lst ds))) (h : compN (.cel k) tg tt te ρ ds.length 0 μ = some (.ok ys μ1)) : comps mk (some (.ok (.cel k) μ)) tg tt te ρ = mk ys μ1 := by
  simp [comps, comp, viewL, hk, h]
@[simp] theorem wipeE_nil : wipeE ρ [] = ρ := rfl
@[simp] theorem wipeE_cons (v : Nat) (vs : List Nat) : wipeE ρ (v :: vs) = (wipeE ρ vs).set v none := rfl
/-- over a cell, a function of the item, nothing changes -/
theorem comps_cel_map {mk : List D → Mu → Ro D} {j k : Nat} {te : Ev D} {ds : List D} (f : D → D) (hk : μ[k]? = some (some (.lst ds))) (h : ∀ d ∈ ds, te (ρ.set j (some d)) μ = some (.ok (f d) μ)) :
    comps mk (some (.ok (.cel k) μ)) (tName j) eYes te ρ = mk (ds.map f) μ := by
  have cur : Src.cur μ (.cel k) = some ds := by simp [Src.cur, viewL, hk]
  have gen : ∀ n i, n + i = ds.length → compN (.cel k) (tName j) eYes te ρ n i μ = some (.ok ((ds.drop i).map f) μ) := by
    intro n
    induction n with
    | zero =>
      intro i hi
      rw [List.drop_eq_nil_of_le (by omega)]
      simp only [compN, cur]
      rw [if_pos (by omega)]
      rfl
    | succ n ih =>
      intro i hi
      have hl : i < ds.length := by omega
      rw [List.drop_eq_getElem_cons hl]
      simp only [compN, cur, List.getElem?_eq_getElem hl]
      simp only [stepC, tName_ap, eYes_ap, h _ (List.getElem_mem hl), ih (i + 1) (by omega)]
      rfl
  exact comps_cel hk (gen ds.length 0 rfl)
/-! defs -/
def ends (n : Nat) (r : Option Fl) : Ro D := match r with
  | some (.nx _ μ') => leave n .non μ'
  | some (.rt d μ') => leave n d μ'
  | some (.ex x _ μ') => if x.low n then some (.exc x (μ'.take n)) else none
  | _ => none
theorem runD_ap (N : Nat) (body : Nat → Sv) (ds : List D) : runD N body ds μ = ends μ.length (body μ.length (ds.map some ++ List.replicate (N - ds.length) none) μ) := rfl
@[simp] theorem ends_rt (n : Nat) (d : D) : ends n (some (.rt d μ)) = leave n d μ := rfl
@[simp] theorem ends_nx (n : Nat) : ends n (some (.nx ρ μ)) = leave n .non μ := rfl
theorem leave_pure {n : Nat} {d : D} (h : d.pure = true) : leave n d μ = some (.ok d (μ.take n)) := by
  have := low_of_pure (n := n) h
  cases d <;> first | (simp [D.pure] at h; done) | simp [leave, this]
@[simp] theorem leave_int (n : Nat) (i : Int) : leave n (.int i) μ = some (.ok (.int i) (μ.take n)) := rfl
@[simp] theorem leave_non (n : Nat) : leave n .non μ = some (.ok .non (μ.take n)) := rfl
@[simp] theorem leave_bl (n : Nat) (b : Bool) : leave n (.bl b) μ = some (.ok (.bl b) (μ.take n)) := rfl
/-! data of whole numbers -/
@[simp] theorem pures_ints (ns : List Int) : pures (ns.map D.int) = true := by rw [pures_iff]; simp [D.pure]
theorem nices_ints (n : Nat) (ns : List Int) : nices n (ns.map D.int) = true := by rw [nices_iff]; simp [D.nice]
theorem eqvs_ints : ∀ (xs ys : List Int), PyData.eqvAll (pys (xs.map D.int)) (pys (ys.map D.int)) = decide (xs = ys)
  | [], [] => rfl
  | [], y :: ys => rfl
  | x :: xs, [] => rfl
  | x :: xs, y :: ys => by
    simp only [List.map_cons, pys, D.py, PyData.eqvAll, PyData.eqv, eqvs_ints xs ys, List.cons.injEq]
    by_cases h : x = y <;> simp [h]
theorem eqv_lst_ints (xs ys : List Int) : (D.lst (xs.map D.int)).eqv (.lst (ys.map D.int)) = decide (xs = ys) := eqvs_ints xs ys
theorem eqv_tup_ints (xs ys : List Int) : (D.tup (xs.map D.int)).eqv (.tup (ys.map D.int)) = decide (xs = ys) := eqvs_ints xs ys
@[simp] theorem eqv_int (i j : Int) : (D.int i).eqv (.int j) = (i == j) := rfl
@[simp] theorem eqv_non : D.eqv .non .non = true := rfl
@[simp] theorem val_int (i : Int) : val μ (.int i) = .int i := rfl
@[simp] theorem valS_lst (xs : List D) : val μ (.lst xs) = .lst xs := rfl
@[simp] theorem val_tup (xs : List D) : val μ (.tup xs) = .tup xs := rfl
@[simp] theorem val_non : val μ .non = .non := rfl
@[simp] theorem val_bl (b : Bool) : val μ (.bl b) = .bl b := rfl
@[simp] theorem val_str (b : Str) : val μ (.str b) = .str b := rfl
theorem val_cell {k : Nat} {xs : List D} (h : μ[k]? = some (some (.lst xs))) : val μ (.cell k) = .lst xs := by simp [val, h]
@[simp] theorem nice_int (n : Nat) (i : Int) : D.nice n (.int i) = true := by cases n <;> rfl
@[simp] theorem nice_non (n : Nat) : D.nice n .non = true := by cases n <;> rfl
@[simp] theorem nice_bl (n : Nat) (b : Bool) : D.nice n (.bl b) = true := by cases n <;> rfl
@[simp] theorem nice_lst_ints (n : Nat) (ns : List Int) : D.nice (n + 1) (.lst (ns.map D.int)) = true := nices_ints n ns
@[simp] theorem nice_tup_ints (n : Nat) (ns : List Int) : D.nice (n + 1) (.tup (ns.map D.int)) = true := nices_ints n ns
@[simp] theorem oEq_int (i j : Int) : oEq (.int i) (.int j) μ = some (.ok (.bl (i == j)) μ) := rfl
@[simp] theorem oNe_int (i j : Int) : oNe (.int i) (.int j) μ = some (.ok (.bl (!(i == j))) μ) := rfl
theorem oEq_ok {a b : D} (ha : (val μ a).nice 60 = true) (hb : (val μ b).nice 60 = true) : oEq a b μ = some (.ok (.bl ((val μ a).eqv (val μ b))) μ) := by simp [oEq, ha, hb]
@[simp] theorem get_end (μ : Mu) (m : Option M) : (μ ++ [m])[μ.length]? = some m := by simp
@[simp] theorem set_end (μ : Mu) (m m' : Option M) : (μ ++ [m]).set μ.length m' = μ ++ [m'] := by simp
@[simp] theorem take_end (μ μ' : Mu) : (μ ++ μ').take μ.length = μ := by simp
/-! what a run ends in -/
def Rn (r : Ro D) (P : D → Mu → Prop) : Prop := ∃ d μ', r = some (.ok d μ') ∧ P d μ'
def Sk (r : Option Fl) (Q : Fl → Prop) : Prop := ∃ fl, r = some fl ∧ Q fl
@[simp] theorem Rn_ok (d : D) (P : D → Mu → Prop) : Rn (some (.ok d μ)) P ↔ P d μ := ⟨fun ⟨_, _, e, h⟩ => by cases e; exact h, fun h => ⟨_, _, rfl, h⟩⟩
@[simp] theorem Sk_ok (fl : Fl) (Q : Fl → Prop) : Sk (some fl) Q ↔ Q fl := ⟨fun ⟨_, e, h⟩ => by cases e; exact h, fun h => ⟨_, rfl, h⟩⟩
theorem Rn.run {N : Nat} {body : Nat → Sv} {ds : List D} {P : D → Mu → Prop} (h : Sk (body μ.length (ds.map some ++ List.replicate (N - ds.length) none) μ) fun fl => Rn (ends μ.length (some fl)) P) : Rn (runD N body ds μ) P := by
  obtain ⟨fl, e, h⟩ := h
  rw [runD_ap, e]
  exact h
theorem Sk.ifs {b : Bool} {g h : Sv} {Q : Fl → Prop} (ht : b = true → Sk (g ρ μ) Q) (hf : b = false → Sk (h ρ μ) Q) : Sk (G4.ifs (some (.ok b μ)) ρ g h) Q := by
  cases b
  · exact hf rfl
  · exact ht rfl
theorem Sk.seq_ifs {b : Bool} {g h k : Sv} {Q : Fl → Prop} (ht : b = true → Sk (seqs (g ρ μ) k) Q) (hf : b = false → Sk (seqs (h ρ μ) k) Q) : Sk (seqs (G4.ifs (some (.ok b μ)) ρ g h) k) Q := by
  cases b
  · exact hf rfl
  · exact ht rfl
/-- a for, and what follows -/
def Then (Q : Fl → Prop) (k : Sv) : Fl → Prop
  | .nx ρ μ => Sk (k ρ μ) Q
  | fl => Q fl
theorem Sk.seq_loop {tg : Tv} {body k : Sv} {ds : List D} {Q : Fl → Prop} (I : Nat → Env → Mu → Prop) (h0 : I 0 ρ μ) (step : ∀ i d ρ μ, ds[i]? = some d → I i ρ μ → Go (I (i + 1)) (Then Q k) (turn1 tg body d ρ μ))
    (done : ∀ ρ μ, I ds.length ρ μ → Sk (k ρ μ) Q) : Sk (seqs (loopL tg body ds ρ μ) k) Q := by
  obtain ⟨fl, e, h⟩ := loop_rule (Q := Then Q k) I h0 step done
  rw [e]
  cases fl with
  | nx ρ μ => exact h
  | _ => exact ⟨_, rfl, h⟩
theorem Sk.loop {tg : Tv} {body : Sv} {ds : List D} {Q : Fl → Prop} (I : Nat → Env → Mu → Prop) (h0 : I 0 ρ μ) (step : ∀ i d ρ μ, ds[i]? = some d → I i ρ μ → Go (I (i + 1)) Q (turn1 tg body d ρ μ))
    (done : ∀ ρ μ, I ds.length ρ μ → Q (.nx ρ μ)) : Sk (loopL tg body ds ρ μ) Q := loop_rule I h0 step done
/-- a cut: what holds behind the first part -/
def Mid (I : Env → Mu → Prop) (Q : Fl → Prop) : Fl → Prop
  | .nx ρ μ => I ρ μ
  | fl => Q fl
@[simp] theorem Mid_nx (I : Env → Mu → Prop) (Q : Fl → Prop) : Mid I Q (.nx ρ μ) = I ρ μ := rfl
@[simp] theorem Mid_rt (I : Env → Mu → Prop) (Q : Fl → Prop) (d : D) : Mid I Q (.rt d μ) = Q (.rt d μ) := rfl
@[simp] theorem Mid_bk (I : Env → Mu → Prop) (Q : Fl → Prop) : Mid I Q (.bk ρ μ) = Q (.bk ρ μ) := rfl
@[simp] theorem Mid_ct (I : Env → Mu → Prop) (Q : Fl → Prop) : Mid I Q (.ct ρ μ) = Q (.ct ρ μ) := rfl
theorem Sk.cut {r : Option Fl} {s : Sv} {Q : Fl → Prop} (I : Env → Mu → Prop) (h : Sk r (Mid I Q)) (k : ∀ ρ μ, I ρ μ → Sk (s ρ μ) Q) : Sk (seqs r s) Q := by
  obtain ⟨fl, e, h⟩ := h
  rw [e]
  cases fl with
  | nx ρ μ => exact k ρ μ h
  | _ => exact ⟨_, rfl, h⟩
/-- a turn as Sk: one's own pace -/
theorem Go.of {I : Env → Mu → Prop} {Q : Fl → Prop} {r : Option Fl} (h : Sk r fun fl => Go I Q (some fl)) : Go I Q r := by
  obtain ⟨fl, e, h⟩ := h
  rw [e]
  exact h
@[simp] theorem Go_nx (I : Env → Mu → Prop) (Q : Fl → Prop) : Go I Q (some (.nx ρ μ)) = I ρ μ := rfl
@[simp] theorem Go_ct (I : Env → Mu → Prop) (Q : Fl → Prop) : Go I Q (some (.ct ρ μ)) = I ρ μ := rfl
@[simp] theorem Go_bk (I : Env → Mu → Prop) (Q : Fl → Prop) : Go I Q (some (.bk ρ μ)) = Q (.nx ρ μ) := rfl
@[simp] theorem Go_rt (I : Env → Mu → Prop) (Q : Fl → Prop) (d : D) : Go I Q (some (.rt d μ)) = Q (.rt d μ) := rfl
@[simp] theorem Then_rt (Q : Fl → Prop) (k : Sv) (d : D) : Then Q k (.rt d μ) = Q (.rt d μ) := rfl
@[simp] theorem Then_nx (Q : Fl → Prop) (k : Sv) : Then Q k (.nx ρ μ) = Sk (k ρ μ) Q := rfl
theorem comps_rule {mk : List D → Mu → Ro D} {tg : Tv} {tt : Ev Bool} {te : Ev D} {ds : List D} (I : Nat → Mu → List D → Prop) (h0 : I 0 μ [])
    (step : ∀ i d μ acc, ds[i]? = some d → I i μ acc → ∃ ρ1 μ1 b μ2, tg d ρ μ = some (.ok ρ1 μ1) ∧ tt ρ1 μ1 = some (.ok b μ2) ∧ (b = true → ∃ y μ3, te ρ1 μ2 = some (.ok y μ3) ∧ I (i + 1) μ3 (acc ++ [y])) ∧ (b = false → I (i + 1) μ2 acc)) :
    ∃ ys μ', comps mk (some (.ok (.its ds) μ)) tg tt te ρ = mk ys μ' ∧ I ds.length μ' ys := by
  obtain ⟨ys, μ', e, h⟩ := comp_rule I h0 step
  exact ⟨ys, μ', comps_its e, h⟩
/-- .. with one name and no test -/
theorem comps_rule1 {mk : List D → Mu → Ro D} {k : Nat} {te : Ev D} {ds : List D} (I : Nat → Mu → List D → Prop) (h0 : I 0 μ [])
    (step : ∀ i d μ acc, ds[i]? = some d → I i μ acc → ∃ y μ3, te (ρ.set k (some d)) μ = some (.ok y μ3) ∧ I (i + 1) μ3 (acc ++ [y])) :
    ∃ ys μ', comps mk (some (.ok (.its ds) μ)) (tName k) eYes te ρ = mk ys μ' ∧ I ds.length μ' ys :=
  comps_rule I h0 fun i d μ acc hd h => ⟨_, _, true, _, rfl, rfl, fun _ => step i d μ acc hd h, fun z => nomatch z⟩
/-- .. of a function of the item, nothing changes -/
theorem comps_map {mk : List D → Mu → Ro D} {k : Nat} {te : Ev D} {ds : List D} (f : D → D) (h : ∀ d ∈ ds, te (ρ.set k (some d)) μ = some (.ok (f d) μ)) :
    comps mk (some (.ok (.its ds) μ)) (tName k) eYes te ρ = mk (ds.map f) μ := by
  obtain ⟨ys, μ', e, rfl, hy⟩ := comps_rule1 (mk := mk) (k := k) (te := te) (ds := ds) (ρ := ρ) (μ := μ) (fun i μ' ys => μ' = μ ∧ ys = (ds.take i).map f) ⟨rfl, by simp⟩ (by
    rintro i d μ' acc hd ⟨rfl, rfl⟩
    refine ⟨f d, _, h d (List.mem_of_getElem? hd), rfl, ?_⟩
    rw [List.take_add_one, hd]
    simp)
  rw [e, hy, List.take_length]
theorem oNe_ok {a b : D} (ha : (val μ a).nice 60 = true) (hb : (val μ b).nice 60 = true) : oNe a b μ = some (.ok (.bl (!(val μ a).eqv (val μ b))) μ) := by simp [oNe, ha, hb]
end G4

/-! G14: enumerate over lists and tuples. -/
namespace G4
open PySem PySem.Spec PyProof.Rows L2
section
variable {P : Program} {w : World} {K : PySem.W.Frag}
def IteT (K : PySem.W.Frag) (a : Addr) : It where
  go := fun i H => ∃ (xs : List V) (x : V), SqT K H a xs ∧ xs[i]? = some x
  yld := fun i H v H' => ∃ T x, v = .ref T ∧ H T = none ∧ H' = upd H T (.tup [.int (i : Nat), x]) ∧
    ∀ xs, SqT K H a xs → xs[i]? = some x
  stop := fun i H => ∃ xs : List V, SqT K H a xs ∧ xs.length ≤ i
def EnSt (a e it : Addr) (i : Nat) (h : Heap) : Prop :=
  (∃ old, IsEnum h e it ((i : Nat) : Int) old) ∧ h.IsTupleIter it a i ∧ e ≠ it
theorem not_iter {h : Heap} {a b : Addr} {i : Nat} {its : Array Value} (x : h.IsTupleIter a b i) (p : h.IsTuple a its) : False := by
  obtain ⟨o, e, c, _⟩ := x
  obtain ⟨o', e', c', _⟩ := p
  rw [e] at e'
  cases e'
  rw [c] at c'
  exact absurd c' (by decide)
theorem not_enum {h : Heap} {a b : Addr} {i : Int} {v : Value} {its : Array Value} (x : IsEnum h a b i v) (p : h.IsTuple a its) : False := by
  obtain ⟨o', e', c', _⟩ := p
  rw [show h.get? a = some _ from x] at e'
  cases e'
  have c'' : Value.type "enumerate" = Value.type "tuple" := c'
  exact absurd c'' (by decide)
theorem draws_end {A : Around} (hh : A.handled = none) (it t : Addr) (items : Array Value) (i : Nat) (hi : items.size ≤ i) :
    Draws P w A it [it, t] i (fun _ _ => True) (fun j h => j = i ∧ h.IsTupleIter it t i ∧ h.IsTuple t items) where
  live := fun _ _ st => let ⟨o, ho, _⟩ := st.2.1; ⟨o, ho⟩
  frame := by
    rintro j h h' ⟨e, st, tp⟩ hk
    exact ⟨e, st.at fun o z => hk it (by simp) o z, tp.at fun o z => hk t (by simp) o z⟩
  item := by
    rintro j s Q E hj ⟨e, _⟩ _
    omega
  done := by
    rintro s Q E ⟨_, st, tp⟩ hE
    exact wpAny_nextOf_tuple_end hh st tp (Array.getElem?_eq_none hi) hE
theorem turn_enumT {el : List Expr} {k : Nat} {q : Pos} (a e it : Addr) :
    Turn P w K (.Tuple el k q) (IteT K a) [e, it] e (EnSt a e it) where
  mem := List.mem_cons_self ..
  obj := by
    rintro i h ⟨⟨old, he⟩, ⟨o, ho, hc, hd⟩, _⟩ b hb
    rcases List.mem_cons.mp hb with rfl | hb
    · exact ⟨_, he, fun v z => nomatch z⟩
    · rw [List.mem_singleton.mp hb]
      exact ⟨o, ho, fun v z => by rw [hd] at z; cases z⟩
  keep := by
    rintro i h h' ⟨⟨old, he⟩, hi, hne⟩ k
    exact ⟨⟨old, k e (by simp) _ he⟩, hi.at fun o z => k it (by simp) o z, hne⟩
  item := by
    rintro X rfl rfl rfl hc i pins s σ H E I hf ⟨⟨old, he⟩, hit, hne⟩ ⟨xs, x, hq, hx⟩
    obtain ⟨its, rv, p, hz⟩ := I.tuple hq
    obtain ⟨u, hu, ru⟩ := rv.get hx
    have p : s.heap.IsTuple a its.toArray := p
    have hel : e < s.heap.objs.size := Heap.lt_size he
    have hil : it < s.heap.objs.size := by
      obtain ⟨_, z, _⟩ := hit
      exact Heap.lt_size z
    obtain ⟨f0, f1, f2, f3, f4, f5⟩ := hf it (by simp)
    have hd : X.A.in1.handled = none := I.ok.hd hc
    have ni : it ≠ a := by
      rintro rfl
      exact not_iter hit p
    have ne : e ≠ a := by
      rintro rfl
      exact not_enum he p
    have dr := Draws.tuple (prog := X.prog) (w := X.w) hd it a (Ne.symm ni) its.toArray
    have ef : e ∉ [it, a] := by
      intro z
      rcases List.mem_cons.mp z with z | z
      · exact hne z
      · exact ne (List.mem_singleton.mp z)
    have hlt : i < its.toArray.size := by
      have := (List.getElem?_eq_some_iff.mp hu).1
      simpa using this
    refine wpAny_pyNext_enum_itemD dr he ⟨hit, p⟩ hlt hne ef fun v h' tk hv ho hst hT hsz hk => ?_
    have hv : v = u := by
      have hv' : its[i]? = some v := by simpa using hv
      rw [hu] at hv'
      cases hv'
      rfl
    subst hv
    refine ⟨_, rfl, wpAny_letOwnedTupleGo_enum (s := { s with heap := h', toks := tk + 1 }) ho fun h'' he' sb => ?_⟩
    have hT2 := (sb.2 _ (Nat.ne_of_gt hel)).trans hT
    have new : ObjOk X.prog X.w (upd H s.heap.objs.size (.tup [.int (i : Nat), x])) h'' s.heap.objs.size (.tup [.int (i : Nat), x]) :=
      ⟨by show 2 ≤ sizeLine; decide, [.int i tk, v], .cons ⟨_, rfl⟩ (.cons ru .nil), ⟨_, hT2, rfl, _, rfl⟩⟩
    have I1 : Inv X pins σ (upd H s.heap.objs.size (.tup [.int (i : Nat), x])) { s with heap := h'', toks := tk + 1 } := by
      refine I.turnedNew (ch := [e, it]) (fun b o hb z => ?_) hf (Nat.le_refl _) new
      have b1 : b ≠ e := fun z => hb (by simp [z])
      have b2 : b ≠ it := fun z => hb (by simp [z])
      exact (sb.2 b b1).trans (hk b o b1 b2 z)
    refine ⟨.ref s.heap.objs.size, _, I1, rfl, ⟨_, x, rfl, I.hok.fresh (Nat.le_refl _), rfl, ?_⟩, ⟨⟨v, ?_⟩, ?_, hne⟩, ?_⟩
    · intro ys hy
      rw [I.tuple_inj hy hq]
      exact hx
    · have e1 : ((i + 1 : Nat) : Int) = (i : Int) + 1 := by omega
      rw [e1]
      exact he'
    · exact hst.1.at fun o z => (sb.2 it (Ne.symm hne)).trans z
    · intro b hb
      have hb' : b < s.heap.objs.size := by
        rcases List.mem_cons.mp hb with rfl | z
        · exact hel
        · rw [List.mem_singleton.mp z]; exact hil
      rw [upd_ne (Nat.ne_of_lt hb')]
      exact (hf b hb).1
  done := by
    rintro X rfl rfl rfl hc i pins s σ H E I hf ⟨⟨old, he⟩, hit, hne⟩ ⟨xs, hq, hx⟩
    obtain ⟨its, rv, p, hz⟩ := I.tuple hq
    have p : s.heap.IsTuple a its.toArray := p
    obtain ⟨f0, f1, f2, f3, f4, f5⟩ := hf it (by simp)
    have hd : X.A.in1.handled = none := I.ok.hd hc
    have hl := rv.length
    have ne : e ∉ [it, a] := by
      intro z
      rcases List.mem_cons.mp z with z | z
      · exact hne z
      · rw [List.mem_singleton.mp z] at he
        exact not_enum he p
    have dr := draws_end (P := X.prog) (w := X.w) hd it a its.toArray i (by simp; omega)
    refine wpAny_pyNext_enum_endD dr he ⟨rfl, hit, p⟩ fun h' eb => ⟨rfl, ?_⟩
    exact I.turned (t' := s.toks) (fun b o hb z => eb b o hb z) f0 f1 f3 f4 f5
  self := by
    rintro A i s Q E ⟨⟨_, he⟩, _⟩ h
    exact wpAny_pyIter_enum he h
end
/-! it begins -/
def tupIt (t : Addr) : Obj := { cls := .type "tuple_iterator", data := .fields #[.ref t, .int 0 0] }
def enOb (it : Addr) : Obj := { cls := .type "enumerate", data := .fields #[.none, .bool false, .ref it, rawInt 0, .none, .none] }
theorem meets_en1 (t : Addr) (its : Array Value) : Meets (Builtin.«enumerate.__new__» ⟨[.type "enumerate", .ref t], []⟩) fun _ R s =>
    s.heap.IsTuple t its ∧ R (.ok (.ret (.ref (s.heap.push (tupIt t)).objs.size))) { s with heap := (s.heap.push (tupIt t)).push (enOb s.heap.objs.size) } :=
  .of_wp fun prog w A R s h => by
    obtain ⟨hp, g, d, tk, os⟩ := s
    obtain ⟨h1, h⟩ := h
    have hs := sub_enumerate
    have q1 : ∀ {A' : Around} {E : Value → Shared → Prop} {Q : Value → Shared → Prop}, Q (.ref hp.objs.size) ⟨hp.push (tupIt t), g, d, tk, os⟩ →
        wpAny (model prog w) A' (pyIter (.ref t)) Q E ⟨hp, g, d, tk, os⟩ := fun q => wpAny_pyIter_tuple h1 q
    wp_walk using q1
    refine wpAny_stack_any fun st => wpAny_pure ?_
    split
    · rename_i c _ _ _ _ _
      cases (c == Value.type "enumerate") <;> (wp_walk using q1; exact ⟨_, rfl, h⟩)
    · wp_walk using q1
      exact ⟨_, rfl, h⟩
section
variable {prog : Program} {w : World} {A : Around} {E : Value → Shared → Prop} {s : Shared}
theorem call_en1 {t : Addr} {its : Array Value} {Q : Value → Shared → Prop} (hT : s.heap.IsTuple t its)
    (h : ∀ h', IsEnum h' (s.heap.objs.size + 1) s.heap.objs.size 0 .none → h'.IsTupleIter s.heap.objs.size t 0 →
      (∀ b o, s.heap.get? b = some o → h'.get? b = some o) → Q (.ref (s.heap.objs.size + 1)) { s with heap := h' }) :
    wpAny (model prog w) A (call (.type "enumerate") [.ref t]) Q E s := by
  have f1 := fun obj => F.args_object_init_2 obj (.ref t)
  refine callType_new F.called_enumerate (by decide) (F.typeCall_enumerate_1 _) (F.newCall_enumerate_1 _) f1 F.entry_enumerate_new (meets_en1 t its) ⟨hT, ?_⟩
  have hz : (s.heap.push (tupIt t)).objs.size = s.heap.objs.size + 1 := Heap.size_push ..
  show _ ∧ _
  rw [hz]
  have he : IsEnum ((s.heap.push (tupIt t)).push (enOb s.heap.objs.size)) (s.heap.objs.size + 1) s.heap.objs.size 0 .none := by
    have := Heap.get?_push_size (s.heap.push (tupIt t)) (o := enOb s.heap.objs.size) rfl
    rw [hz] at this
    exact this
  refine ⟨⟨_, he, rfl⟩, h _ he ⟨_, Heap.get?_push_of_some _ (Heap.get?_push_size _ rfl), rfl, rfl⟩ fun b o x => ?_⟩
  exact Heap.get?_push_of_some _ (Heap.get?_push_of_some _ x)
end
section
variable {X : Cx}
def iEnA (K : PySem.W.Frag) (ta : TA) : TI := fun σ H R => ta σ H fun vs H1 => ∃ a, vs = [.ref a] ∧
  (((∃ xs, SqL K H1 a xs) ∧ R (Ite K a) H1) ∨ ((∃ xs, SqT K H1 a xs) ∧ R (IteT K a) H1))
theorem pi_enA {e : Expr} {ta : TA} {p pos tpos : Pos} {el : List Expr} {kk : Nat} (hg : Gl X "enumerate") (hm : X.mg "enumerate" = none) (ha : PA X [e] ta)
    (hs : starEach [e] X.env = [(false, eval e X.env)] := by rfl) : PI X (.Tuple el kk tpos) (.Call (.Name "enumerate" p) [e] [] pos) (iEnA X.K ta) := by
  refine ⟨fun pins s σ H R I h => ?_⟩
  refine Call_ (ld_blt I hg hm boot_enumerate (PyProof.Rows.callWith_type1 (thn (ha.run pos pins s σ H _ I h) fun us s1 ⟨vs, H1, I1, r1, q1⟩ => ?_) hs rfl))
  obtain ⟨a, rfl, q1⟩ := q1
  cases r1 with
  | cons r rr =>
    cases rr
    cases r
    have fp : ∀ b, b ∈ [s1.heap.objs.size + 1, s1.heap.objs.size] → FpOk X pins H1 b := fun b hb => by
      have hle : s1.heap.objs.size ≤ b := by
        rcases List.mem_cons.mp hb with rfl | z
        · exact Nat.le_add_right _ _
        · rw [List.mem_singleton.mp z]; exact Nat.le_refl _
      exact I1.fpOk hle (I1.hok.fresh hle)
    rcases q1 with ⟨⟨xs, hq⟩, q⟩ | ⟨⟨xs, hq⟩, q⟩
    · obtain ⟨its, rv, p', hz⟩ := I1.list hq
      refine call_enumerate_list p'.isList fun h' he hit hsz hk => wpAny_pyIter_enum he ?_
      have I2 : Inv X pins σ H1 { s1 with heap := h' } := I1.kept (t' := s1.toks) hk
      exact ⟨_, _, _, _, H1, rfl, I2, turn_enum a (s1.heap.objs.size + 1) s1.heap.objs.size, ⟨⟨.none, he⟩, hit, Nat.succ_ne_self _⟩, fp, q⟩
    · obtain ⟨its, rv, p', hz⟩ := I1.tuple hq
      refine call_en1 (show s1.heap.IsTuple a its.toArray from p') fun h' he hit hk => wpAny_pyIter_enum he ?_
      have I2 : Inv X pins σ H1 { s1 with heap := h' } := I1.kept (t' := s1.toks) hk
      exact ⟨_, _, _, _, H1, rfl, I2, turn_enumT a (s1.heap.objs.size + 1) s1.heap.objs.size, ⟨⟨.none, he⟩, hit, Nat.succ_ne_self _⟩, fp, q⟩
end
section
variable {G : Gx} {n0 : Nat} {W : WX}
def pairs : Nat → List D → List D
  | _, [] => []
  | i, d :: ds => .tup [.int (i : Nat), d] :: pairs (i + 1) ds
theorem pairs_get : ∀ {ds : List D} {k i : Nat}, (pairs k ds)[i]? = (ds[i]?).map fun d => D.tup [.int ((k + i : Nat) : Int), d]
  | [], k, i => by simp [pairs]
  | d :: ds, k, 0 => by simp [pairs]
  | d :: ds, k, i + 1 => by
    rw [pairs, List.getElem?_cons_succ, List.getElem?_cons_succ, pairs_get, show k + 1 + i = k + (i + 1) by omega]
theorem pairs_len : ∀ {ds : List D} {k : Nat}, (pairs k ds).length = ds.length
  | [], k => rfl
  | d :: ds, k => by rw [pairs, List.length_cons, List.length_cons, pairs_len]
def enA1 : List D → Mu → Ro Src
  | [.tup ds], μ => some (.ok (.its (pairs 0 ds)) μ)
  | [.lst ds], μ => some (.ok (.its (pairs 0 ds)) μ)
  | _, _ => none
def iEnD (f : Ev (List D)) : Ev Src := fun ρ μ => (f ρ μ).bnd enA1
theorem yl_pair {w' : Hw} {μ' : Mu} {T : Addr} {i : Nat} {d : D} {x : V} (c : Mc G w' μ') (hT : w'.H T = none) (r : Fr G.K w' d x) :
    ∃ w2, w2.H = upd w'.H T (.tup [.int (i : Nat), x]) ∧ Ex w' w2 ∧ Mc G w2 μ' ∧ Fr G.K w2 (.tup [.int (i : Nat), d]) (.ref T) := by
  have rs : Frs G.K w' [.int (i : Nat), d] [.int (i : Nat), x] := ⟨_, _, rfl, rfl, _, _, rfl, r, rfl⟩
  exact ⟨w'.fz T (.tup [.int (i : Nat), x]), rfl, .fz c hT, .fz c hT, fr_tup c hT rs⟩
theorem di_enA {t : TA} {f : Ev (List D)} (h : DA G n0 W t f) : DI G n0 W (iEnA G.K t) (iEnD f) := by
  intro w ρ μ σ c vr hn r e R fin
  rcases Ro.bnd_some e with ⟨ds, μ1, e1, e2⟩ | ⟨x, μ1, e1, e2⟩
  · refine h w ρ μ σ c vr hn _ e1 _ fun w1 vs p r1 => ?_
    unfold enA1 at e2
    split at e2 <;> cases e2
    · rename_i ds
      obtain ⟨v, rfl, a, vs, rfl, n, hH, rr⟩ := frs1 r1
      refine ⟨a, rfl, .inr ⟨⟨vs, .of hH⟩, fin w1 _ p fun w' μ' x c' ds' e' i => ?_⟩⟩
      cases e'
      have s : SqT G.K w'.H a vs := .of ((x.keep _ n).trans hH)
      refine ⟨fun d hd => ?_, fun hl => ⟨vs, s, by rw [rr.length]; rw [pairs_len] at hl; exact hl⟩⟩
      rw [pairs_get] at hd
      cases hd2 : ds[i]? with
      | none => rw [hd2] at hd; cases hd
      | some d2 =>
        rw [hd2] at hd
        obtain ⟨v, hv, fr⟩ := rr.get hd2
        have hd : D.tup [.int ((0 + i : Nat) : Int), d2] = d := Option.some.inj hd
        rw [Nat.zero_add] at hd
        subst hd
        refine ⟨⟨vs, v, s, hv⟩, ?_⟩
        rintro y H' ⟨T, z, rfl, hT, rfl, q⟩
        have := q vs s
        rw [hv] at this
        cases this
        exact yl_pair c' hT (fr.mono0 x)
    · rename_i ds
      obtain ⟨v, rfl, a, vs, rfl, n, hH, rr⟩ := frs1 r1
      refine ⟨a, rfl, .inl ⟨⟨vs, .of hH⟩, fin w1 _ p fun w' μ' x c' ds' e' i => ?_⟩⟩
      cases e'
      have s : SqL G.K w'.H a vs := .of ((x.keep _ n).trans hH)
      refine ⟨fun d hd => ?_, fun hl => ⟨vs, s, by rw [rr.length]; rw [pairs_len] at hl; exact hl⟩⟩
      rw [pairs_get] at hd
      cases hd2 : ds[i]? with
      | none => rw [hd2] at hd; cases hd
      | some d2 =>
        rw [hd2] at hd
        obtain ⟨v, hv, fr⟩ := rr.get hd2
        have hd : D.tup [.int ((0 + i : Nat) : Int), d2] = d := Option.some.inj hd
        rw [Nat.zero_add] at hd
        subst hd
        refine ⟨⟨vs, v, s, hv⟩, ?_⟩
        rintro y H' ⟨T, z, rfl, hT, rfl, q⟩
        have := q vs s
        rw [hv] at this
        cases this
        exact yl_pair c' hT (fr.mono0 x)
  · subst e2
    exact h w ρ μ σ c vr hn _ e1 _ fun w1 cls dx p x => fin w1 cls dx p x
@[simp] theorem iEnD_ap {ρ : Env} {μ : Mu} (f : Ev (List D)) : iEnD f ρ μ = Ro.bnd (f ρ μ) enA1 := rfl
@[simp] theorem enA1_tup {μ : Mu} (ds : List D) : enA1 [.tup ds] μ = some (.ok (.its (pairs 0 ds)) μ) := rfl
@[simp] theorem enA1_lst {μ : Mu} (ds : List D) : enA1 [.lst ds] μ = some (.ok (.its (pairs 0 ds)) μ) := rfl
end
end G4

/-! G15: slices and sums of tuples, slices of lists, names of the module. -/
namespace G4
open PySem PySem.Spec PyProof.Rows L2
section
variable {G : Gx} {n0 : Nat} {W : WX}
def cutD (xs : List D) (lo hi : Option Int) : List D := (xs.drop (HT.sIx xs.length 0 lo)).take (HT.sIx xs.length xs.length hi - HT.sIx xs.length 0 lo)
theorem cut_rel {K : PySem.W.Frag} {w : Hw} {xs : List D} {vs : List V} (r : Frs K w xs vs) (lo hi : Option Int) : Frs K w (cutD xs lo hi) (cutV vs lo hi) := by
  unfold cutD cutV
  rw [r.length]
  exact (r.drop _).take _
theorem cut_whole {xs : List D} {lo hi : Option Int} (h : HT.sIx xs.length 0 lo = 0 ∧ HT.sIx xs.length xs.length hi = xs.length) : cutD xs lo hi = xs := by
  unfold cutD
  rw [h.1, h.2]
  simp
abbrev DP (G : Gx) (n0 : Nat) (W : WX) (t : TO) (f : Ev (Option Int)) : Prop := DX G n0 W (fun _ o o' => o' = o) t f
def pNo : Ev (Option Int) := fun _ μ => some (.ok none μ)
def so1 (d : D) (μ : Mu) : Ro (Option Int) := match d with
  | .int i => some (.ok (some i) μ)
  | _ => none
def pSo (f : Ev D) : Ev (Option Int) := fun ρ μ => (f ρ μ).bnd so1
theorem dp_no : DP G n0 W tNoPart pNo := fun w ρ μ σ c vr hn => .ret c rfl fun Q q => q
theorem dp_so {t : TE} {f : Ev D} (h : DE G n0 W t f) : DP G n0 W (tPart t) (pSo f) := fun w ρ μ σ c vr hn =>
  (h w ρ μ σ c vr hn).bnd (uu := fun x H1 Q => ∃ i, x = .int i ∧ Q (some i) H1) fun w1 μ1 d x p r => by
    intro q e Q fin
    unfold so1 at e
    split at e <;> cases e
    rename_i i
    have r : x = .int i := r
    exact ⟨i, r, fin w1 _ (.refl p.mc) rfl⟩
def slT (d : D) (lo hi : Option Int) (μ : Mu) : Ro D := match d with
  | .tup xs => some (.ok (.tup (cutD xs lo hi)) μ)
  | _ => none
def slT2 (d : D) (l : Option Int) (r : Ro (Option Int)) : Ro D := r.bnd fun u μ3 => slT d l u μ3
def slT1 (d : D) (r : Ro (Option Int)) (h : Mu → Ro (Option Int)) : Ro D := r.bnd fun l μ2 => slT2 d l (h μ2)
def slT0 (r : Ro D) (g h : Mu → Ro (Option Int)) : Ro D := r.bnd fun d μ1 => slT1 d (g μ1) h
def eSlT (f : Ev D) (lo hi : Ev (Option Int)) : Ev D := fun ρ μ => slT0 (f ρ μ) (lo ρ) (hi ρ)
theorem de_slT {t : TE} {tl th : TO} {f : Ev D} {lo hi : Ev (Option Int)} (h : DE G n0 W t f) (hl : DP G n0 W tl lo) (hh : DP G n0 W th hi) : DE G n0 W (tSl (rSlA G.K) t tl th) (eSlT f lo hi) := by
  intro w ρ μ σ c vr hn
  refine (h w ρ μ σ c vr hn).bnd (uu := fun x H1 Q => tl σ H1 fun l H2 => th σ H2 fun u H3 => rSlA G.K x l u H3 Q) fun w1 μ1 d x p1 r1 => ?_
  refine (hl w1 ρ μ1 σ p1.mc (vr.mono p1.ex) (p1.nn hn)).bnd (uu := fun l H2 Q => th σ H2 fun u H3 => rSlA G.K x l u H3 Q) fun w2 μ2 l l' p2 r2 => ?_
  have r2 : l' = l := r2
  subst r2
  refine (hh w2 ρ μ2 σ p2.mc ((vr.mono p1.ex).mono p2.ex) (p2.nn (p1.nn hn))).bnd (uu := fun u H3 Q => rSlA G.K x l' u H3 Q) fun w3 μ3 u u' p3 r3 => ?_
  have r3 : u' = u := r3
  subst r3
  intro q e Q fin
  have rd := (r1.mono p2.ex).mono p3.ex
  unfold slT at e
  split at e <;> cases e
  rename_i xs
  obtain ⟨a, vs, rfl, n, hH, rs⟩ := rd
  refine ⟨a, vs, rfl, .of hH, fun hw => ?_, fun hw p hp => ?_⟩
  · rw [rs.length] at hw
    rw [cut_whole hw] at fin
    exact fin w3 _ (.refl p3.mc) ⟨a, vs, rfl, n, hH, rs⟩
  · exact fin_fz p3.mc hp (fr_tup p3.mc hp (cut_rel rs l' u')) fin
/-- t + u -/
def oCatA : D → D → Mu → Ro D
  | .tup xs, .tup ys, μ => if small (xs.length + ys.length) then some (.ok (.tup (xs ++ ys)) μ) else none
  | _, _, _ => none
theorem dr_catA : DR2 G n0 W (rCatA G.K) oCatA := by
  intro w μ σ a x b y c hn ra rb q e Q f
  unfold oCatA at e
  split at e
  · rename_i xs ys
    split at e <;> rename_i hs <;> cases e
    obtain ⟨a, vs, rfl, n1, h1, r1⟩ := ra
    obtain ⟨b, us, rfl, n2, h2, r2⟩ := rb
    refine ⟨a, b, vs, us, rfl, rfl, .of h1, .of h2, by rw [r1.length, r2.length]; exact small_ok hs, ?_, ?_, ?_⟩
    · rintro rfl
      have : xs = [] := by
        have := r1.length
        cases xs
        · rfl
        · simp at this
      subst this
      exact f w _ (.refl c) ⟨b, us, rfl, n2, h2, r2⟩
    · rintro _ rfl
      have : ys = [] := by
        have := r2.length
        cases ys
        · rfl
        · simp at this
      subst this
      rw [List.append_nil] at f
      exact f w _ (.refl c) ⟨a, vs, rfl, n1, h1, r1⟩
    · intro _ _ p hp
      exact fin_fz c hp (fr_tup c hp (r1.append r2)) f
  · cases e
end
theorem pe_gD {X : Cx} {n : Str} {v : V} {pos : Pos} (hg : Gl X n) (h : ∃ u, X.mg n = some u ∧ RelV v u)
    (hd : (n == ("__debug__" : Str)) = false := by decide) : PE X (.Name n pos) (tC v) :=
  h.elim fun u q => pe_glob hg q.1 q.2 hd
section
variable {ρ : Env} {μ : Mu}
@[simp] theorem eSlT_ap (f : Ev D) (lo hi : Ev (Option Int)) : eSlT f lo hi ρ μ = slT0 (f ρ μ) (lo ρ) (hi ρ) := rfl
@[simp] theorem slT0_ok (d : D) (g h : Mu → Ro (Option Int)) : slT0 (some (.ok d μ)) g h = slT1 d (g μ) h := rfl
@[simp] theorem slT1_ok (d : D) (l : Option Int) (h : Mu → Ro (Option Int)) : slT1 d (some (.ok l μ)) h = slT2 d l (h μ) := rfl
@[simp] theorem slT2_ok (d : D) (l u : Option Int) : slT2 d l (some (.ok u μ)) = slT d l u μ := rfl
@[simp] theorem slT_tup (xs : List D) (l u : Option Int) : slT (.tup xs) l u μ = some (.ok (.tup (cutD xs l u)) μ) := rfl
@[simp] theorem pNo_ap : pNo ρ μ = some (.ok none μ) := rfl
@[simp] theorem pSo_ap (f : Ev D) : pSo f ρ μ = Ro.bnd (f ρ μ) so1 := rfl
@[simp] theorem so1_int (i : Int) : so1 (.int i) μ = some (.ok (some i) μ) := rfl
theorem oCatA_ok {xs ys : List D} (h : xs.length + ys.length ≤ 16777216) : oCatA (.tup xs) (.tup ys) μ = some (.ok (.tup (xs ++ ys)) μ) := by simp [oCatA, small, h]
theorem cut_to (xs : List D) {i : Int} (h0 : 0 ≤ i) : cutD xs none (some i) = xs.take i.toNat := by
  have e : HT.sIx xs.length xs.length (some i) = min i.toNat xs.length := by
    have := HT.sIx_nat xs.length xs.length i.toNat
    rw [Int.toNat_of_nonneg h0] at this
    exact this
  unfold cutD
  rw [e, HT.sIx_none]
  simp [List.take_eq_take_min]
theorem cut_from (xs : List D) {i : Int} (h0 : 0 ≤ i) : cutD xs (some i) none = xs.drop i.toNat := by
  have e : HT.sIx xs.length 0 (some i) = min i.toNat xs.length := by
    have := HT.sIx_nat xs.length 0 i.toNat
    rw [Int.toNat_of_nonneg h0] at this
    exact this
  unfold cutD
  rw [e, HT.sIx_none]
  by_cases h : i.toNat ≤ xs.length
  · rw [Nat.min_eq_left h, List.take_of_length_le (by rw [List.length_drop]; omega)]
  · rw [Nat.min_eq_right (by omega), List.drop_eq_nil_of_le (Nat.le_refl _), List.drop_eq_nil_of_le (by omega)]
    simp
end
end G4

/-! G16: l.index(x). -/
namespace G4
open PySem PySem.Spec PyProof.Rows L2
section
variable {G : Gx} {n0 : Nat} {W : WX}
def idx1 (o : D) (as : List D) (μ : Mu) : Ro D := match o, as with
  | .lst xs, [d] => if (D.lst xs).nice 60 && (val μ d).nice 60 then (match xs.findIdx? fun z => z.eqv (val μ d) with
    | some j => some (.ok (.int (j : Nat)) μ)
    | none => none) else none
  | _, _ => none
def idx0 (r : Ro D) (k : Mu → Ro (List D)) : Ro D := r.bnd fun o μ1 => match o with
  | .lst xs => (k μ1).bnd (idx1 (.lst xs))
  | .cell c => (match μ1[c]? with
    | some (some (.lst _)) => (k μ1).bnd fun as μ2 => (match μ2[c]? with
      | some (some (.lst xs)) => idx1 (.lst xs) as μ2
      | _ => none)
    | _ => none)
  | _ => none
def eIdx (f : Ev D) (g : Ev (List D)) : Ev D := fun ρ μ => idx0 (f ρ μ) (g ρ)
theorem pys_get {xs : List D} {j : Nat} {d : D} (h : xs[j]? = some d) : (pys xs)[j]? = some d.py := by
  rw [pys_map, List.getElem?_map, h]
  rfl
theorem de_idx {to : TE} {t : TA} {f : Ev D} {g : Ev (List D)} (h : DE G n0 W to f) (k : DA G n0 W t g) : DE G n0 W (tBM G.K "list" (rIndexD G.K) to t) (eIdx f g) := by
  intro w ρ μ σ c vr hn
  refine (h w ρ μ σ c vr hn).bnd (uu := fun x H1 (Q : VK) => tyV G.K "list" x H1 ∧ t σ H1 fun xs H2 => rIndexD G.K x xs H2 Q) fun w1 μ1 o x p1 r1 => ?_
  intro q e Q fin
  split at e
  · rename_i xs
    have r1' := r1
    obtain ⟨a, vs, rfl, n, hH, rs⟩ := r1
    refine ⟨.inl ⟨rfl, vs, .of hH⟩, ?_⟩
    refine (k w1 ρ μ1 σ p1.mc (vr.mono p1.ex) (p1.nn hn)).bnd (R' := Fr G.K) (uu := fun us H2 (Q : VK) => rIndexD G.K (.ref a) us H2 Q) (fun w2 μ2 as us p2 r2 => ?_) q e Q fin
    intro q e Q fin
    unfold idx1 at e
    split at e <;> try cases e
    rename_i ys d he
    cases he
    split at e <;> rename_i hs <;> try cases e
    rw [Bool.and_eq_true] at hs
    split at e <;> cases e
    rename_i j hj
    obtain ⟨y, rfl, fr⟩ := frs1 r2
    obtain ⟨hl, hp, hno⟩ := List.findIdx?_eq_some_iff_getElem.mp hj
    have e1 := val_dp (d := .lst xs) p2.mc (r1'.mono p2.ex) hs.1
    have s1 := nice_shaped hs.1
    refine ⟨a, y, (val μ2 d).py, pys xs, j, xs[j].py, rfl, rfl, e1, val_dp p2.mc fr hs.2, s1, nice_shaped hs.2, pys_get (List.getElem?_eq_getElem hl), hp, ?_, fin w2 _ (.refl p2.mc) rfl⟩
    intro m z' hm hz'
    have hml : m < xs.length := by omega
    rw [pys_get (List.getElem?_eq_getElem hml)] at hz'
    cases hz'
    have := hno m hm
    simpa [D.eqv] using this
  · rename_i c'
    have r1' := r1
    obtain ⟨a, rfl, ha⟩ := r1
    split at e <;> try cases e
    rename_i xs0 hm0
    obtain ⟨⟨vs0, h1, _⟩, _⟩ := p1.mc.cell c' _ a hm0 ha
    refine ⟨.inl ⟨rfl, vs0, .of h1⟩, ?_⟩
    refine (k w1 ρ μ1 σ p1.mc (vr.mono p1.ex) (p1.nn hn)).bnd (R' := Fr G.K) (uu := fun us H2 (Q : VK) => rIndexD G.K (.ref a) us H2 Q) (fun w2 μ2 as us p2 r2 => ?_) q e Q fin
    intro q e Q fin
    split at e <;> try cases e
    rename_i xs hm
    unfold idx1 at e
    split at e <;> try cases e
    rename_i ys d he
    cases he
    split at e <;> rename_i hs <;> try cases e
    rw [Bool.and_eq_true] at hs
    split at e <;> cases e
    rename_i j hj
    obtain ⟨y, rfl, fr⟩ := frs1 r2
    obtain ⟨hl, hp, hno⟩ := List.findIdx?_eq_some_iff_getElem.mp hj
    have ev : val μ2 (.cell c') = .lst xs := by simp [val, hm]
    have e1 := val_dp (d := .cell c') p2.mc (r1'.mono p2.ex) (by rw [ev]; exact hs.1)
    rw [ev] at e1
    have s1 := nice_shaped hs.1
    refine ⟨a, y, (val μ2 d).py, pys xs, j, xs[j].py, rfl, rfl, e1, val_dp p2.mc fr hs.2, s1, nice_shaped hs.2, pys_get (List.getElem?_eq_getElem hl), hp, ?_, fin w2 _ (.refl p2.mc) rfl⟩
    intro m z' hm hz'
    have hml : m < xs.length := by omega
    rw [pys_get (List.getElem?_eq_getElem hml)] at hz'
    cases hz'
    have := hno m hm
    simpa [D.eqv] using this
  · cases e
end
section
variable {ρ : Env} {μ : Mu}
@[simp] theorem eIdx_ap (f : Ev D) (g : Ev (List D)) : eIdx f g ρ μ = idx0 (f ρ μ) (g ρ) := rfl
@[simp] theorem idx0_lst (xs : List D) (k : Mu → Ro (List D)) : idx0 (some (.ok (.lst xs) μ)) k = Ro.bnd (k μ) (idx1 (.lst xs)) := rfl
theorem idx0_cell {c : Nat} {xs ys as : List D} {μ1 : Mu} {k : Mu → Ro (List D)} (h : μ[c]? = some (some (.lst xs))) (e : k μ = some (.ok as μ1)) (h2 : μ1[c]? = some (some (.lst ys))) : idx0 (some (.ok (.cell c) μ)) k = idx1 (.lst ys) as μ1 := by
  show (match μ[c]? with
    | some (some (.lst _)) => (k μ).bnd fun as μ2 => (match μ2[c]? with
      | some (some (.lst xs)) => idx1 (.lst xs) as μ2
      | _ => none)
    | _ => none) = _
  rw [h, e]
  simp only [bnd_ok, h2]
theorem idx1_ok {xs : List D} {d : D} {j : Nat} (h1 : (D.lst xs).nice 60 = true) (h2 : (val μ d).nice 60 = true) (h : (xs.findIdx? fun z => z.eqv (val μ d)) = some j) : idx1 (.lst xs) [d] μ = some (.ok (.int (j : Nat)) μ) := by
  simp [idx1, h1, h2, h]
end
end G4

/-! G17: set comprehensions of ints, with one or two fors. -/
namespace G4
open PySem PySem.Spec PyProof.Rows L2
section
variable {prog : Program} {w : World} {A : Around} {R : Result → Shared → Prop} {s : Shared}
abbrev sc1 (elt t1 i1 : Expr) (f1 : List Expr) (sc : Scope) (pos : Pos) : Expr := .SetComp elt [⟨t1, i1, f1, 0⟩] sc pos
abbrev sc2 (elt t1 i1 : Expr) (f1 : List Expr) (t2 i2 : Expr) (f2 : List Expr) (sc : Scope) (pos : Pos) : Expr := .SetComp elt [⟨t1, i1, f1, 0⟩, ⟨t2, i2, f2, 0⟩] sc pos
/-- an item goes into the set -/
def emS (elt : Expr) (acc : Value) (env : PySem.Env) (k : Sem PySem.Fin) : Sem PySem.Fin :=
  (do let v ← eval elt env; standAt elt.pos; let _ ← call (.builtin "set.add") [acc, v]) >>= fun _ => k
/-- the inner for runs -/
def emF (e i2 : Expr) (acc : Value) (env : PySem.Env) (k : Sem PySem.Fin) : Sem PySem.Fin := do
  let x ← eval i2 env
  standAt i2.pos
  let x ← foldedSetIterable i2 env x
  let j ← holding [x] (pyIter x)
  let _ ← runOwn (.compStart e 1 j acc env) env
  k
/-- one turn of a for -/
def cturn (e : Expr) (d : Nat) (p : Pos) (tg : Expr) (fs : List Expr) (em : Sem PySem.Fin → Sem PySem.Fin) (it acc : Value) (env : PySem.Env) : Sem PySem.Fin := do
  standAt p
  match ← pyNext it with
  | none => pure (.done .next)
  | some u =>
    letOwnedTupleGo tg it u
    assign tg env u
    let mut ok := true
    for c in fs do
      if ok then
        ok ← isTrue c env (eval c env)
    if ok then em (again (.compLoop e d it acc env)) else again (.compLoop e d it acc env)
theorem ct_one (elt t1 i1 : Expr) (f1 : List Expr) (sc : Scope) (pos : Pos) (it acc : Value) (env : PySem.Env) :
    compTurn (sc1 elt t1 i1 f1 sc pos) 0 it acc env = cturn (sc1 elt t1 i1 f1 sc pos) 0 i1.pos t1 f1 (emS elt acc env) it acc env := by rfl
theorem ct_in (elt t1 i1 : Expr) (f1 : List Expr) (t2 i2 : Expr) (f2 : List Expr) (sc : Scope) (pos : Pos) (it acc : Value) (env : PySem.Env) :
    compTurn (sc2 elt t1 i1 f1 t2 i2 f2 sc pos) 1 it acc env = cturn (sc2 elt t1 i1 f1 t2 i2 f2 sc pos) 1 i2.pos t2 f2 (emS elt acc env) it acc env := by rfl
theorem ct_out (elt t1 i1 : Expr) (f1 : List Expr) (t2 i2 : Expr) (f2 : List Expr) (sc : Scope) (pos : Pos) (it acc : Value) (env : PySem.Env) :
    compTurn (sc2 elt t1 i1 f1 t2 i2 f2 sc pos) 0 it acc env = cturn (sc2 elt t1 i1 f1 t2 i2 f2 sc pos) 0 i1.pos t1 f1 (emF (sc2 elt t1 i1 f1 t2 i2 f2 sc pos) i2 acc env) it acc env := by rfl
/-- what is done with an item, and then P -/
def EmOk (M : Model) (A : Around) (em : Sem PySem.Fin → Sem PySem.Fin) (P : Shared → Prop) (s : Shared) : Prop :=
  ∀ (k : Sem PySem.Fin) (Q : PySem.Fin → Shared → Prop) (E : Value → Shared → Prop), (∀ s', P s' → wpAny M A k Q E s') → wpAny M A (em k) Q E s
/-- a loop of the block: nothing raises -/
theorem cloop {elt : Expr} {gens : List Comprehension} {sc : Scope} {pos p : Pos} {d : Nat} {it acc : Value} {env : PySem.Env} {tg : Expr} {fs : List Expr} {em : Sem PySem.Fin → Sem PySem.Fin}
    (ht : compTurn (.SetComp elt gens sc pos) d it acc env = cturn (.SetComp elt gens sc pos) d p tg fs em it acc env) (I : Nat → Shared → Prop)
    (turn : ∀ n s, I n s → wpAny (model prog w) A (pyNext it) (fun r s1 => match r with
      | none => R (.ok .next) s1
      | some v => wpAny (model prog w) A (letOwnedTupleGo tg it v) (fun _ s2 => wpAny (model prog w) A (assign tg env v) (fun _ s3 =>
          wpAny (model prog w) A (forIn fs true fun c r => if r = true then do let ok ← isTrue c env (eval c env); pure (ForInStep.yield ok) else pure (ForInStep.yield r))
            (fun ok s4 => if ok = true then EmOk (model prog w) A em (fun s5 => ∃ m, m < n ∧ I m s5) s4 else ∃ m, m < n ∧ I m s4)
            (fun _ _ => False) s3) (fun _ _ => False) s2) (fun _ _ => False) s1) (fun _ _ => False) s)
    (n : Nat) (h : I n s) : codeAny (model prog w) A (.compLoop (.SetComp elt gens sc pos) d it acc env) R s := by
  refine codeAny_loop rfl I (fun n s hI => ?_) n h
  show wpAny _ A ((compTurn (.SetComp elt gens sc pos) d it acc env).onRaise fun x => do noteFrame x env; theTreesLotGoes x) _ _ s
  refine wpAny_noted ?_
  rw [ht]
  unfold cturn
  refine wpAny_bind (wpAny_standAt (wpAny_bind (thnF (turn n s hI) fun r s1 h1 => ?_)))
  cases r with
  | none => exact wpAny_pure h1
  | some v =>
    refine wpAny_bind (thnF h1 fun _ s2 h2 => ?_)
    refine wpAny_bind (thnF h2 fun _ s3 h3 => wpAny_bind (thnF h3 fun ok s4 h4 => ?_))
    cases ok with
    | false => exact wpAny_pure ⟨rfl, h4⟩
    | true => exact h4 _ _ _ fun s5 h5 => wpAny_pure ⟨rfl, h5⟩
/-- it begins: the iterator itself, or its own iterator -/
theorem cstart {elt : Expr} {gens : List Comprehension} {g : Comprehension} {sc : Scope} {pos : Pos} {d : Nat} {it acc : Value} {env : PySem.Env} (hg : gens[d]? = some g) (ha : g.is_async = 0)
    (h0 : codeAny (model prog w) A (.compLoop (.SetComp elt gens sc pos) d it acc env) R s)
    (h : wpAny (model prog w) A (pyIter it) (fun it' s' => codeAny (model prog w) A (.compLoop (.SetComp elt gens sc pos) d it' acc env) R s') (fun _ _ => False) s) :
    codeAny (model prog w) A (.compStart (.SetComp elt gens sc pos) d it acc env) R s := by
  refine codeAny_of_tree ?_
  show wpAny _ A ((compStart (.SetComp elt gens sc pos) d it acc env).onRaise fun x => do noteFrame x env; standAt theWindowsPlace) _ _ s
  refine wpAny_notedAt ?_
  unfold compStart
  have e : ((clausesOf (.SetComp elt gens sc pos))[d]?).elim false (fun c => c.is_async != 0) = false := by
    show (gens[d]?).elim false _ = false
    rw [hg]
    show (g.is_async != 0) = false
    rw [ha]
    rfl
  rw [e]
  show wpAny _ A (ask >>= _) _ _ s
  refine wpAny_bind (wpAny_askSetting (wpAny_ite ?_))
  split
  · first
      | exact wpAny_bind (wpAny_pure (wpAny_pure ⟨rfl, h0⟩))
      | exact wpAny_pure ⟨rfl, h0⟩
  · have hc : (clausesOf (.SetComp elt gens sc pos))[d]? = some g := hg
    rw [hc]
    refine wpAny_bind (wpAny_rule ?_)
    refine wpAny_bind (wpAny_standAt (wpAny_bind (thnF h fun it' s' h' => wpAny_pure ⟨rfl, h'⟩)))
theorem emS_ok {elt : Expr} {acc : Value} {env : PySem.Env} {P : Shared → Prop}
    (h : wpAny (model prog w) A (eval elt env) (fun x s1 => wpAny (model prog w) A (call (.builtin "set.add") [acc, x]) (fun _ s2 => P s2) (fun _ _ => False) s1) (fun _ _ => False) s) :
    EmOk (model prog w) A (emS elt acc env) P s := by
  intro k Q E hk
  unfold emS
  exact wpAny_bind (wpAny_bind (thnF h fun x s1 h1 => wpAny_bind (wpAny_standAt (wpAny_bind (thnF h1 fun _ s2 h2 => wpAny_pure (hk s2 h2))))))
theorem emF_ok {e i2 : Expr} {acc : Value} {env : PySem.Env} {P : Shared → Prop} (hs : ∀ x, foldedSetIterable i2 env x = pure x)
    (h : wpAny (model prog w) A (eval i2 env) (fun x s1 => wpAny (model prog w) A (pyIter x) (fun j s2 => ∀ R : Result → Shared → Prop, (∀ s3, P s3 → R (.ok .next) s3) → codeAny (model prog w) A (.compStart e 1 j acc env) R s2) (fun _ _ => False) s1) (fun _ _ => False) s) :
    EmOk (model prog w) A (emF e i2 acc env) P s := by
  intro k Q E hk
  unfold emF
  refine wpAny_bind (thnF h fun x s1 h1 => wpAny_bind (wpAny_standAt (wpAny_bind (wpAny_of_eq (hs x) ?_))))
  refine wpAny_bind (wpAny_holding (thnF h1 fun j s2 h2 => wpAny_bind (wpAny_runOwn ?_)))
  exact h2 _ fun s3 h3 => hk s3 h3
end
/-! ### the block -/
section
variable {X : Cx}
def addTo (w : World) (D : Addr) (y : V) (H4 : Hp) (Nx : Hp → Prop) : Prop := ∃ (k : Int) (S : Int → Bool) (n : Nat), y = .int k ∧ H4 D = some (SetO w D S n) ∧ n + 1 < scanBound ∧
  Nx (upd H4 D (SetO w D (fun j => S j || decide (j = k)) (if S k = true then n else n + 1)))
abbrev Act := Addr → L2.St → Hp → (Hp → Prop) → Prop
def tSetG (w : World) (wi : TI) (g : TG) (tt : TT) (act : Act) (vs : List Nat) : TE := fun σ H Q => wi σ H fun J H1 => ∀ D, H1 D = none →
  ∃ W : Nat → Nat → Hp → Prop, (∃ m, W 0 m (upd H1 D (SetO w D (fun _ => false) 0))) ∧ ∀ i m H, W i m H →
    (J.stop i H ∧ Q (.ref D) H) ∨ (J.go i H ∧ ∃ Nx : Hp → Prop, (∀ H', Nx H' → ∃ m', m' < m ∧ W (i + 1) m' H') ∧
      ∀ x H', J.yld i H x H' → g x (wipe σ vs) H' fun σ2 H2 => wipe σ2 vs = wipe σ vs ∧ tt σ2 H2 fun b H3 => if b = true then act D σ2 H3 Nx else Nx H3)
abbrev freshSet (w : World) : Obj := { cls := .type "set", dict := none, data := .set #[] 0 (.fresh 0 0 (!w.params.followText "set-order")) }
/-- the contexts of a block -/
abbrev Blks (X : Cx) (sc : Scope) (F : Cx → Prop) : Prop := ∀ (s : Shared) (H : Hp) (C : Addr) (cl : List (PySem.Str × Addr)) (fp : List Addr), F (X.blk s H sc (compEnvC sc cl C X.env) fp)
def ActOk (X' : Cx) (em : Value → PySem.Env → Sem PySem.Fin → Sem PySem.Fin) (act : Act) (vs : List Nat) : Prop :=
  ∀ (pins : List (Addr × Obj)) (s : Shared) (σ : L2.St) (H : Hp) (D : Addr) (Nx : Hp → Prop), Inv X' pins σ H s → act D σ H Nx →
    EmOk (model X'.prog X'.w) X'.A (em (.ref D) X'.env) (fun s5 => ∃ σ5 H5, Inv X' pins σ5 H5 s5 ∧ wipe σ5 vs = wipe σ vs ∧ Nx H5) s
theorem set_coreU {pins : List (Addr × Obj)} {s : Shared} {σ : L2.St} {H : Hp} {Q : VK} {elt tg iter : Expr} {ifs : List Expr} {rest : List Comprehension} {sc : Scope} {own : List (PySem.Str × Nat)} {pos pos' : Pos} {use : Option (Value → Sem Unit)} {Qf : Value → Shared → Prop}
    {wi : TI} {g : TG} {tt : TT} {act : Act} {em : Value → PySem.Env → Sem PySem.Fin → Sem PySem.Fin}
    (ct : ∀ it acc env, compTurn (.SetComp elt (⟨tg, iter, ifs, 0⟩ :: rest) sc pos) 0 it acc env = cturn (.SetComp elt (⟨tg, iter, ifs, 0⟩ :: rest) sc pos) 0 iter.pos tg ifs (em acc env) it acc env)
    (hc : X.calm = true) (hN : X.N.Nodup) (I : Inv X pins σ H s) (hi : PI X tg iter wi) (ok : BlkOk X.N X.env.scope sc own)
    (hg : Blks X sc fun X' => PG X' tg g) (ht : Blks X sc fun X' => PTs X' ifs tt) (ha : Blks X sc fun X' => ActOk X' em act (own.map (·.2)))
    (hs : ∀ x, foldedSetIterable iter X.env x = pure x) (h : tSetG X.w wi g tt act (own.map (·.2)) σ H Q)
    (hRR : ∀ D C s' m H', Inv X pins σ H' s' → Q (.ref D) H' → s'.heap.Ns C m → FpOk X pins H' C → compPost (model X.prog X.w) X.A X.xe use Qf (.ref D) C (.ok .next) s') :
    wpAny (model X.prog X.w) X.A (comprehension (.SetComp elt (⟨tg, iter, ifs, 0⟩ :: rest) sc pos) sc X.env pos' (newSet (.type "set")) false (eval iter X.env) use) Qf X.xe s := by
  have hfree : ∀ y ∈ sc.names, y.2 = .free → ∃ c, X.env.cells.lookup y.1 = some c := by
    intro y hy e
    have := ok.free y hy e
    exact I.ok.has _ this
  refine wpAny_comprehension_free (use := use) rfl hs (closure_ok hfree) ok.kind (fun y hy e => by rw [ok.uniq y hy, e]) (thn (hi.run pins s σ H _ I h) fun xv s1 hx => thn hx fun itv s2 h2 => ?_)
  obtain ⟨it, fp, tn, J, H2, rfl, I2, T, st2, f2, q⟩ := h2
  apply PpSet.newSet_ok
  apply newEnv_comp
  generalize hD : s2.heap.objs.size = D
  have hDn : H2 D = none := I2.hok.fresh (Nat.le_of_eq hD)
  obtain ⟨W, ⟨m0, w0⟩, turn⟩ := q D hDn
  have h3 : ∃ s3 : Shared, s3 = { s2 with heap := s2.heap.push (freshSet X.w) } := ⟨_, rfl⟩
  obtain ⟨s3, hs3⟩ := h3
  have hs3' : ({ s2 with heap := s2.heap.push (freshSet X.w) } : Shared) = s3 := hs3.symm
  rw [hs3']
  generalize hH3 : upd H2 D (SetO X.w D (fun _ => false) 0) = H3 at w0
  have hp3 : s3.heap = s2.heap.push (freshSet X.w) := by rw [hs3]
  have I3 : Inv X pins σ H3 s3 := by
    rw [hs3, ← hH3]
    refine I2.laid (t' := s2.toks) (fun b o e => Heap.get?_push_of_some _ e) (Nat.le_of_eq hD) ?_
    rw [← hD]
    exact setO_new (setR_fresh X.w)
  have sz : ∀ b ∈ fp, b < s2.heap.objs.size := by
    intro b hb
    obtain ⟨o, e, _⟩ := T.obj _ _ st2 b hb
    exact Heap.lt_size e
  have f3 : ∀ b ∈ fp, FpOk X pins H3 b ∧ b < s3.heap.objs.size := by
    intro b hb
    have hlt := sz b hb
    refine ⟨⟨?_, (f2 b hb).2⟩, ?_⟩
    · rw [← hH3, upd_ne (by rw [← hD]; exact Nat.ne_of_lt hlt)]
      exact (f2 b hb).1
    · rw [hp3, Heap.size_push]
      exact Nat.lt_succ_of_lt hlt
  have st3 : tn 0 s3.heap := by
    refine T.keep _ _ _ st2 fun b _ o e => ?_
    rw [hp3]
    exact Heap.get?_push_of_some _ e
  have I4 := block_start I3 ok hN f3
  show codeAny (model X.prog X.w) X.A (.compStart (.SetComp elt (⟨tg, iter, ifs, 0⟩ :: rest) sc pos) 0 (.ref it) (.ref D) (compEnvC sc (cellsFrom (s3.heap.objs.size + 1) sc.names (cloFrom X.env.cells sc.names [])) s3.heap.objs.size X.env))
    (compPost (model X.prog X.w) X.A X.xe use Qf (.ref D) s3.heap.objs.size) { s3 with heap := pushCells (s3.heap.push { cls := .type "dict", data := .dict #[] }) sc.names }
  generalize hC : cellsFrom (s3.heap.objs.size + 1) sc.names (cloFrom X.env.cells sc.names []) = cl at I4 ⊢
  have pg := hg s3 H3 s3.heap.objs.size cl fp
  have pt := ht s3 H3 s3.heap.objs.size cl fp
  have pa := ha s3 H3 s3.heap.objs.size cl fp
  generalize hce : compEnvC sc cl s3.heap.objs.size X.env = ce at I4 pg pt pa ⊢
  have cL : ce.locals = s3.heap.objs.size := by rw [← hce]; rfl
  generalize hs4 : ({ s3 with heap := pushCells (s3.heap.push { cls := .type "dict", data := .dict #[] }) sc.names } : Shared) = s4 at I4 ⊢
  have st4 : tn 0 s4.heap := by
    refine T.keep _ _ _ st3 fun b _ o e => ?_
    rw [← hs4]
    exact pushCells_keeps _ _ _ _ (Heap.get?_push_of_some _ e)
  let B := X.blk s3 H3 sc ce fp
  have stat : ∀ {σ' : L2.St} {H' : Hp} {s' : Shared}, Inv B [] σ' H' s' → (∀ b ∈ fp, H' b = none) → ∀ b ∈ fp, FpOk B [] H' b := by
    intro σ' H' s' I' hn b hb
    refine ⟨hn b hb, (I'.ok.exf b hb).1, I'.ok.exfs b hb, .inl hb, fun x c e => (I'.ok.exf b hb).2 x c e, fun p hp => ?_⟩
    exact absurd (show p ∈ ([] : List (Addr × Obj)) ++ [] from hp) (by simp)
  have loop : codeAny (model X.prog X.w) X.A (.compLoop (.SetComp elt (⟨tg, iter, ifs, 0⟩ :: rest) sc pos) 0 (.ref it) (.ref D) ce) (compPost (model X.prog X.w) X.A X.xe use Qf (.ref D) s3.heap.objs.size) s4 := by
    refine cloop (ct _ _ _) (fun n s' => ∃ i H', Inv B [] (wipe σ (own.map (·.2))) H' s' ∧ tn i s'.heap ∧ (∀ b ∈ fp, H' b = none) ∧ W i n H') ?_ m0 ⟨0, H3, I4, st4, fun b hb => (f3 b hb).1.1, w0⟩
    rintro n s5 ⟨i, H5, I5, st5, n5, w5⟩
    rcases turn i n H5 w5 with ⟨stop, qq⟩ | ⟨go, Nx, hNx, step⟩
    · have td := T.done B rfl rfl rfl hc i [] s5 _ H5 (fun _ _ => False) I5 (stat I5 n5) st5 stop
      refine thnF td fun r s6 ⟨hr, I6⟩ => ?_
      subst hr
      have I7 : Inv X pins σ H5 s6 := by
        refine I3.call' (ch := fp) I6.os I6.base I6.hok I6.bare fun b hb => ?_
        have f := (f3 b hb).1
        exact ⟨f.2.2.2.1, f.2.1, f.2.2.2.2.1, f.2.2.2.2.2⟩
      have nC : H5 s3.heap.objs.size = none := by
        rw [← cL]
        exact I6.free
      obtain ⟨m, hn, _⟩ := I6.loc
      have hn : s6.heap.Ns ce.locals m := hn
      rw [cL] at hn
      exact hRR D s3.heap.objs.size s6 m H5 I7 qq hn (I3.fpOk (Nat.le_refl _) nC)
    · have ti := T.item B rfl rfl rfl hc i [] s5 _ H5 (fun _ _ => False) I5 (stat I5 n5) st5 go
      refine thnF ti fun r s6 ⟨u, hr, h6⟩ => ?_
      subst hr
      refine thnF h6 fun _ s7 ⟨x, H7, I7, r7, y7, st7, n7⟩ => ?_
      have I7' := I7.pinned (stat I7 n7) (T.obj _ _ st7)
      refine thnF (pg.run _ s7 _ H7 x u _ I7' r7 (step x H7 y7)) fun _ s8 ⟨σ8, H8, I8, hw8, q8⟩ => ?_
      refine thnF (pt.run _ s8 σ8 H8 _ I8 q8) fun b s9 ⟨H9, I9, q9⟩ => ?_
      have fin : ∀ {s' : Shared} {σ' : L2.St} {H' : Hp}, Inv B ([] ++ pinsAt fp s7.heap) σ' H' s' → wipe σ' (own.map (·.2)) = wipe σ8 (own.map (·.2)) → Nx H' →
          ∃ m, m < n ∧ ∃ i H', Inv B [] (wipe σ (own.map (·.2))) H' s' ∧ tn i s'.heap ∧ (∀ b ∈ fp, H' b = none) ∧ W i m H' := by
        intro s' σ' H' I' hw nx
        obtain ⟨m', hm, w'⟩ := hNx H' nx
        have hw : wipe σ' (own.map (·.2)) = wipe σ (own.map (·.2)) := hw.trans hw8
        have pin' : ∀ b ∈ fp, ∀ o, s7.heap.get? b = some o → s'.heap.get? b = some o ∧ H' b = none := by
          intro b hb o e
          have z := I'.pin (b, o) (List.mem_append_right _ (List.mem_append_right _ (mem_pinsAt hb e)))
          exact ⟨z.1, z.2.1⟩
        have hl : (wipe σ (own.map (·.2))).length = σ'.length := by rw [← hw, wipe_length]
        refine ⟨m', hm, i + 1, H', (I'.unpinned (pins := [])).weak hl (fun j v e => ?_), T.keep _ _ _ st7 fun b hb o e => (pin' b hb o e).1, fun b hb => ?_, w'⟩
        · rw [← hw] at e
          exact (wipe_some e).1
        · obtain ⟨o, e, _⟩ := T.obj _ _ st7 b hb
          exact (pin' b hb o e).2
      cases b with
      | false =>
        simp only [Bool.false_eq_true, if_false] at q9 ⊢
        exact fin I9 rfl q9
      | true =>
        simp only [if_true] at q9 ⊢
        intro k Q' E' hk
        exact pa _ s9 σ8 H9 D Nx I9 q9 k Q' E' fun s' ⟨σ', H', I', hw', nx⟩ => hk s' (fin I' hw' nx)
  exact cstart (g := ⟨tg, iter, ifs, 0⟩) rfl rfl loop (T.self X.A 0 _ _ _ st4 loop)
theorem set_core {pins : List (Addr × Obj)} {s : Shared} {σ : L2.St} {H : Hp} {Q : VK} {elt tg iter : Expr} {ifs : List Expr} {rest : List Comprehension} {sc : Scope} {own : List (PySem.Str × Nat)} {pos : Pos}
    {wi : TI} {g : TG} {tt : TT} {act : Act} {em : Value → PySem.Env → Sem PySem.Fin → Sem PySem.Fin}
    (ct : ∀ it acc env, compTurn (.SetComp elt (⟨tg, iter, ifs, 0⟩ :: rest) sc pos) 0 it acc env = cturn (.SetComp elt (⟨tg, iter, ifs, 0⟩ :: rest) sc pos) 0 iter.pos tg ifs (em acc env) it acc env)
    (hc : X.calm = true) (hN : X.N.Nodup) (I : Inv X pins σ H s) (hi : PI X tg iter wi) (ok : BlkOk X.N X.env.scope sc own)
    (hg : Blks X sc fun X' => PG X' tg g) (ht : Blks X sc fun X' => PTs X' ifs tt) (ha : Blks X sc fun X' => ActOk X' em act (own.map (·.2)))
    (hs : ∀ x, foldedSetIterable iter X.env x = pure x) (h : tSetG X.w wi g tt act (own.map (·.2)) σ H Q) :
    wpAny (model X.prog X.w) X.A (eval (.SetComp elt (⟨tg, iter, ifs, 0⟩ :: rest) sc pos) X.env) (EP X pins σ Q) X.xe s := by
  show wpAny _ _ (comprehension (.SetComp elt (⟨tg, iter, ifs, 0⟩ :: rest) sc pos) sc X.env (firstIterPos (⟨tg, iter, ifs, 0⟩ :: rest) pos) (newSet (.type "set")) false (eval iter X.env) none) _ _ s
  refine set_coreU ct hc hN I hi ok hg ht ha hs h fun D C s' m H' I' q hn f => ⟨m, hn, fun h'' sb => ?_⟩
  obtain ⟨f0, f1, f2, f3, f4, f5⟩ := f
  exact ⟨.ref D, H', I'.turned (t' := s'.toks) (fun b o hb e => (sb.2 b hb).trans e) f0 f1 f3 f4 f5, rfl, q⟩
/-- what goes into the set -/
def actS (w : World) (te : TE) : Act := fun D σ H Nx => te σ H fun y H4 => addTo w D y H4 Nx
def actF (w : World) (wi : TI) (g : TG) (tt : TT) (te : TE) (vs : List Nat) : Act := fun D σ H Nx => wi σ H fun J H1 =>
  ∃ W : Nat → Nat → L2.St → Hp → Prop, (∃ m, W 0 m σ H1) ∧ ∀ i m σ' H', W i m σ' H' →
    (J.stop i H' ∧ wipe σ' vs = wipe σ vs ∧ Nx H') ∨ (J.go i H' ∧ ∃ N : L2.St → Hp → Prop, (∀ σ2 H2, N σ2 H2 → ∃ m', m' < m ∧ W (i + 1) m' σ2 H2) ∧
      ∀ x H2, J.yld i H' x H2 → g x σ' H2 fun σ2 H3 => tt σ2 H3 fun b H4 => if b = true then te σ2 H4 fun y H5 => addTo w D y H5 (N σ2) else N σ2 H4)
theorem add_ok {pins : List (Addr × Obj)} {s : Shared} {σ : L2.St} {H : Hp} {D : Addr} {y : V} {z : Value} {Nx : Hp → Prop} {P : Shared → Prop} (I : Inv X pins σ H s) (r : RelV y z) (h : addTo X.w D y H Nx)
    (hx : X.xe = fun _ _ => False) (hP : ∀ s' H', Inv X pins σ H' s' → Nx H' → P s') : wpAny (model X.prog X.w) X.A (call (.builtin "set.add") [.ref D, z]) (fun _ s' => P s') (fun _ _ => False) s := by
  obtain ⟨k, S, n, rfl, hD, hz, nx⟩ := h
  have q := mt_sadd pins s σ H (.ref D) [.int k] (.ref D) [z] (fun _ H' => Nx H') I rfl (.cons r .nil) ⟨D, k, S, n, rfl, rfl, hD, hz, nx⟩
  rw [hx] at q
  exact thnF q fun _ s' ⟨_, H', I', _, nx'⟩ => hP s' H' I' nx'
theorem act_S {elt : Expr} {te : TE} {sc : Scope} {vs : List Nat} (he : Blks X sc fun X' => PE X' elt te) : Blks X sc fun X' => ActOk X' (emS elt) (actS X.w te) vs := by
  intro s0 H0 C cl fp pins s σ H D Nx I h
  refine emS_ok (thnF ((he s0 H0 C cl fp).run pins s σ H _ I h) fun z s1 ⟨y, H4, I4, r4, q4⟩ => ?_)
  exact add_ok I4 r4 q4 rfl fun s' H' I' nx => ⟨σ, H', I', rfl, nx⟩
theorem act_F {elt t1 i1 t2 i2 : Expr} {f1 f2 : List Expr} {pos : Pos} {wi : TI} {g : TG} {tt : TT} {te : TE} {sc : Scope} {vs : List Nat} (hc : X.calm = true) (hi : Blks X sc fun X' => PI X' t2 i2 wi) (hg : Blks X sc fun X' => PG X' t2 g)
    (ht : Blks X sc fun X' => PTs X' f2 tt) (he : Blks X sc fun X' => PE X' elt te) (hs : Blks X sc fun X' => ∀ x, foldedSetIterable i2 X'.env x = pure x) :
    Blks X sc fun X' => ActOk X' (fun acc env => emF (sc2 elt t1 i1 f1 t2 i2 f2 sc pos) i2 acc env) (actF X.w wi g tt te vs) vs := by
  intro s0 H0 C cl fp pins s σ H D Nx I h
  have pi := hi s0 H0 C cl fp
  have pg := hg s0 H0 C cl fp
  have pt := ht s0 H0 C cl fp
  have pe := he s0 H0 C cl fp
  have ps := hs s0 H0 C cl fp
  have hc' : (X.blk s0 H0 sc (compEnvC sc cl C X.env) fp).calm = true := hc
  have hx : (X.blk s0 H0 sc (compEnvC sc cl C X.env) fp).xe = fun _ _ => False := rfl
  have hw : (X.blk s0 H0 sc (compEnvC sc cl C X.env) fp).w = X.w := rfl
  revert I pi pg pt pe ps hc' hx hw
  generalize X.blk s0 H0 sc (compEnvC sc cl C X.env) fp = B
  intro I pi pg pt pe ps hc' hx hw
  have pir := pi.run pins s σ H _ I h
  rw [hx] at pir
  refine emF_ok ps (thnF pir fun xv s1 hx1 => thnF hx1 fun j s2 h2 => ?_)
  obtain ⟨it, fp2, tn, J, H2, rfl, I2, T, st2, ff, W, ⟨m0, w0⟩, turn⟩ := h2
  intro R hR
  have stat : ∀ {H' : Hp}, (∀ b ∈ fp2, H' b = none) → ∀ b ∈ fp2, FpOk B pins H' b := fun hn b hb => ⟨hn b hb, (ff b hb).2⟩
  have loop : codeAny (model B.prog B.w) B.A (.compLoop (sc2 elt t1 i1 f1 t2 i2 f2 sc pos) 1 (.ref it) (.ref D) B.env) R s2 := by
    refine cloop (ct_in ..) (fun n s' => ∃ i σ' H', Inv B pins σ' H' s' ∧ tn i s'.heap ∧ (∀ b ∈ fp2, H' b = none) ∧ W i n σ' H') ?_ m0 ⟨0, σ, H2, I2, st2, fun b hb => (ff b hb).1, w0⟩
    rintro n s5 ⟨i, σ5, H5, I5, st5, n5, w5⟩
    rcases turn i n σ5 H5 w5 with ⟨stop, hwi, nx⟩ | ⟨go, N, hN, step⟩
    · have td := T.done B rfl rfl rfl hc' i pins s5 σ5 H5 (fun _ _ => False) I5 (stat n5) st5 stop
      refine thnF td fun r s6 ⟨hr, I6⟩ => ?_
      subst hr
      exact hR s6 ⟨σ5, H5, I6, hwi, nx⟩
    · have ti := T.item B rfl rfl rfl hc' i pins s5 σ5 H5 (fun _ _ => False) I5 (stat n5) st5 go
      refine thnF ti fun r s6 ⟨u, hr, h6⟩ => ?_
      subst hr
      refine thnF h6 fun _ s7 ⟨x, H7, I7, r7, y7, st7, n7⟩ => ?_
      have I7' := I7.pinned (stat n7) (T.obj _ _ st7)
      have pgr := pg.run _ s7 σ5 H7 x u _ I7' r7 (step x H7 y7)
      rw [hx] at pgr
      refine thnF pgr fun _ s8 ⟨σ8, H8, I8, q8⟩ => ?_
      have ptr := pt.run _ s8 σ8 H8 _ I8 q8
      rw [hx] at ptr
      refine thnF ptr fun b s9 ⟨H9, I9, q9⟩ => ?_
      have fin : ∀ {s' : Shared} {σ' : L2.St} {H' : Hp}, Inv B (pins ++ pinsAt fp2 s7.heap) σ' H' s' → N σ' H' → ∃ m, m < n ∧ ∃ i σ' H', Inv B pins σ' H' s' ∧ tn i s'.heap ∧ (∀ b ∈ fp2, H' b = none) ∧ W i m σ' H' := by
        intro s' σ' H' I' nx
        obtain ⟨m', hm, w'⟩ := hN σ' H' nx
        have pin' : ∀ b ∈ fp2, ∀ o, s7.heap.get? b = some o → s'.heap.get? b = some o ∧ H' b = none := by
          intro b hb o e
          have z := I'.pin (b, o) (List.mem_append_right _ (List.mem_append_right _ (mem_pinsAt hb e)))
          exact ⟨z.1, z.2.1⟩
        refine ⟨m', hm, i + 1, σ', H', I'.unpinned, T.keep _ _ _ st7 fun b hb o e => (pin' b hb o e).1, fun b hb => ?_, w'⟩
        obtain ⟨o, e, _⟩ := T.obj _ _ st7 b hb
        exact (pin' b hb o e).2
      cases b with
      | false =>
        simp only [Bool.false_eq_true, if_false] at q9 ⊢
        exact fin I9 q9
      | true =>
        simp only [if_true] at q9 ⊢
        have per := pe.run _ s9 σ8 H9 _ I9 q9
        rw [hx] at per
        refine emS_ok (thnF per fun z s10 ⟨y, H10, I10, r10, q10⟩ => ?_)
        rw [← hw] at q10
        exact add_ok I10 r10 q10 hx fun s' H' I' nx => fin I' nx
  exact cstart (g := ⟨t2, i2, f2, 0⟩) rfl rfl loop (T.self B.A 0 _ _ _ st2 loop)
/-- as values -/
theorem pe_set1 {elt tg iter : Expr} {ifs : List Expr} {sc : Scope} {own : List (PySem.Str × Nat)} {pos : Pos} {wi : TI} {g : TG} {tt : TT} {te : TE} (hc : X.calm = true) (hN : X.N.Nodup) (hi : PI X tg iter wi) (ok : BlkOk X.N X.env.scope sc own)
    (hg : Blks X sc fun X' => PG X' tg g) (ht : Blks X sc fun X' => PTs X' ifs tt) (he : Blks X sc fun X' => PE X' elt te) (hs : ∀ x, foldedSetIterable iter X.env x = pure x := by intro _; rfl) :
    PE X (.SetComp elt [⟨tg, iter, ifs, 0⟩] sc pos) (tSetG X.w wi g tt (actS X.w te) (own.map (·.2))) :=
  ⟨fun pins s σ H Q I h => set_core (em := emS elt) (fun it acc env => ct_one ..) hc hN I hi ok hg ht (act_S he) hs h⟩
/-- name = {..} on one line, the name a local -/
theorem sw_trueS {elt : Expr} {gs : List Comprehension} {scope : Scope} {pos py : Pos} {y : PySem.Str} {l : Nat} {env : PySem.Env} (hk : env.scope.kind = .function) (hy : env.scope.names.lookup y = some .local) (hl : (py.line == pos.line) = true)
    (ha : (scope.names.any fun (n, k) => n == y && (k == .local || k == .cell)) = false) : swapsWith (.SetComp elt gs scope pos) (some (.Name y py)) l env = pure true := by
  have ky : env.kindOf y = some .local := hy
  have hb : env.blockKind = .function := by unfold Env.blockKind; rw [hk]; rfl
  unfold swapsWith
  simp only [hb, ky, ha, Expr.pos, hl]
  rfl
theorem ps_setSc {i : Nat} {y : PySem.Str} {py : Pos} {elt tg iter : Expr} {ifs : List Expr} {sc : Scope} {own : List (PySem.Str × Nat)} {pos spos : Pos} {wi : TI} {g : TG} {tt : TT} {te : TE} (hc : X.calm = true) (hN : X.N.Nodup) (hy : X.N[i]? = some y) (hyl : X.env.scope.names.lookup y = some .local)
    (hsw : swapsWith (.SetComp elt [⟨tg, iter, ifs, 0⟩] sc pos) (some (.Name y py)) spos.line X.env = pure true) (hi : PI X tg iter wi) (ok : BlkOk X.N X.env.scope sc own)
    (hg : Blks X sc fun X' => PG X' tg g) (ht : Blks X sc fun X' => PTs X' ifs tt) (he : Blks X sc fun X' => PE X' elt te) (hs : ∀ x, foldedSetIterable iter X.env x = pure x := by intro _; rfl) :
    PS X (.Assign [.Name y py] (.SetComp elt [⟨tg, iter, ifs, 0⟩] sc pos) spos) (tAsg (tSetG X.w wi g tt (actS X.w te) (own.map (·.2))) (gName i)) := by
  refine ⟨fun pins s σ H D I h => ?_⟩
  rw [exec_Assign_Name_used _ _ _ _ hsw]
  refine wpAny_bind (wpAny_standAt (wpAny_bind ?_))
  show wpAny _ X.A (do let _ ← comprehension (.SetComp elt [⟨tg, iter, ifs, 0⟩] sc pos) sc X.env (firstIterPos [⟨tg, iter, ifs, 0⟩] pos) (newSet (.type "set")) false (eval iter X.env) (some (assign (.Name y py) X.env))) _ _ s
  have h : tSetG X.w wi g tt (actS X.w te) (own.map (·.2)) σ H (fun x H1 => gName i x σ H1 D.nx) := h
  refine wpAny_bind (thn (set_coreU (em := emS elt) (Qf := fun _ s' => SP X pins D .next s') (fun it acc env => ct_one ..) hc hN I hi ok hg ht (act_S he) hs h fun L C s' m H' I' q hn f => ?_) fun _ s' hq => wpAny_pure (wpAny_pure hq))
  show wpAny _ _ (assign (.Name y py) X.env (.ref L)) _ _ _
  refine wpAny_assign_Name (store_ok2 (v := V.ref L) I' hN hy (.inl hyl) rfl (fun s2 I2 ⟨a, sb, ha⟩ => ?_) (.inr hyl))
  obtain ⟨f0, f1, f2, f3, f4, f5⟩ := f
  have haC : C ≠ a := by
    rcases ha with z | z
    · rw [z]; exact f1
    · exact fun e => f4 y a z e.symm
  refine ⟨m, hn.sameBut sb haC, fun h3 sb3 => ?_⟩
  exact ⟨_, H', I2.turned (t' := s2.toks) (fun b o hb e => (sb3.2 b hb).trans e) f0 f1 f3 f4 f5, q⟩
theorem pe_set2 {elt t1 i1 t2 i2 : Expr} {f1 f2 : List Expr} {sc : Scope} {own : List (PySem.Str × Nat)} {pos : Pos} {wi wi2 : TI} {g g2 : TG} {tt tt2 : TT} {te : TE} (hc : X.calm = true) (hN : X.N.Nodup) (hi : PI X t1 i1 wi) (ok : BlkOk X.N X.env.scope sc own)
    (hg : Blks X sc fun X' => PG X' t1 g) (ht : Blks X sc fun X' => PTs X' f1 tt) (hi2 : Blks X sc fun X' => PI X' t2 i2 wi2) (hg2 : Blks X sc fun X' => PG X' t2 g2) (ht2 : Blks X sc fun X' => PTs X' f2 tt2) (he : Blks X sc fun X' => PE X' elt te)
    (hs : ∀ x, foldedSetIterable i1 X.env x = pure x := by intro _; rfl) (hs2 : Blks X sc fun X' => ∀ x, foldedSetIterable i2 X'.env x = pure x := by intro _ _ _ _ _ _; rfl) :
    PE X (.SetComp elt [⟨t1, i1, f1, 0⟩, ⟨t2, i2, f2, 0⟩] sc pos) (tSetG X.w wi g tt (actF X.w wi2 g2 tt2 te (own.map (·.2))) (own.map (·.2))) :=
  ⟨fun pins s σ H Q I h => set_core (em := fun acc env => emF (sc2 elt t1 i1 f1 t2 i2 f2 sc pos) i2 acc env) (fun it acc env => ct_out ..) hc hN I hi ok hg ht (act_F hc hi2 hg2 ht2 he hs2) hs h⟩
end
end G4

/-! G18: sorted({..}) of ints: the set is hidden, the list comes out. -/
namespace G4
open PySem PySem.Spec PyProof.Rows L2
/-! ints in order, each once -/
def insS (k : Int) : List Int → List Int
  | [] => [k]
  | x :: l => if k < x then k :: x :: l else if k = x then x :: l else x :: insS k l
theorem mem_insS {k j : Int} : ∀ {l : List Int}, j ∈ insS k l ↔ j = k ∨ j ∈ l
  | [] => by simp [insS]
  | x :: l => by
    unfold insS
    split
    · simp
    · split
      · rename_i h
        subst h
        simp
      · simp only [List.mem_cons, mem_insS]
        constructor
        · rintro (h | h | h)
          · exact .inr (.inl h)
          · exact .inl h
          · exact .inr (.inr h)
        · rintro (h | h | h)
          · exact .inr (.inl h)
          · exact .inl h
          · exact .inr (.inr h)
theorem ins_sorted {k : Int} : ∀ {l : List Int}, l.Pairwise (· < ·) → (insS k l).Pairwise (· < ·)
  | [], _ => by simp [insS]
  | x :: l, h => by
    have h' := List.pairwise_cons.mp h
    unfold insS
    split
    · rename_i hk
      refine List.pairwise_cons.mpr ⟨fun y hy => ?_, h⟩
      rcases List.mem_cons.mp hy with rfl | hy
      · exact hk
      · exact Int.lt_trans hk (h'.1 y hy)
    · split
      · exact h
      · refine List.pairwise_cons.mpr ⟨fun y hy => ?_, ins_sorted h'.2⟩
        rcases mem_insS.mp hy with rfl | hy
        · omega
        · exact h'.1 y hy
theorem ins_len {k : Int} : ∀ {l : List Int}, l.Pairwise (· < ·) → (insS k l).length = if k ∈ l then l.length else l.length + 1
  | [], _ => by simp [insS]
  | x :: l, h => by
    have h' := List.pairwise_cons.mp h
    unfold insS
    split
    · rename_i hk
      rw [if_neg]
      · rfl
      · intro hm
        rcases List.mem_cons.mp hm with rfl | hm
        · omega
        · have := h'.1 k hm
          omega
    · split
      · rename_i hx
        rw [if_pos (by rw [hx]; exact List.mem_cons_self ..)]
      · rename_i h1 h2
        rw [List.length_cons, ins_len h'.2]
        by_cases hm : k ∈ l
        · rw [if_pos hm, if_pos (List.mem_cons_of_mem _ hm)]
          rfl
        · rw [if_neg hm, if_neg (by
            intro z
            rcases List.mem_cons.mp z with z | z
            · exact h2 z
            · exact hm z)]
          rfl
def srt (ys : List Int) : List Int := ys.foldl (fun l k => insS k l) []
theorem srt_snoc (ys : List Int) (k : Int) : srt (ys ++ [k]) = insS k (srt ys) := by simp [srt, List.foldl_append]
theorem srt_gen : ∀ (ys : List Int) (l : List Int), l.Pairwise (· < ·) → (ys.foldl (fun l k => insS k l) l).Pairwise (· < ·) ∧ ∀ k, k ∈ ys.foldl (fun l k => insS k l) l ↔ k ∈ ys ∨ k ∈ l
  | [], l, h => ⟨h, fun k => by simp⟩
  | y :: ys, l, h => by
    obtain ⟨a, b⟩ := srt_gen ys (insS y l) (ins_sorted h)
    refine ⟨a, fun k => (b k).trans ?_⟩
    rw [mem_insS, List.mem_cons]
    constructor
    · rintro (h | h | h)
      · exact .inl (.inr h)
      · exact .inl (.inl h)
      · exact .inr h
    · rintro ((h | h) | h)
      · exact .inr (.inl h)
      · exact .inl h
      · exact .inr (.inr h)
theorem srt_sorted (ys : List Int) : (srt ys).Pairwise (· < ·) := (srt_gen ys [] List.Pairwise.nil).1
theorem mem_srt {ys : List Int} {k : Int} : k ∈ srt ys ↔ k ∈ ys := ((srt_gen ys [] List.Pairwise.nil).2 k).trans (by simp)
theorem sorted_ext : ∀ {l m : List Int}, l.Pairwise (· < ·) → m.Pairwise (· < ·) → (∀ k, k ∈ l ↔ k ∈ m) → l = m
  | [], [], _, _, _ => rfl
  | [], y :: m, _, _, h => by have := (h y).mpr (List.mem_cons_self ..); cases this
  | x :: l, [], _, _, h => by have := (h x).mp (List.mem_cons_self ..); cases this
  | x :: l, y :: m, hl, hm, h => by
    have hl' := List.pairwise_cons.mp hl
    have hm' := List.pairwise_cons.mp hm
    have e : x = y := by
      rcases List.mem_cons.mp ((h x).mp (List.mem_cons_self ..)) with z | z
      · exact z
      · rcases List.mem_cons.mp ((h y).mpr (List.mem_cons_self ..)) with q | q
        · exact q.symm
        · have := hm'.1 x z
          have := hl'.1 y q
          omega
    subst e
    congr 1
    refine sorted_ext hl'.2 hm'.2 fun k => ?_
    constructor
    · intro hk
      rcases List.mem_cons.mp ((h k).mp (List.mem_cons_of_mem _ hk)) with z | z
      · subst z
        have := hl'.1 k hk
        omega
      · exact z
    · intro hk
      rcases List.mem_cons.mp ((h k).mpr (List.mem_cons_of_mem _ hk)) with z | z
      · subst z
        have := hm'.1 k hk
        omega
      · exact z
/-- the set of what was drawn -/
def SI (w : World) (D : Addr) (ys : List Int) : HO := SetO w D (fun j => decide (j ∈ ys)) (srt ys).length
theorem SI_nil (w : World) (D : Addr) : SI w D [] = SetO w D (fun _ => false) 0 := by
  unfold SI
  congr 1
theorem SI_snoc (w : World) (D : Addr) (ys : List Int) (k : Int) : SI w D (ys ++ [k]) = SetO w D (fun j => decide (j ∈ ys) || decide (j = k)) (if decide (k ∈ ys) = true then (srt ys).length else (srt ys).length + 1) := by
  unfold SI
  rw [srt_snoc, ins_len (srt_sorted ys)]
  congr 1
  · funext j
    simp
  · by_cases h : k ∈ ys
    · rw [if_pos (mem_srt.mpr h), if_pos (by simpa using h)]
    · rw [if_neg (fun z => h (mem_srt.mp z)), if_neg (by simpa using h)]
theorem srt_len (ys : List Int) : (srt ys).length ≤ ys.length := by
  have gen : ∀ (ys l : List Int), l.Pairwise (· < ·) → (ys.foldl (fun l k => insS k l) l).length ≤ l.length + ys.length := by
    intro ys
    induction ys with
    | nil => intro l _; simp
    | cons y ys ih =>
      intro l h
      have := ih (insS y l) (ins_sorted h)
      have e := ins_len (k := y) h
      rw [List.foldl_cons, List.length_cons]
      split at e <;> omega
  simpa [srt] using gen ys [] List.Pairwise.nil
/-! what a for of the comprehension draws -/
section
variable {G : Gx} {n0 : Nat} {W : WX} {wd : World}
theorem Vr.mono0 {K : PySem.W.Frag} {w w' : Hw} {ρ : Env} {σ : L2.St} (x : Ex0 w w') (h : Vr K w ρ σ) : Vr K w' ρ σ :=
  ⟨h.len, fun i d e => (h.at_ i d e).elim fun v q => ⟨v, q.1, q.2.mono0 x⟩⟩
theorem Hid.e0 {w : Hw} {p : Addr} {o o' : HO} (h : Hid w p o) : Ex0 w (w.wr p o') :=
  ⟨fun a z => z, fun k a z => z, fun a ha => upd_ne fun z => h.nN (z ▸ ha)⟩
/-- the act draws what the body tells -/
def DAct (G : Gx) (n0 : Nat) (wd : World) (act : Act) (body : Ev (List Int)) : Prop := ∀ (w0 w : Hw) (μ0 : Mu) (ρ : Env) (μ : Mu) (σ : L2.St) (ys js : List Int) (μ' : Mu) (D : Addr) (Nx : Hp → Prop),
  Mc G w0 μ0 → w0.H D = none → Ex w0 w → Mc G w μ → Vr G.K w ρ σ → n0 ≤ μ.length → Hid w D (SI wd D ys) → body ρ μ = some (.ok js μ') → ys.length + js.length ≤ 4000 →
  (∀ w', Ex w0 w' → Ex0 w w' → Mc G w' μ' → Kp n0 μ μ' → Hid w' D (SI wd D (ys ++ js)) → Nx w'.H) → act D σ w.H Nx
def one1 (d : D) (μ : Mu) : Ro (List Int) := match d with
  | .int i => some (.ok [i] μ)
  | _ => none
def body1 (fe : Ev D) : Ev (List Int) := fun ρ μ => (fe ρ μ).bnd one1
theorem add_SI {w0 w : Hw} {μ0 μ : Mu} {D : Addr} {ys : List Int} {i : Int} {Nx : Hp → Prop} (c0 : Mc G w0 μ0) (hp : w0.H D = none) (x0 : Ex w0 w) (c : Mc G w μ) (h : Hid w D (SI wd D ys)) (hl : ys.length + 1 ≤ 4000)
    (fin : ∀ w', Ex w0 w' → Ex0 w w' → Mc G w' μ → Hid w' D (SI wd D (ys ++ [i])) → Nx w'.H) : addTo wd D (.int i) w.H Nx := by
  have hs := srt_len ys
  refine ⟨i, _, _, rfl, h.at_, ?_, ?_⟩
  · show (srt ys).length + 1 < 4096
    omega
  · rw [← SI_snoc]
    obtain ⟨a, b, d, _⟩ := Hid.wr (o' := SI wd D (ys ++ [i])) c0 hp x0 h c
    exact fin _ a h.e0 b d
theorem dact_S {te : TE} {fe : Ev D} (he : DE G n0 W0 te fe) : DAct G n0 wd (actS wd te) (body1 fe) := by
  intro w0 w μ0 ρ μ σ ys js μ' D Nx c0 hp x0 c vr hn h e hl fin
  rcases Ro.bnd_some e with ⟨d, μ1, e1, e2⟩ | ⟨x, μ1, e1, e2⟩
  · unfold one1 at e2
    split at e2 <;> cases e2
    rename_i i
    refine he w ρ μ σ c vr hn _ e1 _ fun w1 v p r => ?_
    have r : v = .int i := r
    subst r
    have hl' : ys.length + 1 ≤ 4000 := by simpa using hl
    exact add_SI c0 hp (x0.trans p.ex) p.mc (h.ex p.ex) hl' fun w' a b d f => fin w' a (p.ex.e0.trans b) d p.kp f
  · cases e2
/-- the inner for -/
def loopI (tg : Tv) (tt : Ev Bool) (fe : Ev D) : List D → Env → Mu → Ro (List Int)
  | [], ρ, μ => some (.ok [] μ)
  | d :: ds, ρ, μ => match tg d ρ μ with
    | some (.ok ρ1 μ1) => match tt ρ1 μ1 with
      | some (.ok true μ2) => match fe ρ1 μ2 with
        | some (.ok (.int i) μ3) => match loopI tg tt fe ds ρ1 μ3 with
          | some (.ok js μ4) => some (.ok (i :: js) μ4)
          | _ => none
        | _ => none
      | some (.ok false μ2) => loopI tg tt fe ds ρ1 μ2
      | _ => none
    | _ => none
def inner1 (tg : Tv) (tt : Ev Bool) (fe : Ev D) (ρ : Env) (s : Src) (μ : Mu) : Ro (List Int) := match s with
  | .its ds => loopI tg tt fe ds ρ μ
  | .cel _ => none
def body2 (fi : Ev Src) (tg : Tv) (tt : Ev Bool) (fe : Ev D) : Ev (List Int) := fun ρ μ => (fi ρ μ).bnd (inner1 tg tt fe ρ)
theorem dact_F {wi : TI} {g : TG} {t : TT} {te : TE} {fi : Ev Src} {tg : Tv} {ft : Ev Bool} {fe : Ev D} {vs : List Nat} (hi : DI G n0 W0 wi fi) (hg : DG G n0 W0 g tg) (ho : Own g vs) (hm : Mono g) (ht : DT G n0 W0 t ft) (he : DE G n0 W0 te fe) :
    DAct G n0 wd (actF wd wi g t te vs) (body2 fi tg ft fe) := by
  intro w0 w μ0 ρ μ σ ys js μ' D Nx c0 hp x0 c vr hn h e hl fin
  obtain ⟨src, μ1, e1, e2⟩ : ∃ src μ1, fi ρ μ = some (.ok src μ1) ∧ inner1 tg ft fe ρ src μ1 = some (.ok js μ') := by
    rcases Ro.bnd_some e with ⟨src, μ1, e1, e2⟩ | ⟨x, μ1, e1, e2⟩
    · exact ⟨src, μ1, e1, e2⟩
    · cases e2
  refine hi w ρ μ σ c vr hn _ e1 _ fun w1 J p1 y => ?_
  unfold inner1 at e2
  split at e2 <;> try cases e2
  rename_i ds
  refine ⟨fun i m σ' H' => ∃ w' ρ' μ2 ys' zs, w'.H = H' ∧ m = (ds.drop i).length ∧ Ex w0 w' ∧ Ex0 w1 w' ∧ Mc G w' μ2 ∧ Kp n0 μ1 μ2 ∧ Hid w' D (SI wd D ys') ∧ Vr G.K w' ρ' σ' ∧ wipe σ' vs = wipe σ vs ∧
    loopI tg ft fe (ds.drop i) ρ' μ2 = some (.ok zs μ') ∧ ys' ++ zs = ys ++ js, ?_, ?_⟩
  · exact ⟨_, w1, ρ, μ1, ys, js, rfl, rfl, x0.trans p1.ex, ⟨fun a z => z, fun k a z => z, fun a z => rfl⟩, p1.mc, .refl _ _, h.ex p1.ex, vr.mono p1.ex, rfl, e2, rfl⟩
  · rintro i m σ' H' ⟨w', ρ', μ2, ys', zs, rfl, rfl, x', xx, c', kp, h', vr', hw, e3, e4⟩
    obtain ⟨y1, y2⟩ := y w' μ2 xx c' ds rfl i
    cases hd : ds[i]? with
    | none =>
      have hle : ds.length ≤ i := by simpa using hd
      rw [List.drop_eq_nil_of_le hle] at e3
      cases e3
      rw [List.append_nil] at e4
      subst e4
      exact .inl ⟨y2 hle, hw, fin w' x' (p1.ex.e0.trans xx) c' (p1.kp.trans kp) h'⟩
    | some d =>
      have hil := (List.getElem?_eq_some_iff.mp hd).1
      have hdr : ds.drop i = d :: ds.drop (i + 1) := by
        rw [List.drop_eq_getElem_cons hil]
        congr 1
        rw [List.getElem?_eq_getElem hil] at hd
        exact Option.some.inj hd
      obtain ⟨go, yl⟩ := y1 d hd
      obtain ⟨N, hN⟩ : ∃ N : L2.St → Hp → Prop, N = fun σ' H' => ∃ w' ρ' μ2 ys' zs, w'.H = H' ∧ (ds.drop (i + 1)).length = (ds.drop (i + 1)).length ∧ Ex w0 w' ∧ Ex0 w1 w' ∧ Mc G w' μ2 ∧ Kp n0 μ1 μ2 ∧ Hid w' D (SI wd D ys') ∧ Vr G.K w' ρ' σ' ∧ wipe σ' vs = wipe σ vs ∧
        loopI tg ft fe (ds.drop (i + 1)) ρ' μ2 = some (.ok zs μ') ∧ ys' ++ zs = ys ++ js := ⟨_, rfl⟩
      refine .inr ⟨go, N, fun σ2 H2 q => ?_, fun x H2 hy => ?_⟩
      · rw [hN] at q
        exact ⟨_, by rw [hdr]; exact Nat.lt_succ_self _, q⟩
      obtain ⟨w2, rfl, x2, c2, fr⟩ := yl x H2 hy
      have hn2 : n0 ≤ μ2.length := Nat.le_trans (p1.nn hn) kp.len
      rw [hdr] at e3
      unfold loopI at e3
      split at e3 <;> try cases e3
      rename_i ρ1 μ3 h1
      refine hm _ _ _ _ _ (fun σ2 H2 q => q.2 q.1) (ho _ _ _ _ (hg w2 ρ' μ2 σ' d x c2 (vr'.mono x2) hn2 fr _ h1 (fun σ2 H3 => wipe σ2 vs = wipe σ' vs → t σ2 H3 fun b H4 => if b = true then te σ2 H4 fun y H5 => addTo wd D y H5 (N σ2) else N σ2 H4) fun w3 σ3 p3 v3 hw3 => ?_))
      have hn3 := p3.nn hn2
      split at e3
      · rename_i μ4 h2
        refine ht w3 ρ1 μ3 σ3 p3.mc v3 hn3 _ h2 _ fun w4 b p4 r4 => ?_
        have r4 : b = true := r4
        subst r4
        rw [if_pos rfl]
        have hn4 := p4.nn hn3
        split at e3 <;> try cases e3
        rename_i k μ5 h3
        split at e3 <;> cases e3
        rename_i zs' h4
        refine he w4 ρ1 μ4 σ3 p4.mc (v3.mono p4.ex) hn4 _ h3 _ fun w5 v5 p5 r5 => ?_
        have r5 : v5 = .int k := r5
        subst r5
        have x25 := (x2.trans p3.ex).trans (p4.ex.trans p5.ex)
        have hlen : ys'.length + 1 ≤ 4000 := by
          have := congrArg List.length e4
          simp at this
          omega
        refine add_SI c0 hp (x'.trans x25) p5.mc (h'.ex x25) hlen fun w6 a b c6 f => ?_
        rw [hN]
        exact ⟨w6, ρ1, μ5, ys' ++ [k], zs', rfl, rfl, a, (xx.trans x25.e0).trans b, c6, ((kp.trans p3.kp).trans p4.kp).trans p5.kp, f, ((v3.mono p4.ex).mono p5.ex).mono0 b, hw3.trans hw, h4, by rw [← e4]; simp⟩
      · rename_i μ4 h2
        refine ht w3 ρ1 μ3 σ3 p3.mc v3 hn3 _ h2 _ fun w4 b p4 r4 => ?_
        have r4 : b = false := r4
        subst r4
        rw [if_neg Bool.false_ne_true]
        have x24 := (x2.trans p3.ex).trans p4.ex
        rw [hN]
        exact ⟨w4, ρ1, μ4, ys', zs, rfl, rfl, x'.trans x24, xx.trans x24.e0, p4.mc, (kp.trans p3.kp).trans p4.kp, h'.ex x24, v3.mono p4.ex, hw3.trans hw, e3, e4⟩
      · cases e3
/-- the outer for -/
def compI (tg : Tv) (tt : Ev Bool) (body : Ev (List Int)) (ρ : Env) : List D → Mu → Ro (List Int)
  | [], μ => some (.ok [] μ)
  | d :: ds, μ => match tg d ρ μ with
    | some (.ok ρ1 μ1) => match tt ρ1 μ1 with
      | some (.ok true μ2) => match body ρ1 μ2 with
        | some (.ok js μ3) => match compI tg tt body ρ ds μ3 with
          | some (.ok ks μ4) => some (.ok (js ++ ks) μ4)
          | _ => none
        | _ => none
      | some (.ok false μ2) => compI tg tt body ρ ds μ2
      | _ => none
    | _ => none
def srtR (r : Ro (List Int)) : Ro D := match r with
  | some (.ok js μ) => if js.length ≤ 4000 ∧ (srt js).length ≤ 60 then some (.ok (.lst ((srt js).map D.int)) μ) else none
  | _ => none
def srt1 (tg : Tv) (tt : Ev Bool) (body : Ev (List Int)) (ρ : Env) (s : Src) (μ : Mu) : Ro D := match s with
  | .its ds => srtR (compI tg tt body ρ ds μ)
  | .cel _ => none
def eSrt (fi : Ev Src) (tg : Tv) (tt : Ev Bool) (body : Ev (List Int)) (vs : List Nat) : Ev D := fun ρ μ => (fi ρ μ).bnd (srt1 tg tt body (wipeE ρ vs))
theorem de_srt {wi : TI} {g : TG} {t : TT} {act : Act} {fi : Ev Src} {tg : Tv} {ft : Ev Bool} {body : Ev (List Int)} {vs : List Nat} (hi : DI G n0 W wi fi) (hg : DG G n0 W0 g tg) (ho : Own g vs) (hm : Mono g) (ht : DT G n0 W0 t ft) (ha : DAct G n0 wd act body) :
    DE G n0 W (tCB (rSortedSet wd) (tCons (tSetG wd wi g t act vs) tNil)) (eSrt fi tg ft body vs) := by
  intro w ρ μ σ c vr hn r e Q fin
  rcases Ro.bnd_some e with ⟨src, μ1, e1, e2⟩ | ⟨x, μ1, e1, e2⟩
  · refine hi w ρ μ σ c vr hn _ e1 _ fun w1 J p1 y => ?_
    intro D hD
    unfold srt1 at e2
    split at e2 <;> try cases e2
    rename_i ds
    unfold srtR at e2
    split at e2 <;> try cases e2
    rename_i all μf h1
    split at e2 <;> rename_i hl <;> cases e2
    refine ⟨fun i m H' => ∃ w' μ2 ys zs, w'.H = H' ∧ m = (ds.drop i).length ∧ Ex w1 w' ∧ Mc G w' μ2 ∧ Kp n0 μ1 μ2 ∧ Hid w' D (SI wd D ys) ∧ compI tg ft body (wipeE ρ vs) (ds.drop i) μ2 = some (.ok zs μf) ∧ ys ++ zs = all, ?_, ?_⟩
    · obtain ⟨a, b, d⟩ := Hid.new (o := SI wd D []) p1.mc hD
      rw [← SI_nil]
      exact ⟨_, w1.wr D (SI wd D []), μ1, [], all, rfl, rfl, a, b, .refl _ _, d, h1, rfl⟩
    · rintro i m H' ⟨w', μ2, ys, zs, rfl, rfl, x', c', kp, h', e3, e4⟩
      obtain ⟨y1, y2⟩ := y w' μ2 x'.e0 c' ds rfl i
      cases hd : ds[i]? with
      | none =>
        have hle : ds.length ≤ i := by simpa using hd
        rw [List.drop_eq_nil_of_le hle] at e3
        cases e3
        rw [List.append_nil] at e4
        subst e4
        refine .inl ⟨y2 hle, D, _, _, rfl, h'.at_, ?_, ?_⟩
        · have := hl.2
          omega
        · intro ns p hs hmem _ hp
          have e : ns = srt ys := sorted_ext hs (srt_sorted ys) fun k => by rw [hmem k, mem_srt]; simp
          subst e
          obtain ⟨a, b, _⟩ := h'.stays hD x' c'
          have hp' : (w'.kill D).H p = none := hp
          refine fin ((w'.kill D).fz p (.lst ((srt ys).map V.int))) (.ref p) ⟨p1.ex.trans (a.trans (.fz b hp')), .fz b hp', p1.kp.trans kp⟩ ?_
          exact fr_lst b hp' (frs_ints (srt ys))
      | some d =>
        have hil := (List.getElem?_eq_some_iff.mp hd).1
        have hdr : ds.drop i = d :: ds.drop (i + 1) := by
          rw [List.drop_eq_getElem_cons hil]
          congr 1
          rw [List.getElem?_eq_getElem hil] at hd
          exact Option.some.inj hd
        obtain ⟨go, yl⟩ := y1 d hd
        obtain ⟨N, hN⟩ : ∃ N : Hp → Prop, N = fun H' => ∃ w' μ2 ys zs, w'.H = H' ∧ (ds.drop (i + 1)).length = (ds.drop (i + 1)).length ∧ Ex w1 w' ∧ Mc G w' μ2 ∧ Kp n0 μ1 μ2 ∧ Hid w' D (SI wd D ys) ∧
          compI tg ft body (wipeE ρ vs) (ds.drop (i + 1)) μ2 = some (.ok zs μf) ∧ ys ++ zs = all := ⟨_, rfl⟩
        refine .inr ⟨go, N, fun H2 q => ?_, fun x H2 hy => ?_⟩
        · rw [hN] at q
          exact ⟨_, by rw [hdr]; exact Nat.lt_succ_self _, q⟩
        obtain ⟨w2, rfl, x2, c2, fr⟩ := yl x H2 hy
        have hn2 : n0 ≤ μ2.length := Nat.le_trans (p1.nn hn) kp.len
        rw [hdr] at e3
        unfold compI at e3
        split at e3 <;> try cases e3
        rename_i ρ1 μ3 h2
        have vr2 : Vr G.K w2 (wipeE ρ vs) (wipe σ vs) := (vr.mono (p1.ex.trans (x'.trans x2))).wipe vs
        refine hm _ _ _ _ _ (fun σ2 H2 q => ⟨q.1.trans (wipe_wipe σ vs), q.2⟩) (ho _ _ _ _ (hg w2 (wipeE ρ vs) μ2 (wipe σ vs) d x c2 vr2 hn2 fr _ h2 (fun σ2 H3 => t σ2 H3 fun b H4 => if b = true then act D σ2 H4 N else N H4) fun w3 σ3 p3 v3 => ?_))
        have hn3 := p3.nn hn2
        split at e3
        · rename_i μ4 h3
          refine ht w3 ρ1 μ3 σ3 p3.mc v3 hn3 _ h3 _ fun w4 b p4 r4 => ?_
          have r4 : b = true := r4
          subst r4
          rw [if_pos rfl]
          have hn4 := p4.nn hn3
          split at e3 <;> try cases e3
          rename_i js μ5 h4
          split at e3 <;> cases e3
          rename_i ks h5
          have x24 := (x2.trans p3.ex).trans p4.ex
          have hlen : ys.length + js.length ≤ 4000 := by
            have := congrArg List.length e4
            simp at this
            omega
          refine ha w1 w4 μ1 ρ1 μ4 σ3 ys js μ5 D N p1.mc hD (x'.trans x24) p4.mc (v3.mono p4.ex) hn4 (h'.ex x24) h4 hlen fun w5 a b c5 k5 f => ?_
          rw [hN]
          exact ⟨w5, μ5, ys ++ js, ks, rfl, rfl, a, c5, ((kp.trans p3.kp).trans p4.kp).trans k5, f, h5, by rw [← e4]; simp⟩
        · rename_i μ4 h3
          refine ht w3 ρ1 μ3 σ3 p3.mc v3 hn3 _ h3 _ fun w4 b p4 r4 => ?_
          have r4 : b = false := r4
          subst r4
          rw [if_neg Bool.false_ne_true]
          have x24 := (x2.trans p3.ex).trans p4.ex
          rw [hN]
          exact ⟨w4, μ4, ys, zs, rfl, rfl, x'.trans x24, p4.mc, (kp.trans p3.kp).trans p4.kp, h'.ex x24, e3, e4⟩
        · cases e3
  · subst e2
    exact hi w ρ μ σ c vr hn _ e1 _ fun w1 cls dx p x => fin w1 cls dx p x
end
end G4

/-! G19: sorted(set(t)) of a tuple of ints. -/
namespace G4
open PySem PySem.Spec PyProof.Rows L2
section
variable {X : Cx}
def rSetT (K : PySem.W.Frag) (w : World) : List V → Hp → VK → Prop := fun vs H Q => ∃ (p : Addr) (ns : List Int), vs = [.ref p] ∧ SqT K H p (ns.map V.int) ∧ ns.length ≤ 1000 ∧
  ∀ (q : Addr) (c : Nat), H q = none → c ≤ ns.length → Q (.ref q) (upd H q (SetO w q (fun j => decide (j ∈ ns)) c))
theorem cr_setT (hc : X.calm = true) : CallR X (.type "set") (rSetT X.K X.w) := by
  intro pins s σ H vs us Q I r h
  obtain ⟨p, ns, rfl, hq, hl, q⟩ := h
  rw [Vals.ref1 r]
  obtain ⟨its, rv, pt, hz⟩ := I.tuple hq
  refine call_set_tupI ns (I.ok.hd hc) (show s.heap.IsTuple p its.toArray from pt) (by simpa using intsAre_of rv) (by unfold scanBound; omega) fun h' tk c R hcn k => ?_
  exact ⟨.ref _, _, I.laid (t' := tk) k (Nat.le_refl _) (setO_new R), rfl, q _ c (I.hok.fresh (Nat.le_refl _)) hcn⟩
end
section
variable {G : Gx} {n0 : Nat} {W : WX} {wd : World}
def intsD : List D → Option (List Int)
  | [] => some []
  | .int i :: ds => (intsD ds).map (i :: ·)
  | _ => none
theorem intsD_map : ∀ (ns : List Int), intsD (ns.map D.int) = some ns
  | [] => rfl
  | n :: ns => by
    show (intsD (ns.map D.int)).map (n :: ·) = _
    rw [intsD_map ns]
    rfl
theorem intsD_rel {K : PySem.W.Frag} {w : Hw} : ∀ {ds : List D} {vs : List V} {ns : List Int}, intsD ds = some ns → Frs K w ds vs → vs = ns.map V.int
  | [], vs, ns, e, r => by
    cases e
    exact r
  | d :: ds, vs, ns, e, ⟨v, r, e1, h, t⟩ => by
    cases d with
    | int i =>
      have e : (intsD ds).map (i :: ·) = some ns := e
      cases hd : intsD ds with
      | none => rw [hd] at e; cases e
      | some ms =>
        rw [hd] at e
        cases e
        have h : v = .int i := h
        subst e1 h
        rw [intsD_rel hd t]
        rfl
    | _ => cases e
def srtT (d : D) (μ : Mu) : Ro D := match d with
  | .tup ds => match intsD ds with
    | some ns => if ns.length ≤ 60 then some (.ok (.lst ((srt ns).map D.int)) μ) else none
    | none => none
  | _ => none
def eSrtT (f : Ev D) : Ev D := fun ρ μ => (f ρ μ).bnd srtT
theorem de_srtT {t : TE} {f : Ev D} (h : DE G n0 W t f) : DE G n0 W (tCB (rSortedSet wd) (tCons (tCB (rSetT G.K wd) (tCons t tNil)) tNil)) (eSrtT f) := fun w ρ μ σ c vr hn =>
  (h w ρ μ σ c vr hn).bnd (uu := fun x H1 (Q : VK) => rSetT G.K wd [x] H1 fun v H2 => rSortedSet wd [v] H2 Q) fun w1 μ1 d x p1 r1 => by
    intro q e Q fin
    unfold srtT at e
    split at e <;> try cases e
    rename_i ds
    split at e <;> try cases e
    rename_i ns hns
    split at e <;> rename_i hl <;> cases e
    obtain ⟨a, vs, rfl, n, hH, rs⟩ := r1
    have ev := intsD_rel hns rs
    subst ev
    refine ⟨a, ns, rfl, .of hH, by omega, fun q c hq hc => ⟨q, _, c, rfl, upd_same, by omega, fun ns' p hs hm _ hp => ?_⟩⟩
    have e : ns' = srt ns := sorted_ext hs (srt_sorted ns) fun k => by rw [hm k, mem_srt]; simp
    subst e
    obtain ⟨x1, c1, h1⟩ := Hid.new (o := SetO wd q (fun j => decide (j ∈ ns)) c) p1.mc hq
    obtain ⟨a2, b2, _⟩ := h1.stays hq x1 c1
    have hp' : ((w1.wr q (SetO wd q (fun j => decide (j ∈ ns)) c)).kill q).H p = none := hp
    refine fin (((w1.wr q (SetO wd q (fun j => decide (j ∈ ns)) c)).kill q).fz p (.lst ((srt ns).map V.int))) (.ref p) ⟨a2.trans (.fz b2 hp'), .fz b2 hp', .refl _ _⟩ ?_
    exact fr_lst b2 hp' (frs_ints (srt ns))
@[simp] theorem eSrtT_ap {ρ : Env} {μ : Mu} (f : Ev D) : eSrtT f ρ μ = Ro.bnd (f ρ μ) srtT := rfl
theorem srtT_ok {μ : Mu} {ns : List Int} (h : ns.length ≤ 60) : srtT (.tup (ns.map D.int)) μ = some (.ok (.lst ((srt ns).map D.int)) μ) := by
  unfold srtT
  simp only [intsD_map]
  rw [if_pos h]
end
end G4

/-! G20: generator expressions: the turns, as segments. -/
namespace G4
open PySem PySem.Spec PyProof.Rows L2
section
variable {prog : Program} {w : World} {A : Around} {s : Shared}
/-- an item is handed out -/
def emY (elt : Expr) (env : PySem.Env) (k : Sem PySem.Fin) : Sem PySem.Fin :=
  (do let v ← eval elt env; standAt elt.pos; let _ ← yieldOut env v) >>= fun _ => k
/-- the next for runs -/
def emG (e i2 : Expr) (d : Nat) (acc : Value) (env : PySem.Env) (k : Sem PySem.Fin) : Sem PySem.Fin := do
  let x ← eval i2 env
  standAt i2.pos
  let x ← foldedSetIterable i2 env x
  let j ← holding [x] (pyIter x)
  let _ ← runOwn (.compStart e d j acc env) env
  k
abbrev ge (elt : Expr) (gens : List Comprehension) (sc : Scope) (pos : Pos) : Expr := .GeneratorExp elt gens sc pos
abbrev cl0 (t i : Expr) (f : List Expr) : Comprehension := ⟨t, i, f, 0⟩
theorem gt1 (elt t1 i1 : Expr) (f1 : List Expr) (sc : Scope) (pos : Pos) (it acc : Value) (env : PySem.Env) :
    compTurn (ge elt [cl0 t1 i1 f1] sc pos) 0 it acc env = cturn (ge elt [cl0 t1 i1 f1] sc pos) 0 i1.pos t1 f1 (emY elt env) it acc env := by rfl
theorem gt2a (elt t1 i1 t2 i2 : Expr) (f1 f2 : List Expr) (sc : Scope) (pos : Pos) (it acc : Value) (env : PySem.Env) :
    compTurn (ge elt [cl0 t1 i1 f1, cl0 t2 i2 f2] sc pos) 0 it acc env = cturn (ge elt [cl0 t1 i1 f1, cl0 t2 i2 f2] sc pos) 0 i1.pos t1 f1 (emG (ge elt [cl0 t1 i1 f1, cl0 t2 i2 f2] sc pos) i2 1 acc env) it acc env := by rfl
theorem gt2b (elt t1 i1 t2 i2 : Expr) (f1 f2 : List Expr) (sc : Scope) (pos : Pos) (it acc : Value) (env : PySem.Env) :
    compTurn (ge elt [cl0 t1 i1 f1, cl0 t2 i2 f2] sc pos) 1 it acc env = cturn (ge elt [cl0 t1 i1 f1, cl0 t2 i2 f2] sc pos) 1 i2.pos t2 f2 (emY elt env) it acc env := by rfl
theorem gt3a (elt t1 i1 t2 i2 t3 i3 : Expr) (f1 f2 f3 : List Expr) (sc : Scope) (pos : Pos) (it acc : Value) (env : PySem.Env) :
    compTurn (ge elt [cl0 t1 i1 f1, cl0 t2 i2 f2, cl0 t3 i3 f3] sc pos) 0 it acc env = cturn (ge elt [cl0 t1 i1 f1, cl0 t2 i2 f2, cl0 t3 i3 f3] sc pos) 0 i1.pos t1 f1 (emG (ge elt [cl0 t1 i1 f1, cl0 t2 i2 f2, cl0 t3 i3 f3] sc pos) i2 1 acc env) it acc env := by rfl
theorem gt3b (elt t1 i1 t2 i2 t3 i3 : Expr) (f1 f2 f3 : List Expr) (sc : Scope) (pos : Pos) (it acc : Value) (env : PySem.Env) :
    compTurn (ge elt [cl0 t1 i1 f1, cl0 t2 i2 f2, cl0 t3 i3 f3] sc pos) 1 it acc env = cturn (ge elt [cl0 t1 i1 f1, cl0 t2 i2 f2, cl0 t3 i3 f3] sc pos) 1 i2.pos t2 f2 (emG (ge elt [cl0 t1 i1 f1, cl0 t2 i2 f2, cl0 t3 i3 f3] sc pos) i3 2 acc env) it acc env := by rfl
theorem gt3c (elt t1 i1 t2 i2 t3 i3 : Expr) (f1 f2 f3 : List Expr) (sc : Scope) (pos : Pos) (it acc : Value) (env : PySem.Env) :
    compTurn (ge elt [cl0 t1 i1 f1, cl0 t2 i2 f2, cl0 t3 i3 f3] sc pos) 2 it acc env = cturn (ge elt [cl0 t1 i1 f1, cl0 t2 i2 f2, cl0 t3 i3 f3] sc pos) 2 i3.pos t3 f3 (emY elt env) it acc env := by rfl

section
variable {R : GenEnd} {Y : Protocol} {c : Code} {fr : List Frame} {gd : Bool → Bool} {lv : List Value → List Value}
/-- what is done with an item, in the generator's code: behind it P, at a budget of items -/
def SegEm (M : Model) (A : Around) (R : GenEnd) (Y : Protocol) (c : Code) (fr : List Frame) (em : Sem PySem.Fin → Sem PySem.Fin) (P : Nat → Shared → Prop) (n : Nat) (s : Shared) : Prop :=
  ∀ (k : Sem PySem.Fin) (K : PySem.Fin → Sem PySem.Fin) (J : Value → Sem PySem.Fin) (s₀ : Shared), (∀ n' s₀' s', P n' s' → Seg M A R Y n' s₀' c (k.wrap K J id id) fr s') → Seg M A R Y n s₀ c ((em k).wrap K J id id) fr s
theorem seg_cloop {e : Expr} {d : Nat} {it acc : Value} {env : PySem.Env} {p : Pos} {tg : Expr} {fs : List Expr} {em : Sem PySem.Fin → Sem PySem.Fin} {hx : Value → Sem Unit}
    (hden : (model prog w).den (.compLoop e d it acc env) = (cturn e d p tg fs em it acc env).onRaise hx) (hq : (Code.compLoop e d it acc env).quiet = true)
    (I : Nat → Nat → Shared → Prop) (Done : Nat → Shared → Prop)
    (turn : ∀ m n s, I m n s → wpAny (model prog w) (A.over (.compLoop e d it acc env) fr) (pyNext it) (fun r s1 => match r with
      | none => Done n s1
      | some v => wpAny (model prog w) (A.over (.compLoop e d it acc env) fr) (letOwnedTupleGo tg it v) (fun _ s2 => wpAny (model prog w) (A.over (.compLoop e d it acc env) fr) (assign tg env v) (fun _ s3 =>
          wpAny (model prog w) (A.over (.compLoop e d it acc env) fr) (forIn fs true fun c r => if r = true then do let ok ← isTrue c env (eval c env); pure (ForInStep.yield ok) else pure (ForInStep.yield r))
            (fun ok s4 => if ok = true then SegEm (model prog w) A R Y (.compLoop e d it acc env) fr em (fun n' s5 => ∃ m', m' < m ∧ I m' n' s5) n s4 else ∃ m', m' < m ∧ I m' n s4)
            (fun _ _ => False) s3) (fun _ _ => False) s2) (fun _ _ => False) s1) (fun _ _ => False) s)
    (done : ∀ n s₀ s, Done n s → Seg (model prog w) A R Y n s₀ (.compLoop e d it acc env) (leafOf (.ok .next)) fr s) :
    ∀ (m n : Nat) (s₀ s : Shared), I m n s → Seg (model prog w) A R Y n s₀ (.compLoop e d it acc env) ((model prog w).den (.compLoop e d it acc env)) fr s := by
  intro m
  induction m using Nat.strongRecOn with
  | ind m ih =>
    intro n s₀ s hI
    rw [hden, Sem.onRaise_eq_wrap]
    unfold cturn
    refine seg_bind_wrap (wpAny_standAt (seg_bind_wrap (wpAny_mono (turn m n s hI) (fun r s1 h1 => ?_) fun _ _ x => x.elim)))
    cases r with
    | none => exact done n s₀ s1 h1
    | some v =>
      refine seg_bind_wrap (wpAny_mono h1 (fun _ s2 h2 => ?_) fun _ _ x => x.elim)
      refine seg_bind_wrap (wpAny_mono h2 (fun _ s3 h3 => ?_) fun _ _ x => x.elim)
      refine seg_bind_wrap (wpAny_mono h3 (fun ok s4 h4 => ?_) fun _ _ x => x.elim)
      cases ok with
      | false =>
        obtain ⟨m', hm, h5⟩ := (show ∃ m', m' < m ∧ I m' n s4 from h4)
        exact seg_again hq (ih m' hm n s₀ s4 h5)
      | true =>
        have h4 : SegEm (model prog w) A R Y (.compLoop e d it acc env) fr em (fun n' s5 => ∃ m', m' < m ∧ I m' n' s5) n s4 := h4
        refine h4 _ _ _ s₀ fun n' s₀' s5 h5 => ?_
        obtain ⟨m', hm, h5⟩ := h5
        exact seg_again hq (ih m' hm n' s₀' s5 h5)
theorem seg_cstart {elt : Expr} {gens : List Comprehension} {g : Comprehension} {sc : Scope} {pos : Pos} {d n : Nat} {it acc : Value} {env : PySem.Env} {hx : Value → Sem Unit} {s₀ s : Shared} (hg : gens[d]? = some g) (ha : g.is_async = 0)
    (hden : (model prog w).den (.compStart (ge elt gens sc pos) d it acc env) = (compStart (ge elt gens sc pos) d it acc env).onRaise hx) (hq : (Code.compLoop (ge elt gens sc pos) d it acc env).quiet = true)
    (self : ∀ (A' : Around) (Q : Value → Shared → Prop) (E : Value → Shared → Prop), Q it s → wpAny (model prog w) A' (pyIter it) Q E s)
    (loop : Seg (model prog w) A R Y n s₀ (.compLoop (ge elt gens sc pos) d it acc env) ((model prog w).den (.compLoop (ge elt gens sc pos) d it acc env)) fr s) :
    Seg (model prog w) A R Y n s₀ (.compStart (ge elt gens sc pos) d it acc env) ((model prog w).den (.compStart (ge elt gens sc pos) d it acc env)) fr s := by
  rw [hden, Sem.onRaise_eq_wrap]
  unfold compStart
  have e : ((clausesOf (ge elt gens sc pos))[d]?).elim false (fun c => c.is_async != 0) = false := by
    show (gens[d]?).elim false _ = false
    rw [hg]
    show (g.is_async != 0) = false
    rw [ha]
    rfl
  rw [e]
  show Seg _ A _ _ _ s₀ _ ((ask >>= _).wrap _ _ _ _) fr s
  refine seg_bind_wrap (wpAny_askSetting ?_)
  split
  · exact seg_again hq loop
  · have hc : (clausesOf (ge elt gens sc pos))[d]? = some g := hg
    rw [hc]
    refine seg_bind_wrap (wpAny_rule ?_)
    show Seg _ A _ _ _ s₀ _ ((standAt g.iter.pos >>= _).wrap _ _ _ _) fr s
    exact seg_bind_wrap (wpAny_standAt (seg_bind_wrap (self _ _ _ (seg_again hq loop))))
/-- the next for -/
theorem segEm_G {e i2 : Expr} {d n : Nat} {acc : Value} {env : PySem.Env} {P : Nat → Shared → Prop} (hs : ∀ x, foldedSetIterable i2 env x = pure x)
    (h : wpAny (model prog w) (A.over c fr) (eval i2 env) (fun x s1 => wpAny (model prog w) (A.over c fr) (pyIter x) (fun j s2 => ∀ (k' : Result → Sem PySem.Fin) (p : Pos) (s₀ : Shared),
        (∀ n' s₀' s', P n' s' → Seg (model prog w) A R Y n' s₀' c (k' (.ok .next)) fr s') → Seg (model prog w) A R Y n s₀ (.compStart e d j acc env) ((model prog w).den (.compStart e d j acc env)) (.ret k' none false [] c p [] :: fr) s2)
      (fun _ _ => False) s1) (fun _ _ => False) s) : SegEm (model prog w) A R Y c fr (emG e i2 d acc env) P n s := by
  intro k K J s₀ hk
  unfold emG
  refine seg_bind_wrap (wpAny_mono h (fun x s1 h1 => ?_) fun _ _ x => x.elim)
  refine seg_bind_wrap (wpAny_standAt (seg_bind_wrap (wpAny_of_eq (hs x) ?_)))
  refine seg_bind_wrap (wpAny_holding (wpAny_mono h1 (fun j s2 h2 => ?_) fun _ _ x => x.elim))
  refine seg_call fun p => ?_
  exact h2 _ p s₀ fun n' s₀' s' hP => hk n' s₀' s' hP
theorem segEm_Y {elt : Expr} {env : PySem.Env} {P : Nat → Shared → Prop} {n : Nat} (hco : env.scope.isCoroutine = false) (hfs : splitAtGen fr = none) (hfg : fr.any Frame.guarded = false)
    (h : wpAny (model prog w) (A.over c fr) (eval elt env) (fun y s1 => ∃ n', n = n' + 1 ∧ ∀ s₀, ∀ kap, (∀ s'', P n' s'' → kap (.send .none) s'') → Y n' s₀ y s1 kap) (fun _ _ => False) s) : SegEm (model prog w) A R Y c fr (emY elt env) P n s := by
  intro k K J s₀ hk
  unfold emY
  have hy : ∀ v, yieldOut env v = yieldValue v := fun v => by simp only [yieldOut, hco, Bool.false_eq_true, if_false]
  simp only [hy]
  rw [Sem.bind_eq_wrap', Sem.wrap_wrap]
  refine seg_bind_wrap (wpAny_mono h (fun y s1 h1 => ?_) fun _ _ x => x.elim)
  obtain ⟨n', rfl, h1⟩ := h1
  refine seg_at (seg_yield hfs rfl hfg ?_)
  exact h1 s₀ _ fun s'' hP => hk n' s'' s'' hP
end
end
end G4

/-! G21: the context of a generator's code; how a generator is made. -/
namespace G4
open PySem PySem.Spec PyProof.Rows L2
section
variable {M : Model} {A : Around} {E : Value → Shared → Prop} {s : Shared}
abbrev frameObj : Obj := { cls := .type "frame", data := .dict #[] }
theorem newEnv_gen {scope : Scope} {globals : Addr} {closure : List (Str × Addr)} {it : Value} {qual : Str} {code : Value} {builtins : Addr} {Q : PySem.Env → Shared → Prop} (hk : scope.kind = .function) (h0 : scope.names.lookup (".0" : Str) = some NameKind.local)
    (h : ∀ h' tk, h'.Ns s.heap.objs.size (fun y => if y = ".0" then some it else none) → (∀ b o, b ≠ s.heap.objs.size → (pushCells (s.heap.push frameObj) scope.names).get? b = some o → h'.get? b = some o) →
      Q (newEnv scope s.heap.objs.size globals (cellsFrom (s.heap.objs.size + 1) scope.names closure) qual none code none builtins) { s with heap := h', toks := tk }) :
    wpAny M A (newFunctionEnv scope globals closure [(".0", it)] qual none code none builtins) Q E s := by
  simp only [newFunctionEnv, Option.isSome_none, Bool.false_eq_true, if_false]
  refine wpAny_bind (wpAny_alloc ?_)
  refine wpAny_bind (wpAny_layCells _ (fun name kind cells => by cases hkc : kind == NameKind.cell <;> simp [hkc]) _ _ _ _ ?_)
  rw [show ({ s with heap := s.heap.push { cls := .type "frame", data := .dict #[] } } : Shared).heap.objs.size = s.heap.objs.size + 1 from Heap.size_push ..]
  simp only [List.forIn_cons, List.forIn_nil]
  refine wpAny_bind (wpAny_bind (wpAny_bind (wpAny_storeName_local (m := fun _ => none) ?_ ((Heap.Ns.new s.heap (.type "frame")).keeps (pushCells_keeps _ _)) (fun h' hn hs => ?_) ?_)))
  · exact h0
  · refine wpAny_pure (wpAny_pure (wpAny_pure ?_))
    exact h h' _ hn fun b o hb e => hs.extBut b o hb e
  · show (scope.kind == .class || _) = false
    rw [hk]
    rfl
end
abbrev Cx.gen (X : Cx) (s : Shared) (H : Hp) (scope : Scope) (cenv : PySem.Env) (fp : List Addr) : Cx :=
  { X with A := (X.A.in1.in1).deeper cenv, s_0 := s, H_0 := H, env := cenv, outer := X.stack, stack := cenv :: X.stack, ex := fp, fn := fun x => scope.names.lookup x == some .cell, pn := [], xe := fun _ _ => False }
section
variable {X : Cx} {pins : List (Addr × Obj)} {σ : L2.St} {H : Hp} {s : Shared}
theorem gen_start {scope : Scope} {own : List (Str × Nat)} {fp : List Addr} {h' : Heap} {m0 : Str → Option Value} {gs : Array GenState} {tk : Nat} {code : Value} (I : Inv X pins σ H s) (ok : BlkOk X.N X.env.scope scope own) (hN : X.N.Nodup)
    (hfp : ∀ b ∈ fp, FpOk X pins H b ∧ b < s.heap.objs.size) (hn : h'.Ns s.heap.objs.size m0) (hk : ∀ b o, b ≠ s.heap.objs.size → (pushCells (s.heap.push frameObj) scope.names).get? b = some o → h'.get? b = some o) (hg : AllBare gs) :
    Inv (Cx.gen X s H scope (genEnv scope (cellsFrom (s.heap.objs.size + 1) scope.names (cloFrom X.env.cells scope.names [])) s.heap.objs.size code builtinsNs X.env) fp) [] (wipe σ (own.map (·.2))) H { s with heap := h', toks := tk, gens := gs } := by
  have hfree : ∀ y ∈ scope.names, y.2 = .free → ∃ c, X.env.cells.lookup y.1 = some c := fun y hy e => by
    rcases ok.free y hy e with k | k
    · exact I.ok.has _ (.inl k)
    · exact I.ok.has _ (.inr k)
  generalize hcenv : genEnv scope (cellsFrom (s.heap.objs.size + 1) scope.names (cloFrom X.env.cells scope.names [])) s.heap.objs.size code builtinsNs X.env = cenv
  have kp0 : ∀ b o, s.heap.get? b = some o → (pushCells (s.heap.push frameObj) scope.names).get? b = some o := fun b o e => pushCells_keeps _ _ _ _ (Heap.get?_push_of_some _ e)
  have kp : ∀ b o, s.heap.get? b = some o → h'.get? b = some o := fun b o e => hk b o (Nat.ne_of_lt (Heap.lt_size e)) (kp0 b o e)
  have hL : cenv.locals = s.heap.objs.size := by rw [← hcenv]; rfl
  have hfr : cenv.frame = some cenv.locals := by rw [← hcenv]; rfl
  have hcl : cenv.cells = cellsFrom (s.heap.objs.size + 1) scope.names (cloFrom X.env.cells scope.names []) := by rw [← hcenv]; rfl
  have hsc : cenv.scope = scope := by rw [← hcenv]; rfl
  rw [← Heap.size_push s.heap frameObj] at hcl
  have cm : ∀ {y c}, (y, c) ∈ cloFrom X.env.cells scope.names [] → X.env.cells.lookup y = some c ∧ c < s.heap.objs.size := fun {y c} hm => by
    rcases cloFrom_mem hm with hm | ⟨h1, rfl⟩
    · cases hm
    · obtain ⟨c, hc⟩ := hfree _ h1 rfl
      rw [hc]
      obtain ⟨w, z⟩ := I.cell _ _ hc
      exact ⟨rfl, z.lt⟩
  have mem : ∀ {y c}, cenv.cells.lookup y = some c → (X.env.cells.lookup y = some c ∧ c < s.heap.objs.size) ∨ (s.heap.objs.size + 1 ≤ c ∧ h'.IsCell c none) := fun {y c} e => by
    rw [hcl] at e
    rcases cells_mem (PySem.mem_of_lookup e) with hm | ⟨_, h2, h3⟩
    · exact .inl (cm hm)
    · rw [Heap.size_push] at h2
      obtain ⟨o, ho, r⟩ := h3
      exact .inr ⟨h2, o, hk _ _ (by omega) ho, r⟩
  have look : ∀ {y}, scope.names.lookup y = some .free → ∃ c, cenv.cells.lookup y = some c ∧ X.env.cells.lookup y = some c := fun {y} hl => by
    have hy : (y, NameKind.free) ∈ scope.names := PySem.mem_of_lookup hl
    obtain ⟨c', e'⟩ := mem_lookup (cells_acc (names := scope.names) (n := (s.heap.push frameObj).objs.size) (cloFrom_has (cells := X.env.cells) (acc := []) hy))
    rw [← hcl] at e'
    refine ⟨c', e', ?_⟩
    rw [hcl] at e'
    rcases cells_mem (PySem.mem_of_lookup e') with hm | ⟨h1, _, _⟩
    · exact (cm hm).1
    · have := ok.uniq _ h1
      rw [hl] at this; cases this
  have okB : (Cx.gen X s H scope cenv fp).Ok := by
    refine ⟨I.ok.mod, by show cenv.scope.kind = _; rw [hsc]; exact ok.kind, by show cenv.globals = _; rw [← hcenv]; exact I.ok.glob, by show cenv.builtins = _; rw [← hcenv]; rfl, by show s.heap.objs.size ≤ cenv.locals; rw [hL]; exact Nat.le_refl _,
      fun y z c e1 e2 => ?_, fun y hy => ?_, fun y c z e => ?_, I.ok.hd, ?_, .inr ⟨rfl, hfr⟩, fun b hb => ⟨?_, fun y c e z => ?_⟩, I.bs, Nat.le_trans I.ok.bsz I.sz, fun b o e hb => ?_, fun b hb z => ?_, I.stack, I.stkFree⟩
    · have e1 : cenv.cells.lookup y = some c := e1
      have e2 : cenv.cells.lookup z = some c := e2
      rw [hcl] at e1 e2
      refine cells_inj (fun p hp => ?_) (fun y z c a b => I.ok.inj y z c (cm a).1 (cm b).1) (PySem.mem_of_lookup e1) (PySem.mem_of_lookup e2)
      rw [Heap.size_push]
      exact Nat.lt_succ_of_lt (cm (y := p.1) (c := p.2) hp).2
    · show ∃ c, cenv.cells.lookup y = some c
      have key : ∀ k, cenv.kindOf y = some k → (k = .cell ∨ k = .free) → ∃ c, cenv.cells.lookup y = some c := fun k e hk' => by
        unfold Env.kindOf at e
        rw [hsc] at e
        rcases hk' with rfl | rfl
        · obtain ⟨c, hm⟩ := cells_has (n := (s.heap.push frameObj).objs.size) (acc := cloFrom X.env.cells scope.names []) (PySem.mem_of_lookup e)
          obtain ⟨c', e'⟩ := mem_lookup hm
          exact ⟨c', by rw [hcl]; exact e'⟩
        · obtain ⟨c, h1, _⟩ := look e
          exact ⟨c, h1⟩
      rcases hy with hy | hy
      · exact key _ hy (.inl rfl)
      · exact key _ hy (.inr rfl)
    · have z : (scope.names.lookup y == some NameKind.cell) = true := z
      have z : scope.names.lookup y = some .cell := by simpa using z
      have e : cenv.cells.lookup y = some c := e
      rw [hcl] at e
      rcases cells_mem (PySem.mem_of_lookup e) with hm | ⟨_, h2, _⟩
      · rcases cloFrom_mem hm with hm | ⟨h1, _⟩
        · cases hm
        · have q := ok.uniq _ h1
          rw [z] at q; cases q
      · rw [Heap.size_push] at h2
        exact Nat.le_of_succ_le h2
    · exact Around.frames_deeper (A := X.A.in1.in1) I.ok.frames
    · show b ≠ cenv.locals
      rw [hL]; exact Nat.ne_of_lt (hfp b hb).2
    · have e : cenv.cells.lookup y = some c := e
      rcases mem e with ⟨h1, _⟩ | ⟨h1, _⟩
      · exact (hfp b hb).1.2.2.2.2.1 y c h1 z
      · have h2 : s.heap.objs.size + 1 ≤ b := by rw [← z]; exact h1
        exact absurd (Nat.lt_of_lt_of_le (hfp b hb).2 (Nat.le_of_succ_le h2)) (Nat.lt_irrefl _)
    · rcases (hfp b hb).1.2.2.2.1 with z | z
      · exact I.ok.noex b o e z
      · exact absurd (Nat.lt_of_lt_of_le (Heap.lt_size e) (Nat.le_trans I.ok.bsz z)) (Nat.lt_irrefl _)
    · rcases List.mem_cons.mp (I.stkSub b z) with z | z
      · exact (hfp b hb).1.2.1 z
      · exact (hfp b hb).1.2.2.1 z
  refine ⟨okB, rfl, hg, Un.kept kp, ⟨m0, ?_, fun i y av e1 e2 e3 => ?_⟩, fun y c e => ?_, ?_, fun y c e => ?_, fun p hp => absurd (show p ∈ ([] : List (Addr × Obj)) ++ [] from hp) (by simp), I.hok.kept kp, by rw [wipe_length]; exact I.len⟩
  · show Heap.Ns _ cenv.locals _
    rw [hL]
    exact hn
  · obtain ⟨e2, hne⟩ := wipe_some e2
    have hfr : scope.names.lookup y = some .free ∧ cenv.kindOf y = some .free := by
      have key : ∀ k, scope.names.lookup y = some k → k = .local ∨ k = .cell ∨ k = .free → scope.names.lookup y = some .free ∧ cenv.kindOf y = some .free := fun k e hk' => by
        have no : ¬ (k = .local ∨ k = .cell) := fun hh => by
          rcases ok.own _ (PySem.mem_of_lookup e) hh with e' | e'
          · obtain ⟨p, hp, hpy⟩ := List.mem_map.mp e'
            have e3 := ok.ix p hp
            have : p.1 = y := hpy
            rw [this] at e3
            exact hne (List.mem_map.mpr ⟨p, hp, nodup_ix hN e3 e1⟩)
          · exact e' (List.mem_of_getElem? e1)
        rcases hk' with rfl | rfl | rfl
        · exact absurd (.inl rfl) no
        · exact absurd (.inr rfl) no
        · exact ⟨e, by unfold Env.kindOf; rw [hsc]; exact e⟩
      have e3 : Vis cenv.scope y := e3
      rw [hsc] at e3
      rcases e3 with e3 | e3 | e3
      · exact key _ e3 (.inl rfl)
      · exact key _ e3 (.inr (.inl rfl))
      · exact key _ e3 (.inr (.inr rfl))
    obtain ⟨m, hn, hl⟩ := I.loc
    have hvis : Vis X.env.scope y := (ok.free _ (PySem.mem_of_lookup hfr.1) rfl).elim (fun k => .inr (.inl k)) (fun k => .inr (.inr k))
    obtain ⟨w, r, q⟩ := hl i y av e1 e2 hvis
    refine ⟨w, r, .inr ⟨.inr hfr.2, ?_⟩⟩
    obtain ⟨c, h1, h2⟩ := look hfr.1
    rcases q with ⟨k, _⟩ | ⟨_, c', e', z⟩
    · have k : X.env.scope.names.lookup y = some .local := k
      rcases ok.free _ (PySem.mem_of_lookup hfr.1) rfl with k' | k' <;> rw [show X.env.scope.names.lookup y = _ from k'] at k <;> cases k
    · rw [h2] at e'; cases e'
      obtain ⟨o, ho, r⟩ := z
      exact ⟨c, h1, o, kp _ _ ho, r⟩
  · have e : cenv.cells.lookup y = some c := e
    rcases mem e with ⟨h1, _⟩ | ⟨_, h2⟩
    · obtain ⟨v, o, ho, r⟩ := I.cell y c h1
      exact ⟨v, o, kp _ _ ho, r⟩
    · exact ⟨none, h2⟩
  · show H cenv.locals = none
    rw [hL]
    exact I.hok.fresh (Nat.le_refl _)
  · have e : cenv.cells.lookup y = some c := e
    rcases mem e with ⟨h1, _⟩ | ⟨h1, _⟩
    · exact I.freeC y c h1
    · exact I.hok.fresh (Nat.le_of_succ_le h1)
end
end G4

/-! G22: the fors of a generator's code in its context. -/
namespace G4
open PySem PySem.Spec PyProof.Rows L2
abbrev GAct := Nat → L2.St → Hp → (Nat → L2.St → Hp → Prop) → Prop
/-- a for's reading; n: how many items may still be handed out -/
def gLoop (J : It) (g : TG) (tt : TT) (act : GAct) (fin : Nat → L2.St → Hp → Prop) (n : Nat) (σ : L2.St) (H : Hp) : Prop :=
  ∃ W : Nat → Nat → Nat → L2.St → Hp → Prop, (∃ m, W 0 m n σ H) ∧ ∀ i m n σ' H', W i m n σ' H' →
    (J.stop i H' ∧ fin n σ' H') ∨ (J.go i H' ∧ ∃ N : Nat → L2.St → Hp → Prop, (∀ n2 σ2 H2, N n2 σ2 H2 → ∃ m', m' < m ∧ W (i + 1) m' n2 σ2 H2) ∧
      ∀ x H2, J.yld i H' x H2 → g x σ' H2 fun σ2 H3 => tt σ2 H3 fun b H4 => if b = true then act n σ2 H4 N else N n σ2 H4)
def gFor (wi : TI) (g : TG) (tt : TT) (act : GAct) : GAct := fun n σ H N => wi σ H fun J H1 => gLoop J g tt act N n σ H1
def gYield (te : TE) (yl : V → Hp → (Hp → Prop) → Prop) : GAct := fun n σ H N => te σ H fun y H4 => ∃ n', n = n' + 1 ∧ yl y H4 fun H5 => N n' σ H5
/-- any (stop: true), all (stop: false) -/
def ylB (stop : Bool) (F : Hp → Prop) : V → Hp → (Hp → Prop) → Prop := fun x H k => ∃ b, x = .bl b ∧ if b = stop then F H else k H
/-- nothing has changed but the generators -/
structure Woke (s s' : Shared) : Prop where
  heap : s'.heap = s.heap
  os : s'.os = s.os
  bare : AllBare s'.gens
section
variable {B : Cx}
theorem Woke.inv {pins : List (Addr × Obj)} {σ : L2.St} {H : Hp} {s s' : Shared} (z : Woke s s') (I : Inv B pins σ H s) : Inv B pins σ H s' := by
  obtain ⟨h, g, d, t, o⟩ := s'
  obtain ⟨e1, e2, e3⟩ := z
  have e1 : h = s.heap := e1
  have e2 : o = s.os := e2
  subst e1 e2
  exact I.step (g' := g) (t' := t) (d' := d) (ch := []) (fun b hb => absurd hb (by simp)) (fun b o _ _ _ e _ => e) (fun b o _ _ _ e _ => ⟨o.slots, e⟩) (fun b o _ e n => n) (fun b o _ e => ⟨o, e⟩) (fun _ _ e => e) (fun _ _ _ e => e) (fun b ps e => ⟨#[], by rw [e]; simp⟩) (fun m hm => hm) I.hok e3
/-- what the consumer is told at an item -/
def YB (B : Cx) (p0 : Addr × Obj) (stop : Bool) (F : Hp → Prop) : Protocol := fun n s₀ v s kap =>
  ∃ (b : Bool) (pins : List (Addr × Obj)) (σ : L2.St) (H : Hp), v = .bool b ∧ p0 ∈ pins ∧ Inv B pins σ H s ∧ (if b = stop then F H else ∀ s'', Woke s s'' → kap (.send .none) s'')
def RB (B : Cx) (p0 : Addr × Obj) (F : Hp → Prop) : GenEnd := fun n s₀ r s => r = .ok .next ∧ ∃ (pins : List (Addr × Obj)) (σ : L2.St) (H : Hp), p0 ∈ pins ∧ Inv B pins σ H s ∧ F H
/-- the act is done by em -/
def EmSeg (B : Cx) (p0 : Addr × Obj) (A : Around) (R : GenEnd) (Y : Protocol) (em : Sem PySem.Fin → Sem PySem.Fin) (act : GAct) : Prop :=
  ∀ (c : Code) (fr : List Frame) (pins : List (Addr × Obj)) (n : Nat) (s : Shared) (σ : L2.St) (H : Hp) (N : Nat → L2.St → Hp → Prop), A.over c fr = B.A → splitAtGen fr = none → fr.any Frame.guarded = false → p0 ∈ pins → Inv B pins σ H s → act n σ H N →
    SegEm (model B.prog B.w) A R Y c fr em (fun n' s' => ∃ σ' H', Inv B pins σ' H' s' ∧ N n' σ' H') n s
variable {p0 : Addr × Obj} {A : Around} {R : GenEnd}
theorem em_Y {elt : Expr} {te : TE} {stop : Bool} {F : Hp → Prop} (hx : B.xe = fun _ _ => False) (hco : B.env.scope.isCoroutine = false) (he : PE B elt te) : EmSeg B p0 A R (YB B p0 stop F) (emY elt B.env) (gYield te (ylB stop F)) := by
  intro c fr pins n s σ H N hA hs hg hp I h
  refine segEm_Y hco hs hg ?_
  rw [hA]
  have q := he.run pins s σ H _ I h
  rw [hx] at q
  refine wpAny_mono q (fun y s1 hy => ?_) fun _ _ x => x
  obtain ⟨x, H1, I1, rv, n', rfl, b, rfl, hb⟩ := hy
  obtain rfl : y = Value.bool b := rv
  refine ⟨n', rfl, fun s₀ kap hk => ⟨b, pins, σ, H1, rfl, hp, I1, ?_⟩⟩
  by_cases e : b = stop
  · rw [if_pos e] at hb ⊢
    exact hb
  · rw [if_neg e] at hb ⊢
    exact fun s'' z => hk s'' ⟨σ, H1, z.inv I1, hb⟩
/-- a for of the code -/
theorem g_loop {Y : Protocol} {e tg : Expr} {d : Nat} {acc : Value} {p : Pos} {ifs : List Expr} {em : Sem PySem.Fin → Sem PySem.Fin} {it : Addr} {fp : List Addr} {tn : Nat → Heap → Prop} {J : It} {g : TG} {tt : TT} {act : GAct} {fr : List Frame} {hh : Value → Sem Unit}
    {pins : List (Addr × Obj)} {fin : Nat → L2.St → Hp → Prop} {σ : L2.St} {H : Hp} {n : Nat} {s₀ s : Shared}
    (hden : (model B.prog B.w).den (.compLoop e d (.ref it) acc B.env) = (cturn e d p tg ifs em (.ref it) acc B.env).onRaise hh) (hq : (Code.compLoop e d (.ref it) acc B.env).quiet = true)
    (hA : A.over (.compLoop e d (.ref it) acc B.env) fr = B.A) (hs : splitAtGen fr = none) (hg : fr.any Frame.guarded = false) (hp : p0 ∈ pins) (hc : B.calm = true) (hx : B.xe = fun _ _ => False)
    (T : Turn B.prog B.w B.K tg J fp it tn) (pg : PG B tg g) (pt : PTs B ifs tt) (pa : EmSeg B p0 A R Y em act) (ff : ∀ b ∈ fp, FpOk B pins H b)
    (I : Inv B pins σ H s) (st : tn 0 s.heap) (h : gLoop J g tt act fin n σ H)
    (done : ∀ n s₀ s σ' H', Inv B pins σ' H' s → fin n σ' H' → Seg (model B.prog B.w) A R Y n s₀ (.compLoop e d (.ref it) acc B.env) (leafOf (.ok .next)) fr s) :
    Seg (model B.prog B.w) A R Y n s₀ (.compLoop e d (.ref it) acc B.env) ((model B.prog B.w).den (.compLoop e d (.ref it) acc B.env)) fr s := by
  obtain ⟨W, ⟨m0, w0⟩, turn⟩ := h
  have stat : ∀ {H' : Hp}, (∀ b ∈ fp, H' b = none) → ∀ b ∈ fp, FpOk B pins H' b := fun hn b hb => ⟨hn b hb, (ff b hb).2⟩
  refine seg_cloop hden hq (fun m n s' => ∃ i σ' H', Inv B pins σ' H' s' ∧ tn i s'.heap ∧ (∀ b ∈ fp, H' b = none) ∧ W i m n σ' H') (fun n s' => ∃ σ' H', Inv B pins σ' H' s' ∧ fin n σ' H') ?_ (fun n s₀ s ⟨σ', H', I', f⟩ => done n s₀ s σ' H' I' f) m0 n s₀ s
    ⟨0, σ, H, I, st, fun b hb => (ff b hb).1, w0⟩
  rintro m n s5 ⟨i, σ5, H5, I5, st5, n5, w5⟩
  rw [hA]
  rcases turn i m n σ5 H5 w5 with ⟨stop, nx⟩ | ⟨go, N, hN, step⟩
  · have td := T.done B rfl rfl rfl hc i pins s5 σ5 H5 (fun _ _ => False) I5 (stat n5) st5 stop
    refine thnF td fun r s6 ⟨hr, I6⟩ => ?_
    subst hr
    exact ⟨σ5, H5, I6, nx⟩
  · have ti := T.item B rfl rfl rfl hc i pins s5 σ5 H5 (fun _ _ => False) I5 (stat n5) st5 go
    refine thnF ti fun r s6 ⟨u, hr, h6⟩ => ?_
    subst hr
    refine thnF h6 fun _ s7 ⟨x, H7, I7, r7, y7, st7, n7⟩ => ?_
    have I7' := I7.pinned (stat n7) (T.obj _ _ st7)
    have pgr := pg.run _ s7 σ5 H7 x u _ I7' r7 (step x H7 y7)
    rw [hx] at pgr
    refine thnF pgr fun _ s8 ⟨σ8, H8, I8, q8⟩ => ?_
    have ptr := pt.run _ s8 σ8 H8 _ I8 q8
    rw [hx] at ptr
    refine thnF ptr fun b s9 ⟨H9, I9, q9⟩ => ?_
    have fin : ∀ {s' : Shared} {σ' : L2.St} {H' : Hp} {n' : Nat}, Inv B (pins ++ pinsAt fp s7.heap) σ' H' s' → N n' σ' H' → ∃ m', m' < m ∧ ∃ i σ' H', Inv B pins σ' H' s' ∧ tn i s'.heap ∧ (∀ b ∈ fp, H' b = none) ∧ W i m' n' σ' H' := by
      intro s' σ' H' n' I' nx
      obtain ⟨m', hm, w'⟩ := hN n' σ' H' nx
      have pin' : ∀ b ∈ fp, ∀ o, s7.heap.get? b = some o → s'.heap.get? b = some o ∧ H' b = none := by
        intro b hb o e
        have z := I'.pin (b, o) (List.mem_append_right _ (List.mem_append_right _ (mem_pinsAt hb e)))
        exact ⟨z.1, z.2.1⟩
      refine ⟨m', hm, i + 1, σ', H', I'.unpinned, T.keep _ _ _ st7 fun b hb o e => (pin' b hb o e).1, fun b hb => ?_, w'⟩
      obtain ⟨o, e, _⟩ := T.obj _ _ st7 b hb
      exact (pin' b hb o e).2
    cases b with
    | false =>
      simp only [Bool.false_eq_true, if_false] at q9 ⊢
      exact fin I9 q9
    | true =>
      simp only [if_true] at q9 ⊢
      have em := pa _ fr (pins ++ pinsAt fp s7.heap) n s9 σ8 H9 N hA hs hg (List.mem_append_left _ hp) I9 q9
      exact fun k K' J' s₀' hk => em k K' J' s₀' fun n' s₀'' s' ⟨σ', H', I', nx⟩ => hk n' s₀'' s' (fin I' nx)
/-- the next for -/
theorem em_For {Y : Protocol} {elt tg i2 : Expr} {gens : List Comprehension} {sc : Scope} {pos : Pos} {d : Nat} {acc : Value} {ifs : List Expr} {em : Sem PySem.Fin → Sem PySem.Fin} {wi : TI} {g : TG} {tt : TT} {act : GAct}
    (hgd : gens[d + 1]? = some ⟨tg, i2, ifs, 0⟩) (ht : ∀ it, compTurn (ge elt gens sc pos) (d + 1) it acc B.env = cturn (ge elt gens sc pos) (d + 1) i2.pos tg ifs em it acc B.env)
    (hc : B.calm = true) (hx : B.xe = fun _ _ => False) (pi : PI B tg i2 wi) (pg : PG B tg g) (pt : PTs B ifs tt) (pa : EmSeg B p0 A R Y em act) (hs2 : ∀ x, foldedSetIterable i2 B.env x = pure x) :
    EmSeg B p0 A R Y (emG (ge elt gens sc pos) i2 (d + 1) acc B.env) (gFor wi g tt act) := by
  intro c fr pins n s σ H N hA hs hg hp I h
  refine segEm_G hs2 ?_
  rw [hA]
  have pir := pi.run pins s σ H _ I h
  rw [hx] at pir
  refine thnF pir fun xv s1 hx1 => thnF hx1 fun j s2 h2 => ?_
  obtain ⟨it, fp, tn, J, H2, rfl, I2, T, st2, ff, q⟩ := h2
  intro k' p s₀ hk
  have ov : ∀ c' : Code, c'.weight = 0 → c'.cUnits = 0 → A.over c' (.ret k' none false [] c p [] :: fr) = B.A := fun c' hw hu => (GenW.over_loop hw hu).trans hA
  have sp : splitAtGen (.ret k' none false [] c p [] :: fr) = none := by
    show (splitAtGen fr).map _ = none
    rw [hs]; rfl
  have gu : (Frame.ret k' none false [] c p [] :: fr).any Frame.guarded = false := by
    show (false || fr.any Frame.guarded) = false
    rw [hg]; rfl
  refine seg_cstart (hx := fun x => do noteFrame x B.env; standAt theWindowsPlace) hgd rfl rfl rfl (fun A' Q' E' hq => T.self A' 0 _ _ _ st2 hq) ?_
  refine g_loop (p0 := p0) (hh := fun x => do noteFrame x B.env; theTreesLotGoes x) (by rw [← ht]; rfl) rfl (ov _ rfl rfl) sp gu hp hc hx T pg pt pa ff I2 st2 q fun n s₀ s σ' H' I' nx => ?_
  exact seg_leaf (.ok .next) (hk n s₀ s ⟨σ', H', I', nx⟩)
end
end G4

/-! G23: any, all of a generator expression. -/
namespace G4
open PySem PySem.Spec PyProof.Rows L2
theorem codeAmong_app {pos : Pos} {a b : Int} {c cv : Value} (l : List Value) (h : TriplesOk l) (hn : codeAmong pos (l ++ [rawInt a, rawInt b, c]) = some cv) : codeAmong pos l = some cv ∨ cv = c := by
  fun_induction TriplesOk l with
  | case1 =>
    simp [codeAmong, rawInt] at hn
    exact .inr hn.2.symm
  | case2 a t b u x rest ih =>
    simp only [List.cons_append, codeAmong] at hn ⊢
    split at hn
    · rename_i hc
      rw [if_pos hc]
      exact .inl hn
    · rename_i hc
      rw [if_neg hc]
      exact ih h hn
  | case3 l h1 h2 => exact h.elim
/-- the known tables and codes may have become more -/
structure Grown (T : Addr → Prop) (H : Hp) (T' : Addr → Prop) (H' : Hp) : Prop where
  le : ∀ a, T a → T' a
  ok : TabsOk T' H'
  old : ∀ a o, ¬ T a → H a = some o → H' a = some o
  new : ∀ a, T' a → T a ∨ H a = none
  old2 : ∀ a o, H a = some o → ∃ o', H' a = some o'
  tbl : ∀ a ps, H a = some (.tbl ps) → ∃ ps', H' a = some (.tbl ps')
  cod : ∀ a P, H a = some (CodeO a P) → H' a = some (CodeO a P)
theorem Grown.refl {T : Addr → Prop} {H : Hp} (h : TabsOk T H) : Grown T H T H := ⟨fun _ h => h, h, fun _ _ _ h => h, fun _ h => .inl h, fun _ o h => ⟨o, h⟩, fun _ ps h => ⟨ps, h⟩, fun _ _ h => h⟩
section
variable {X : Cx} {pins : List (Addr × Obj)} {σ : L2.St} {H : Hp} {s : Shared}
theorem gen_code {c P : Addr} {ps : Array Value} {pos : Pos} {q : Str} {scope : Scope} {T : Addr → Prop} {Q : Value → Shared → Prop} {E : Value → Shared → Prop} {A : Around} (hc : X.env.code = .ref c) (C : PySem.W.CodeHd s.heap c P) (I : Inv X pins σ H s) (hT : TabsOk T H) (hP : T P) (hp : H P = some (.tbl ps))
    (hQ : ∀ cv h' tk H' T', Inv X pins σ H' { s with heap := h', toks := tk } → Grown T H T' H' → (∀ b o, b ≠ P → s.heap.get? b = some o → h'.get? b = some o) → (∀ b o, b ≠ P → s.heap.get? b = some o → H' b = H b) → (∃ c' P', cv = .ref c' ∧ H' c' = some (CodeO c' P') ∧ T' c' ∧ T' P' ∧ ∃ ps', H' P' = some (.tbl ps')) → Q cv { s with heap := h', toks := tk }) :
    wpAny (model X.prog X.w) A (genexprCode X.env pos q scope) Q E s := by
  have ht : TriplesOk ps.toList ∧ ∀ pos cv, codeAmong pos ps.toList = some cv → ∃ c' P', cv = .ref c' ∧ H c' = some (CodeO c' P') ∧ T c' ∧ T P' ∧ ∃ ps', H P' = some (.tbl ps') := by
    rcases hT P hP with ⟨P', e⟩ | ⟨ps', e, r⟩
    · rw [hp] at e; cases e
    · rw [hp] at e; cases e; exact r
  have hPs : s.heap.get? P = some { cls := .none, data := .fields ps } := I.hok P _ hp
  cases hf : codeAmong pos ps.toList with
  | some cv =>
    refine wpAny_genexprCode_hit hc (C.code hPs ht.1) hf ?_
    exact hQ cv s.heap s.toks H T I (.refl hT) (fun _ _ _ e => e) (fun _ _ _ _ => rfl) (ht.2 pos cv hf)
  | none =>
    refine wpAny_genexprCodeX hc (C.code hPs ht.1) (C.tab hPs) hf fun c' h' tk hx hge hlt hco' _ htab' hnew => ?_
    obtain ⟨P', hgP, hcP, htP⟩ := hnew
    have CH := PySem.W.CodeHd.of hcP htP
    have hP' : h'.get? P' = some { cls := .none, data := .fields #[] } := htP.2
    have hne : c' ≠ P' := by obtain ⟨_, _, _, _, _, _, _, _, _, _, _, _, _, _, _, _, _, _, _, z⟩ := hcP; exact z.2
    have hPlt := Heap.lt_size hPs
    have hcP2 : c' ≠ P := Nat.ne_of_gt (Nat.lt_of_lt_of_le hPlt hge)
    have hPP : P' ≠ P := Nat.ne_of_gt (Nat.lt_of_lt_of_le hPlt hgP)
    have nc : H c' = none := I.hok.fresh hge
    have nP : H P' = none := I.hok.fresh hgP
    obtain ⟨H', hH⟩ : ∃ H' : Hp, H' = upd (upd (upd H P (.tbl (ps ++ #[rawInt pos.line, rawInt pos.col, .ref c']))) c' (CodeO c' P')) P' (.tbl #[]) := ⟨_, rfl⟩
    have eP' : H' P' = some (.tbl #[]) := by rw [hH]; exact upd_same
    have ec : H' c' = some (CodeO c' P') := by rw [hH, upd_ne hne]; exact upd_same
    have eP : H' P = some (.tbl (ps ++ #[rawInt pos.line, rawInt pos.col, .ref c'])) := by rw [hH, upd_ne (Ne.symm hPP), upd_ne (Ne.symm hcP2)]; exact upd_same
    have eo : ∀ b, b ≠ P → b ≠ c' → b ≠ P' → H' b = H b := fun b h1 h2 h3 => by rw [hH, upd_ne h3, upd_ne h2, upd_ne h1]
    have so : ∀ b u, H b = some u → b ≠ P → H' b = some u := fun b u e h1 => by rw [eo b h1 (ne_of_none e nc) (ne_of_none e nP)]; exact e
    have ge' : ∀ b o, s.heap.get? b = some o → b ≠ c' ∧ b ≠ P' := fun b o e => ⟨Nat.ne_of_lt (Nat.lt_of_lt_of_le (Heap.lt_size e) hge), Nat.ne_of_lt (Nat.lt_of_lt_of_le (Heap.lt_size e) hgP)⟩
    have nt : ∀ b u, H b = some u → (∀ q, u ≠ .tbl q) → b ≠ P := fun b u e q z => by
      rw [z, hp] at e
      exact q ps (Option.some.inj e).symm
    have nN : ∀ b, H b = none → b ≠ P := fun b e z => by
      rw [z, hp] at e
      cases e
    have hPget : h'.get? P = some { cls := .none, data := .fields (ps ++ #[rawInt pos.line, rawInt pos.col, .ref c']) } := htab'.2
    have J : Inv X pins σ H' { s with heap := h', toks := tk } := by
      refine I.step (g' := s.gens) (d' := s.drawn) (ch := []) (fun b hb => absurd hb (by simp)) (fun b o _ _ _ e n => hx b o (nN b n) e) (fun b o _ _ _ e n => ⟨o.slots, hx b o (nN b n) e⟩)
        (fun b o _ e n => ?_) (fun b o _ e => ?_) (fun b xs e => so b _ e (nt b _ e fun q z => by cases z)) (fun b o u e => so b _ e (nt b _ e fun q z => by cases z)) (fun b qs e => ?_) (fun m hn => ?_) (fun b u e => ?_) I.bare
      · obtain ⟨z1, z2⟩ := ge' b o e
        rw [eo b (nN b n) z1 z2]
        exact n
      · by_cases hb : b = P
        · rw [hb]; exact ⟨_, hPget⟩
        · exact ⟨o, hx b o hb e⟩
      · by_cases hb : b = P
        · rw [hb, hp] at e
          cases e
          rw [hb, eP]
          exact ⟨_, rfl⟩
        · exact ⟨#[], by rw [so b _ e hb]; simp⟩
      · obtain ⟨ob, es, ep, ho, r⟩ := hn
        exact ⟨ob, es, ep, hx _ ob (nN _ I.free) ho, r⟩
      · by_cases h1 : b = P'
        · subst h1
          rw [eP'] at e
          cases e
          exact hP'
        · by_cases h2 : b = c'
          · subst h2
            rw [ec] at e
            cases e
            refine ⟨CH, ?_, fun h1 h2 z k => ?_⟩
            · obtain ⟨o, _, _, _, _, _, _, _, _, e1, _⟩ := CH
              exact ⟨o, e1⟩
            · obtain ⟨o, us, file, tf, flags, tg, inF, text, tt, e1, r⟩ := z
              exact ⟨o, us, file, tf, flags, tg, inF, text, tt, k o e1, r⟩
          · by_cases h3 : b = P
            · subst h3
              rw [eP] at e
              cases e
              exact hPget
            · rw [eo b h3 h2 h1] at e
              refine (I.hok b u e).stay (fun d v hd q => hx d v ?_ q) (fun d q => so d _ q (nt d _ q fun q z => by cases z)) fun d xs q => so d _ q (nt d _ q fun q z => by cases z)
              rcases hd with z | z
              · rw [z]; exact h3
              · exact nt d _ z fun q z => by cases z
    refine hQ (.ref c') h' tk H' (fun a => T a ∨ a = c' ∨ a = P') J ⟨fun a h => .inl h, fun a ha => ?_, fun a o n e => so a o e fun z => n (z ▸ hP), fun a ha => ?_, fun a o e => ?_, fun a qs e => ?_, fun a P2 e => so a _ e (nt a _ e fun q z => by cases z)⟩ (fun b o hb e => hx b o hb e) (fun b o hb e => ?_) ⟨c', P', rfl, ec, .inr (.inl rfl), .inr (.inr rfl), _, eP'⟩
    · rcases ha with ha | ha | ha
      · by_cases hb : a = P
        · subst hb
          refine .inr ⟨_, eP, by simpa using TriplesOk_snoc _ _ _ _ ht.1, fun pos' cv hcv => ?_⟩
          have hcv : codeAmong pos' (ps.toList ++ [rawInt pos.line, rawInt pos.col, .ref c']) = some cv := by simpa using hcv
          rcases codeAmong_app _ ht.1 hcv with z | z
          · obtain ⟨c2, P2, e1, e2, e3, e4, ps2, e5⟩ := ht.2 pos' cv z
            refine ⟨c2, P2, e1, so c2 _ e2 (nt c2 _ e2 fun q z => by cases z), .inl e3, .inl e4, ?_⟩
            by_cases h2 : P2 = a
            · exact ⟨_, h2 ▸ eP⟩
            · exact ⟨ps2, so P2 _ e5 h2⟩
          · exact ⟨c', P', z, ec, .inr (.inl rfl), .inr (.inr rfl), #[], eP'⟩
        · rcases hT a ha with ⟨P2, e⟩ | ⟨ps2, e, t2, q2⟩
          · exact .inl ⟨P2, so a _ e hb⟩
          · refine .inr ⟨ps2, so a _ e hb, t2, fun pos' cv z => ?_⟩
            obtain ⟨c2, P2, e1, e2, e3, e4, ps3, e5⟩ := q2 pos' cv z
            refine ⟨c2, P2, e1, so c2 _ e2 (nt c2 _ e2 fun q z => by cases z), .inl e3, .inl e4, ?_⟩
            by_cases h2 : P2 = P
            · exact ⟨_, h2 ▸ eP⟩
            · exact ⟨ps3, so P2 _ e5 h2⟩
      · subst ha; exact .inl ⟨_, ec⟩
      · subst ha; exact .inr ⟨_, eP', trivial, fun pos' cv z => by simp [codeAmong] at z⟩
    · rcases ha with ha | ha | ha
      · exact .inl ha
      · subst ha; exact .inr nc
      · subst ha; exact .inr nP
    · by_cases hb : a = P
      · exact ⟨_, hb ▸ eP⟩
      · exact ⟨o, so a o e hb⟩
    · by_cases hb : a = P
      · exact ⟨_, hb ▸ eP⟩
      · exact ⟨qs, so a _ e hb⟩
    · obtain ⟨z1, z2⟩ := ge' b o e
      exact eo b hb z1 z2
end
theorem evalG (elt target iter : Expr) (ifs : List Expr) (rest : List Comprehension) (scope : Scope) (pos : Pos) (env : PySem.Env) (hco : scope.isCoroutine = false) :
    eval (ge elt (cl0 target iter ifs :: rest) scope pos) env = (do
      let x ← eval iter env
      standAt iter.pos
      let x ← genFold iter env x
      let it ← holding [x] (pyIter x)
      enterFrame
      let cl ← closureFor scope env
      let code ← genexprCode env pos (env.qual ++ "<genexpr>") scope
      let bi ← builtinsFor env.globals env.builtins
      let cenv ← newFunctionEnv scope env.globals cl [(".0", it)] (env.qual ++ "<genexpr>.") none code none bi
      newGenerator (.compStart (ge elt (cl0 target iter ifs :: rest) scope pos) 0 it .none cenv) "<genexpr>" (env.qual ++ "<genexpr>")) := by
  rw [arm_eval_GeneratorExp]
  simp only [hco, Bool.false_eq_true, if_false]
  cases iter <;> rfl
theorem allBare_set {gs : Array GenState} {g : Nat} {x : GenState} (h : AllBare gs) (hx : x.bare = true) : AllBare (gs.setIfInBounds g x) := fun y hy => by
  rw [Array.mem_iff_getElem?] at hy
  obtain ⟨i, hi⟩ := hy
  rw [Array.getElem?_setIfInBounds] at hi
  split at hi
  · split at hi
    · cases hi; exact hx
    · cases hi
  · exact h y (Array.mem_of_getElem? hi)
theorem woke_set {s : Shared} {g : Nat} {x : GenState} (h : AllBare s.gens) (hx : x.bare = true) : Woke s (s.setGen g x) := ⟨rfl, rfl, allBare_set h hx⟩
abbrev Gens (k : Nat) (X : Cx) (sc : Scope) (F : Cx → Prop) : Prop := ∀ (s : Shared) (H : Hp) (C : Addr) (cl : List (Str × Addr)) (code : Value) (fp : List Addr), Room k ((X.A.in1.in1).deeper (genEnv sc cl C code builtinsNs X.env)) → F (Cx.gen X s H sc (genEnv sc cl C code builtinsNs X.env) fp)
theorem room_gen {k : Nat} {A : Around} (r : Room (k + 1) A) (env : PySem.Env) : Room k ((A.in1.in1).deeper env) :=
  ⟨r.hd, by have := r.dp; show A.depth + 1 + 3 * k + 5 < _; omega, by have := r.un; show A.units + 1 + 1 + 3 + 16 * k + 200 < _; omega⟩
theorem over_gen {A : Around} {elt tg iter : Expr} {ifs : List Expr} {rest : List Comprehension} {sc : Scope} {pos : Pos} {it acc : Value} {env : PySem.Env} : A.over (.compLoop (ge elt (cl0 tg iter ifs :: rest) sc pos) 0 it acc env) [] = A.deeper env := by
  first
    | rfl
    | (obtain ⟨hd, d, fr, gs, u⟩ := A; simp [Around.over, Around.deeper, marksOver, frameCount, unitsOf, envsOf, guardsOf, pushEnvs, pushGuards, Code.envs, Code.env?, Code.isFrame, Code.guards, Code.isGuard, Code.weight, Code.frames, Code.isCreation, Code.isCaller, Code.cUnits])
def tGen (P : Addr) (wi : TI) (g : TG) (tt : TT) (act : (Hp → Prop) → GAct) (stop : Bool) (vs : List Nat) : TE := fun σ H Q => wi σ H fun J H1 => ∃ (T : Addr → Prop) (ps : Array Value), TabsOk T H1 ∧ T P ∧ H1 P = some (.tbl ps) ∧
  ∀ T' H2, Grown T H1 T' H2 → ∃ n, gLoop J g tt (act fun H' => Q (.bl stop) H') (fun _ _ H' => Q (.bl (!stop)) H') n (wipe σ vs) H2
section
variable {X : Cx}
/-- the state of a generator that is being drawn from -/
def GSt (P : Program) (w : World) (A : Around) (B : Cx) (p0 : Addr × Obj) (stop : Bool) (F F2 : Hp → Prop) (gi : Nat) (n : Nat) (s : Shared) : Prop :=
  s.heap.IsGen p0.1 gi ∧ s.heap.NoLimit ∧ ∃ gs, s.gens[gi]? = some gs ∧ gs.Goes (model P w) A (RB B p0 F2) (YB B p0 stop F) n (.send .none) (s.setGen gi .running)
/-- one draw -/
theorem draw {A : Around} {B : Cx} {p0 : Addr × Obj} {stop : Bool} {F F2 : Hp → Prop} {gi n : Nat} {s : Shared} {Q : Option Value → Shared → Prop} {E : Value → Shared → Prop} (hh : A.handled = none) (hroom : A.depth < recursionLimit) (hg : p0.2.cls = .type "generator") (hs : p0.2.slots = #[])
    (hd : ∃ nm qn, p0.2.data = .fields #[.int gi 0, nm, qn]) (h : GSt X.prog X.w A.in1 B p0 stop F F2 gi n s)
    (hY : ∀ (b : Bool) pins σ H s', p0 ∈ pins → Inv B pins σ H s' → (if b = stop then F H else ∃ m, n = m + 1 ∧ GSt X.prog X.w A.in1 B p0 stop F F2 gi m s') → Q (some (.bool b)) s')
    (hR : ∀ pins σ H s', p0 ∈ pins → Inv B pins σ H s' → F2 H → Q none s') : wpAny (model X.prog X.w) A (pyNext (.ref p0.1)) Q E s := by
  obtain ⟨hG, hl, gs, hgs, hgo⟩ := h
  have hsz : gi + 1 ≤ s.gens.size := by
    obtain ⟨hlt, _⟩ := Array.getElem?_eq_some_iff.mp hgs
    exact hlt
  refine GenW.wpAny_gsz (n := gi + 1) hsz ?_
  refine wpAny_pyNext_genexpQ (P := fun n s₀ s => ∃ (pins : List (Addr × Obj)) (σ : L2.St) (H : Hp), p0 ∈ pins ∧ Inv B pins σ H s ∧ F2 H) hh hl hroom hG hgs hgo (fun v s₁ gs' hb hv => ?_) (fun s₁ hp h' hk => ?_)
  · intro hsz'
    obtain ⟨b, pins, σ, H, rfl, hp, I, hb'⟩ := hv
    have hsz1 : gi < s₁.gens.size := by
      have : gi + 1 ≤ (s₁.setGen gi gs').gens.size := hsz'
      rw [GenW.setGen_size] at this
      exact this
    have z := woke_set (g := gi) I.bare hb
    refine hY b pins σ H _ hp (z.inv I) ?_
    by_cases e : b = stop
    · rw [if_pos e] at hb' ⊢
      exact hb'
    · rw [if_neg e] at hb' ⊢
      have pin := (I.pin p0 (List.mem_append_right _ hp)).1
      cases n with
      | zero => exact (hb' s₁ ⟨rfl, rfl, I.bare⟩).elim
      | succ m =>
        obtain ⟨nm, qn, hd⟩ := hd
        refine ⟨m, rfl, ⟨p0.2, nm, qn, pin, hg, hd, hs⟩, I.nolimit, gs', setGen_self (gs := s₁.gens[gi]) (Array.getElem?_eq_getElem hsz1), ?_⟩
        exact hb' _ ⟨rfl, rfl, allBare_set (allBare_set I.bare hb) rfl⟩
  · intro _
    obtain ⟨pins, σ, H, hp, I, hf⟩ := hp
    have I2 := (woke_set (g := gi) (x := .finished) I.bare rfl).inv I
    exact hR pins σ H _ hp (I2.kept (t' := s₁.toks) hk) hf
end
end G4

/-! G24: any, all of a generator expression: the call. -/
namespace G4
open PySem PySem.Spec PyProof.Rows L2
section
variable {X : Cx}
theorem any_loopG {B : Cx} {p0 : Addr × Obj} {F F2 : Hp → Prop} {gi : Nat} {Rf : Result → Shared → Prop} (hh : X.A.handled = none) (hroom : X.A.depth < recursionLimit) (hg : p0.2.cls = .type "generator") (hs : p0.2.slots = #[])
    (hd : ∃ nm qn, p0.2.data = .fields #[.int gi 0, nm, qn])
    (h1 : ∀ pins σ H s', p0 ∈ pins → Inv B pins σ H s' → F H → Rf (.ok (.ret (.bool true))) s') (h2 : ∀ pins σ H s', p0 ∈ pins → Inv B pins σ H s' → F2 H → Rf (.ok (.ret (.bool false))) s') :
    ∀ (n : Nat) (s : Shared), GSt X.prog X.w X.A.in1.in1 B p0 true F F2 gi n s → codeAny (model X.prog X.w) X.A (.builtin "any.loop" ⟨[.ref p0.1], []⟩) Rf s := by
  intro n
  induction n using Nat.strongRecOn with
  | ind n ih =>
    intro s st
    refine codeAny_builtin PySem.F.entry_any_loop ?_
    rw [Around.under_plainId PySem.F.plain_any_loop _]
    show wpAny _ X.A.in1 (pyNext (.ref p0.1) >>= _) _ _ s
    refine wpAny_bind (draw (X := X) (A := X.A.in1) hh hroom hg hs hd st (fun b pins σ H s' hp I hb => ?_) fun pins σ H s' hp I hf => ?_)
    · refine wpAny_bind (wpAny_holding (wpAny_truthy_bool ?_))
      refine wpAny_bind (wpAny_letGo ?_)
      cases b with
      | true =>
        simp only [if_true] at hb ⊢
        exact wpAny_bind (wpAny_rule (wpAny_pure (h1 pins σ H s' hp I hb)))
      | false =>
        simp only [Bool.false_eq_true, if_false] at hb ⊢
        obtain ⟨m, rfl, hb⟩ := hb
        exact wpAny_pure ⟨plainId_quiet PySem.F.plain_any_loop _, ih m (Nat.lt_succ_self m) s' hb⟩
    · exact wpAny_bind (wpAny_rule (wpAny_pure (h2 pins σ H s' hp I hf)))
theorem all_loopG {B : Cx} {p0 : Addr × Obj} {F F2 : Hp → Prop} {gi : Nat} {Rf : Result → Shared → Prop} (hh : X.A.handled = none) (hroom : X.A.depth < recursionLimit) (hg : p0.2.cls = .type "generator") (hs : p0.2.slots = #[])
    (hd : ∃ nm qn, p0.2.data = .fields #[.int gi 0, nm, qn])
    (h1 : ∀ pins σ H s', p0 ∈ pins → Inv B pins σ H s' → F H → Rf (.ok (.ret (.bool false))) s') (h2 : ∀ pins σ H s', p0 ∈ pins → Inv B pins σ H s' → F2 H → Rf (.ok (.ret (.bool true))) s') :
    ∀ (n : Nat) (s : Shared), GSt X.prog X.w X.A.in1.in1 B p0 false F F2 gi n s → codeAny (model X.prog X.w) X.A (.builtin "all.loop" ⟨[.ref p0.1], []⟩) Rf s := by
  intro n
  induction n using Nat.strongRecOn with
  | ind n ih =>
    intro s st
    refine codeAny_builtin PySem.F.entry_all_loop ?_
    rw [Around.under_plainId PySem.F.plain_all_loop _]
    show wpAny _ X.A.in1 (pyNext (.ref p0.1) >>= _) _ _ s
    refine wpAny_bind (draw (X := X) (A := X.A.in1) hh hroom hg hs hd st (fun b pins σ H s' hp I hb => ?_) fun pins σ H s' hp I hf => ?_)
    · refine wpAny_bind (wpAny_holding (wpAny_truthy_bool ?_))
      refine wpAny_bind (wpAny_letGo ?_)
      cases b with
      | false =>
        simp only [Bool.false_eq_true, if_true, if_false] at hb ⊢
        exact wpAny_bind (wpAny_rule (wpAny_pure (h1 pins σ H s' hp I hb)))
      | true =>
        simp only [Bool.true_eq_false, if_true, if_false] at hb ⊢
        obtain ⟨m, rfl, hb⟩ := hb
        exact wpAny_pure ⟨plainId_quiet PySem.F.plain_all_loop _, ih m (Nat.lt_succ_self m) s' hb⟩
    · exact wpAny_bind (wpAny_rule (wpAny_pure (h2 pins σ H s' hp I hf)))
/-- the generator is made, stands ready; then what the consumer does -/
theorem gen_made {elt tg iter : Expr} {ifs : List Expr} {rest : List Comprehension} {sc : Scope} {own : List (Str × Nat)} {gpos : Pos} {wi : TI} {g : TG} {tt : TT} {act : (Hp → Prop) → GAct} {em : PySem.Env → Sem PySem.Fin → Sem PySem.Fin} {stop : Bool} {k : Nat} {c P : Addr}
    {pins : List (Addr × Obj)} {s : Shared} {σ : L2.St} {H : Hp} {Q : VK} {Q' : Value → Shared → Prop}
    (ct : ∀ it env, compTurn (ge elt (cl0 tg iter ifs :: rest) sc gpos) 0 it .none env = cturn (ge elt (cl0 tg iter ifs :: rest) sc gpos) 0 iter.pos tg ifs (em env) it .none env)
    (hr : Room (k + 1) X.A) (hc : X.calm = true) (hN : X.N.Nodup) (TB : GxR.TabB X.base X.mg c P) (hcode : X.env.code = .ref c) (hco : sc.isCoroutine = false) (h0 : sc.names.lookup (".0" : Str) = some NameKind.local)
    (hi : PI X tg iter wi) (ok : BlkOk X.N X.env.scope sc own) (hg : Gens k X sc fun X' => PG X' tg g) (ht : Gens k X sc fun X' => PTs X' ifs tt)
    (ha : ∀ F p0 R, Gens k X sc fun X' => EmSeg X' p0 (X.A.in1.in1) R (YB X' p0 stop F) (em X'.env) (act F)) (hs : ∀ x, genFold iter X.env x = pure x)
    (I : Inv X pins σ H s) (h : tGen P wi g tt act stop (own.map (·.2)) σ H Q)
    (hQ : ∀ (B : Cx) (p0 : Addr × Obj) (gi n : Nat) (s5 : Shared), p0.2.cls = .type "generator" → p0.2.slots = #[] → (∃ nm qn, p0.2.data = .fields #[.int gi 0, nm, qn]) → s5.heap.IsGen p0.1 gi →
      GSt X.prog X.w X.A.in1.in1 B p0 stop (fun H' => Q (.bl stop) H') (fun H' => Q (.bl (!stop)) H') gi n s5 → (∀ pins' σ' H' s', Inv B pins' σ' H' s' → Inv X pins σ H' s') → Q' (.ref p0.1) s5) :
    wpAny (model X.prog X.w) X.A (eval (ge elt (cl0 tg iter ifs :: rest) sc gpos) X.env) Q' X.xe s := by
  have hfree : ∀ y ∈ sc.names, y.2 = .free → ∃ c, X.env.cells.lookup y.1 = some c := by
    intro y hy e
    have := ok.free y hy e
    exact I.ok.has _ this
  rw [evalG _ _ _ _ _ _ _ _ hco]
  refine wpAny_bind (thn (hi.run pins s σ H _ I h) fun xv s1 hx => ?_)
  refine wpAny_bind (wpAny_standAt (wpAny_bind (wpAny_of_eq (hs xv) ?_)))
  refine wpAny_bind (wpAny_holding (thn hx fun itv s2 h2 => ?_))
  obtain ⟨it, fp, tn, J, H2, rfl, I2, T, st2, f2, TT, ps, hT, hTP, hPs, q⟩ := h2
  refine wpAny_bind (wpAny_enterFrame I2.nolimit hr.depth ?_)
  refine wpAny_bind (wpAny_of_eq (closure_ok hfree) ?_)
  have CH : PySem.W.CodeHd s2.heap c P := TB.code.keeps I2.bk
  refine wpAny_bind (gen_code hcode CH I2 hT hTP hPs fun cv h3 tk3 H3 T3 I3 gr kp3 ko3 _ => ?_)
  obtain ⟨bm, ob, e1, e2, e3, e4, e5, e6, e7, e8⟩ := TB.bm
  refine wpAny_bind (wpAny_builtinsFor (m := X.mg) ?_ e1 e2 (I3.bk _ _ e5) e6 e7 e8 ?_)
  · rw [I3.ok.glob]
    exact I3.mod.glob.keeps I3.bk
  obtain ⟨n, hloop⟩ := q T3 H3 gr
  have nP : ∀ b ∈ fp, b ≠ P := fun b hb z => by
    have := (f2 b hb).1
    rw [z, hPs] at this
    cases this
  have f3 : ∀ b ∈ fp, FpOk X pins H3 b ∧ b < h3.objs.size := by
    intro b hb
    obtain ⟨o, e, _⟩ := T.obj _ _ st2 b hb
    refine ⟨⟨?_, (f2 b hb).2⟩, Heap.lt_size (kp3 b o (nP b hb) e)⟩
    rw [ko3 b o (nP b hb) e]
    exact (f2 b hb).1
  have st3 : tn 0 h3 := T.keep _ _ _ st2 fun b hb o e => kp3 b o (nP b hb) e
  generalize hs4 : ({ s2 with heap := h3, toks := tk3 } : Shared) = s4 at I3 ⊢
  have hh4 : s4.heap = h3 := by rw [← hs4]
  rw [← hh4] at f3 st3
  refine wpAny_bind (newEnv_gen ok.kind h0 fun h' tk hn' hk' => ?_)
  rw [show newEnv sc s4.heap.objs.size X.env.globals (cellsFrom (s4.heap.objs.size + 1) sc.names (cloFrom X.env.cells sc.names [])) (X.env.qual ++ "<genexpr>.") none cv none builtinsNs = genEnv sc (cellsFrom (s4.heap.objs.size + 1) sc.names (cloFrom X.env.cells sc.names [])) s4.heap.objs.size cv builtinsNs X.env from rfl]
  simp only [newGenerator, newFields]
  refine wpAny_bind (wpAny_newGen (wpAny_bind (wpAny_mkText (wpAny_bind (wpAny_mkText (wpAny_newObj_type ?_ (by size_fits)))))))
  have kp' : ∀ b o, s4.heap.get? b = some o → h'.get? b = some o := fun b o e => hk' b o (Nat.ne_of_lt (Heap.lt_size e)) (pushCells_keeps _ _ _ _ (Heap.get?_push_of_some _ e))
  have room := room_gen hr (genEnv sc (cellsFrom (s4.heap.objs.size + 1) sc.names (cloFrom X.env.cells sc.names [])) s4.heap.objs.size cv builtinsNs X.env)
  have pg := hg s4 H3 s4.heap.objs.size (cellsFrom (s4.heap.objs.size + 1) sc.names (cloFrom X.env.cells sc.names [])) cv fp room
  have pt := ht s4 H3 s4.heap.objs.size (cellsFrom (s4.heap.objs.size + 1) sc.names (cloFrom X.env.cells sc.names [])) cv fp room
  have pa := fun F p0 R => ha F p0 R s4 H3 s4.heap.objs.size (cellsFrom (s4.heap.objs.size + 1) sc.names (cloFrom X.env.cells sc.names [])) cv fp room
  generalize hce : genEnv sc (cellsFrom (s4.heap.objs.size + 1) sc.names (cloFrom X.env.cells sc.names [])) s4.heap.objs.size cv builtinsNs X.env = cenv at room pg pt pa ⊢
  have main : ∀ (go : Obj) (tk' : Nat), go.cls = .type "generator" → go.slots = #[] → (∃ nm qn, go.data = .fields #[.int s4.gens.size 0, nm, qn]) → (∀ h : Heap, (h.push go).get? h.objs.size = some go) →
      Q' (.ref h'.objs.size) { s4 with heap := h'.push go, gens := s4.gens.push (.fresh (.compStart (ge elt (cl0 tg iter ifs :: rest) sc gpos) 0 (.ref it) .none cenv)), toks := tk' } := by
    intro go tk' hgc hgs hgd hgp
    have pushed : (h'.push go).get? h'.objs.size = some go := hgp h'
    have kpp : ∀ b o, h'.get? b = some o → (h'.push go).get? b = some o := fun b o e => Heap.get?_push_of_some _ e
    have I5 : Inv (Cx.gen X s4 H3 sc cenv fp) [] (wipe σ (own.map (·.2))) H3 { s4 with heap := h'.push go, toks := tk', gens := s4.gens.push (.fresh (.compStart (ge elt (cl0 tg iter ifs :: rest) sc gpos) 0 (.ref it) .none cenv)) } := by
      rw [← hce]
      exact gen_start I3 ok hN f3 (hn'.keeps kpp) (fun b o hb e => kpp b o (hk' b o hb e)) (AllBare.push I3.bare rfl)
    have cL : cenv.locals = s4.heap.objs.size := by rw [← hce]; rfl
    have s4lt : s4.heap.objs.size < h'.objs.size := hn'.lt
    have I6 : Inv (Cx.gen X s4 H3 sc cenv fp) [(h'.objs.size, go)] (wipe σ (own.map (·.2))) H3 { s4 with heap := h'.push go, toks := tk', gens := s4.gens.push (.fresh (.compStart (ge elt (cl0 tg iter ifs :: rest) sc gpos) 0 (.ref it) .none cenv)) } := by
      refine I5.pins_of fun p hp => ?_
      obtain rfl : p = (h'.objs.size, go) := by simpa using hp
      refine ⟨pushed, I3.hok.fresh (Nat.le_of_lt s4lt), ?_, fun z => ?_, fun v z => ?_⟩
      · show h'.objs.size ≠ cenv.locals
        rw [cL]; exact Nat.ne_of_gt s4lt
      · have z : h'.objs.size ∈ frs X.stack := z
        rcases List.mem_cons.mp (I3.stkSub _ z) with z | z
        · exact Nat.lt_irrefl _ (Nat.lt_trans (z ▸ I3.lt) s4lt)
        · exact I3.nofs (Nat.le_of_lt s4lt) z
      · obtain ⟨nm, qn, hgd⟩ := hgd
        have z : go.data = .cell v := z
        rw [hgd] at z; cases z
    have isg : ∀ h : Heap, h.get? h'.objs.size = some go → h.IsGen h'.objs.size s4.gens.size := fun h e => by
      obtain ⟨nm, qn, hgd⟩ := hgd
      exact ⟨go, nm, qn, e, hgc, hgd, hgs⟩
    have hf5 : ∀ b ∈ fp, FpOk (Cx.gen X s4 H3 sc cenv fp) [(h'.objs.size, go)] H3 b := by
      intro b hb
      refine ⟨(f3 b hb).1.1, (I6.ok.exf b hb).1, I6.ok.exfs b hb, .inl hb, fun x c e => (I6.ok.exf b hb).2 x c e, fun p hp => ?_⟩
      obtain rfl : p = (h'.objs.size, go) := by
        have hp : p ∈ ([] : List (Addr × Obj)) ++ [(h'.objs.size, go)] := hp
        simpa using hp
      exact Nat.ne_of_gt (Nat.lt_trans (f3 b hb).2 s4lt)
    have st5 : tn 0 (h'.push go) := T.keep _ _ _ st3 fun b _ o e => kpp b o (kp' b o e)
    refine hQ (Cx.gen X s4 H3 sc cenv fp) (h'.objs.size, go) s4.gens.size n _ hgc hgs hgd (isg _ pushed) ⟨isg _ pushed, I6.nolimit, _, Array.getElem?_push_size .., rfl, ?_⟩ fun pins' σ' H' s' J => ?_
    · have wk : Woke { s4 with heap := h'.push go, toks := tk', gens := s4.gens.push (.fresh (.compStart (ge elt (cl0 tg iter ifs :: rest) sc gpos) 0 (.ref it) .none cenv)) }
          (({ s4 with heap := h'.push go, toks := tk', gens := s4.gens.push (.fresh (.compStart (ge elt (cl0 tg iter ifs :: rest) sc gpos) 0 (.ref it) .none cenv)) } : Shared).setGen s4.gens.size .running) := woke_set I6.bare rfl
      have I7 := wk.inv I6
      refine seg_cstart (hx := leaving cenv) (g := cl0 tg iter ifs) rfl rfl rfl rfl (fun A' Q' E' hq => T.self A' 0 _ _ _ st5 hq) ?_
      refine g_loop (B := Cx.gen X s4 H3 sc cenv fp) (p0 := (h'.objs.size, go)) (hh := leaving cenv) (by rw [← ct]; rfl) rfl over_gen rfl rfl (List.mem_singleton.mpr rfl) hc rfl T pg pt (pa _ _ _) hf5 I7 st5 hloop fun n s₀ s σ' H' I' nx => ?_
      exact seg_end (.ok .next) ⟨rfl, _, σ', H', List.mem_singleton.mpr rfl, I', nx⟩
    · refine I3.call' (ch := fp) J.os J.base J.hok J.bare fun b hb => ?_
      have f := (f3 b hb).1
      exact ⟨f.2.2.2.1, f.2.1, f.2.2.2.2.1, f.2.2.2.2.2⟩
  exact main _ _ rfl rfl ⟨_, _, rfl⟩ fun h => Heap.get?_push_size _ rfl
end
end G4

/-! G25: any(..), all(..) as expressions. -/
namespace G4
open PySem PySem.Spec PyProof.Rows L2
section
variable {X : Cx}
theorem kindG_any : builtinKind "any" = none := PySem.F.kind_any
theorem call_anyG {p0 : Addr × Obj} {B : Cx} {F F2 : Hp → Prop} {gi n : Nat} {s : Shared} {Q' : Value → Shared → Prop} {E : Value → Shared → Prop} (hh : X.A.handled = none) (hroom : X.A.depth < recursionLimit) (hg : p0.2.cls = .type "generator") (hs : p0.2.slots = #[])
    (hd : ∃ nm qn, p0.2.data = .fields #[.int gi 0, nm, qn]) (hG : s.heap.IsGen p0.1 gi) (st : GSt X.prog X.w X.A.in1.in1 B p0 true F F2 gi n s)
    (h1 : ∀ pins σ H s', p0 ∈ pins → Inv B pins σ H s' → F H → Q' (.bool true) s') (h2 : ∀ pins σ H s', p0 ∈ pins → Inv B pins σ H s' → F2 H → Q' (.bool false) s') :
    wpAny (model X.prog X.w) X.A (call (.builtin "any") [.ref p0.1]) Q' E s := by
  refine call_function_tree PySem.F.kind_any PySem.F.plain_any PySem.F.entry_any (PySem.F.args_any1 _) ?_
  unfold Builtin.«any»
  refine wpAny_bind (m := oneArg "any" _) (wpAny_pure ?_)
  refine wpAny_bind (wpAny_pyIter_gen hG ?_)
  exact wpAny_pure ⟨plainId_quiet PySem.F.plain_any_loop _, any_loopG hh hroom hg hs hd (fun pins σ H s' hp I f => h1 pins σ H s' hp I f) (fun pins σ H s' hp I f => h2 pins σ H s' hp I f) n s st⟩
theorem call_allG {p0 : Addr × Obj} {B : Cx} {F F2 : Hp → Prop} {gi n : Nat} {s : Shared} {Q' : Value → Shared → Prop} {E : Value → Shared → Prop} (hh : X.A.handled = none) (hroom : X.A.depth < recursionLimit) (hg : p0.2.cls = .type "generator") (hs : p0.2.slots = #[])
    (hd : ∃ nm qn, p0.2.data = .fields #[.int gi 0, nm, qn]) (hG : s.heap.IsGen p0.1 gi) (st : GSt X.prog X.w X.A.in1.in1 B p0 false F F2 gi n s)
    (h1 : ∀ pins σ H s', p0 ∈ pins → Inv B pins σ H s' → F H → Q' (.bool false) s') (h2 : ∀ pins σ H s', p0 ∈ pins → Inv B pins σ H s' → F2 H → Q' (.bool true) s') :
    wpAny (model X.prog X.w) X.A (call (.builtin "all") [.ref p0.1]) Q' E s := by
  refine call_function_tree PySem.F.kind_all PySem.F.plain_all PySem.F.entry_all (PySem.F.args_all1 _) ?_
  unfold Builtin.«all»
  refine wpAny_bind (m := oneArg "all" _) (wpAny_pure ?_)
  refine wpAny_bind (wpAny_pyIter_gen hG ?_)
  exact wpAny_pure ⟨plainId_quiet PySem.F.plain_all_loop _, all_loopG hh hroom hg hs hd (fun pins σ H s' hp I f => h1 pins σ H s' hp I f) (fun pins σ H s' hp I f => h2 pins σ H s' hp I f) n s st⟩
theorem pe_anyG {elt tg iter : Expr} {ifs : List Expr} {rest : List Comprehension} {sc : Scope} {own : List (Str × Nat)} {gpos p pos : Pos} {wi : TI} {g : TG} {tt : TT} {act : (Hp → Prop) → GAct} {em : PySem.Env → Sem PySem.Fin → Sem PySem.Fin} {k : Nat} {c P : Addr}
    (hgl : Gl X "any") (hm : X.mg "any" = none)
    (ct : ∀ it env, compTurn (ge elt (cl0 tg iter ifs :: rest) sc gpos) 0 it .none env = cturn (ge elt (cl0 tg iter ifs :: rest) sc gpos) 0 iter.pos tg ifs (em env) it .none env)
    (hr : Room (k + 1) X.A) (hc : X.calm = true) (hN : X.N.Nodup) (TB : GxR.TabB X.base X.mg c P) (hcode : X.env.code = .ref c) (hco : sc.isCoroutine = false) (h0 : sc.names.lookup (".0" : Str) = some NameKind.local)
    (hi : PI X tg iter wi) (ok : BlkOk X.N X.env.scope sc own) (hg : Gens k X sc fun X' => PG X' tg g) (ht : Gens k X sc fun X' => PTs X' ifs tt)
    (ha : ∀ F p0 R, Gens k X sc fun X' => EmSeg X' p0 (X.A.in1.in1) R (YB X' p0 true F) (em X'.env) (act F)) (hs : ∀ x, genFold iter X.env x = pure x)
    (he : starEach [ge elt (cl0 tg iter ifs :: rest) sc gpos] X.env = (false, eval (ge elt (cl0 tg iter ifs :: rest) sc gpos) X.env) :: starEach [] X.env := by rfl) :
    PE X (.Call (.Name "any" p) [ge elt (cl0 tg iter ifs :: rest) sc gpos] [] pos) (tGen P wi g tt act true (own.map (·.2))) := by
  refine ⟨fun pins s σ H Q I h => ?_⟩
  refine wpAny_Call_Name_kw (ld_blt I hgl hm boot_any ?_)
  refine PyProof.Rows.callWith_builtin1 ?_ he (by rfl)
  rw [he]
  show wpAny _ _ (spliced ((false, eval (ge elt (cl0 tg iter ifs :: rest) sc gpos) X.env) :: backTo pos (starEach [] X.env))) _ _ s
  refine Calls.spliced_cons (gen_made ct hr hc hN TB hcode hco h0 hi ok hg ht ha hs I h fun B p0 gi n s5 a1 a2 a3 a4 a5 back => ?_)
  refine Calls.spliced_nil ?_
  exact call_anyG hr.hd hr.depth a1 a2 a3 a4 a5 (fun pins' σ' H' s' hp J f => ⟨.bl true, H', back _ _ _ _ J, rfl, f⟩) fun pins' σ' H' s' hp J f => ⟨.bl false, H', back _ _ _ _ J, rfl, f⟩
theorem pe_allG {elt tg iter : Expr} {ifs : List Expr} {rest : List Comprehension} {sc : Scope} {own : List (Str × Nat)} {gpos p pos : Pos} {wi : TI} {g : TG} {tt : TT} {act : (Hp → Prop) → GAct} {em : PySem.Env → Sem PySem.Fin → Sem PySem.Fin} {k : Nat} {c P : Addr}
    (hgl : Gl X "all") (hm : X.mg "all" = none)
    (ct : ∀ it env, compTurn (ge elt (cl0 tg iter ifs :: rest) sc gpos) 0 it .none env = cturn (ge elt (cl0 tg iter ifs :: rest) sc gpos) 0 iter.pos tg ifs (em env) it .none env)
    (hr : Room (k + 1) X.A) (hc : X.calm = true) (hN : X.N.Nodup) (TB : GxR.TabB X.base X.mg c P) (hcode : X.env.code = .ref c) (hco : sc.isCoroutine = false) (h0 : sc.names.lookup (".0" : Str) = some NameKind.local)
    (hi : PI X tg iter wi) (ok : BlkOk X.N X.env.scope sc own) (hg : Gens k X sc fun X' => PG X' tg g) (ht : Gens k X sc fun X' => PTs X' ifs tt)
    (ha : ∀ F p0 R, Gens k X sc fun X' => EmSeg X' p0 (X.A.in1.in1) R (YB X' p0 false F) (em X'.env) (act F)) (hs : ∀ x, genFold iter X.env x = pure x)
    (hb : bootBuiltins "all" = some (.builtin "all") := by decide +kernel)
    (he : starEach [ge elt (cl0 tg iter ifs :: rest) sc gpos] X.env = (false, eval (ge elt (cl0 tg iter ifs :: rest) sc gpos) X.env) :: starEach [] X.env := by rfl) :
    PE X (.Call (.Name "all" p) [ge elt (cl0 tg iter ifs :: rest) sc gpos] [] pos) (tGen P wi g tt act false (own.map (·.2))) := by
  refine ⟨fun pins s σ H Q I h => ?_⟩
  refine wpAny_Call_Name_kw (ld_blt I hgl hm hb ?_)
  refine PyProof.Rows.callWith_builtin1 ?_ he (by rfl)
  rw [he]
  show wpAny _ _ (spliced ((false, eval (ge elt (cl0 tg iter ifs :: rest) sc gpos) X.env) :: backTo pos (starEach [] X.env))) _ _ s
  refine Calls.spliced_cons (gen_made ct hr hc hN TB hcode hco h0 hi ok hg ht ha hs I h fun B p0 gi n s5 a1 a2 a3 a4 a5 back => ?_)
  refine Calls.spliced_nil ?_
  exact call_allG hr.hd hr.depth a1 a2 a3 a4 a5 (fun pins' σ' H' s' hp J f => ⟨.bl false, H', back _ _ _ _ J, rfl, f⟩) fun pins' σ' H' s' hp J f => ⟨.bl true, H', back _ _ _ _ J, rfl, f⟩
/-! the acts -/
theorem ga_1 {elt : Expr} {te : TE} {sc : Scope} {stop : Bool} {k : Nat} (hco : sc.isCoroutine = false) (he : Gens k X sc fun X' => PE X' elt te) :
    ∀ F p0 R, Gens k X sc fun X' => EmSeg X' p0 (X.A.in1.in1) R (YB X' p0 stop F) (emY elt X'.env) (gYield te (ylB stop F)) :=
  fun F p0 R s H C cl code fp room => em_Y rfl hco (he s H C cl code fp room)
theorem ga_2 {elt t1 i1 t2 i2 : Expr} {f1 f2 : List Expr} {gpos : Pos} {te : TE} {wi2 : TI} {g2 : TG} {tt2 : TT} {sc : Scope} {stop : Bool} {k : Nat} (hco : sc.isCoroutine = false) (hc : X.calm = true) (hi2 : Gens k X sc fun X' => PI X' t2 i2 wi2) (hg2 : Gens k X sc fun X' => PG X' t2 g2)
    (ht2 : Gens k X sc fun X' => PTs X' f2 tt2) (he : Gens k X sc fun X' => PE X' elt te) (hs2 : Gens k X sc fun X' => ∀ x, foldedSetIterable i2 X'.env x = pure x) :
    ∀ F p0 R, Gens k X sc fun X' => EmSeg X' p0 (X.A.in1.in1) R (YB X' p0 stop F) (emG (ge elt [cl0 t1 i1 f1, cl0 t2 i2 f2] sc gpos) i2 1 .none X'.env) (gFor wi2 g2 tt2 (gYield te (ylB stop F))) :=
  fun F p0 R s H C cl code fp room => em_For (d := 0) rfl (fun it => gt2b ..) hc rfl (hi2 s H C cl code fp room) (hg2 s H C cl code fp room) (ht2 s H C cl code fp room) (em_Y rfl hco (he s H C cl code fp room)) (hs2 s H C cl code fp room)
theorem ga_3 {elt t1 i1 t2 i2 t3 i3 : Expr} {f1 f2 f3 : List Expr} {gpos : Pos} {te : TE} {wi2 wi3 : TI} {g2 g3 : TG} {tt2 tt3 : TT} {sc : Scope} {stop : Bool} {k : Nat} (hco : sc.isCoroutine = false) (hc : X.calm = true) (hi2 : Gens k X sc fun X' => PI X' t2 i2 wi2) (hg2 : Gens k X sc fun X' => PG X' t2 g2)
    (ht2 : Gens k X sc fun X' => PTs X' f2 tt2) (hi3 : Gens k X sc fun X' => PI X' t3 i3 wi3) (hg3 : Gens k X sc fun X' => PG X' t3 g3) (ht3 : Gens k X sc fun X' => PTs X' f3 tt3) (he : Gens k X sc fun X' => PE X' elt te)
    (hs2 : Gens k X sc fun X' => ∀ x, foldedSetIterable i2 X'.env x = pure x) (hs3 : Gens k X sc fun X' => ∀ x, foldedSetIterable i3 X'.env x = pure x) :
    ∀ F p0 R, Gens k X sc fun X' => EmSeg X' p0 (X.A.in1.in1) R (YB X' p0 stop F) (emG (ge elt [cl0 t1 i1 f1, cl0 t2 i2 f2, cl0 t3 i3 f3] sc gpos) i2 1 .none X'.env) (gFor wi2 g2 tt2 (gFor wi3 g3 tt3 (gYield te (ylB stop F)))) :=
  fun F p0 R s H C cl code fp room => em_For (d := 0) rfl (fun it => gt3b ..) hc rfl (hi2 s H C cl code fp room) (hg2 s H C cl code fp room) (ht2 s H C cl code fp room)
    (em_For (d := 1) rfl (fun it => gt3c ..) hc rfl (hi3 s H C cl code fp room) (hg3 s H C cl code fp room) (ht3 s H C cl code fp room) (em_Y rfl hco (he s H C cl code fp room)) (hs3 s H C cl code fp room)) (hs2 s H C cl code fp room)
end
end G4

/-! G26: any, all on data. -/
namespace G4
open PySem PySem.Spec PyProof.Rows L2
def gStep (tg : Tv) (tt body : Ev Bool) (ρ : Env) (d : D) (μ : Mu) (rest : Mu → Ro Bool) : Ro Bool := match tg d ρ μ with
  | some (.ok ρ1 μ1) => match tt ρ1 μ1 with
    | some (.ok true μ2) => match body ρ1 μ2 with
      | some (.ok true μ3) => some (.ok true μ3)
      | some (.ok false μ3) => rest μ3
      | _ => none
    | some (.ok false μ2) => rest μ2
    | _ => none
  | _ => none
def gLpN (src : Src) (tg : Tv) (tt body : Ev Bool) (ρ : Env) : Nat → Nat → Mu → Ro Bool
  | 0, i => fun μ => match src.cur μ with
    | some ds => if ds.length ≤ i then some (.ok false μ) else none
    | none => none
  | n + 1, i => fun μ => match src.cur μ with
    | some ds => match ds[i]? with
      | some d => gStep tg tt body ρ d μ (gLpN src tg tt body ρ n (i + 1))
      | none => some (.ok false μ)
    | none => none
def gLpL (tg : Tv) (tt body : Ev Bool) (ρ : Env) : List D → Mu → Ro Bool
  | [] => fun μ => some (.ok false μ)
  | d :: ds => fun μ => gStep tg tt body ρ d μ (gLpL tg tt body ρ ds)
theorem gLpL_eq (tg : Tv) (tt body : Ev Bool) (ρ : Env) (ds : List D) : ∀ (n i : Nat), n + i = ds.length → gLpN (.its ds) tg tt body ρ n i = gLpL tg tt body ρ (ds.drop i)
  | 0, i, h => by
    have : ds.drop i = [] := List.drop_eq_nil_of_le (by omega)
    rw [this]
    funext μ
    simp only [gLpN, Src.cur, gLpL]
    rw [if_pos (by omega)]
  | n + 1, i, h => by
    have hi : i < ds.length := by omega
    have e : ds.drop i = ds[i] :: ds.drop (i + 1) := List.drop_eq_getElem_cons hi
    rw [e]
    funext μ
    simp only [gLpN, Src.cur, gLpL, List.getElem?_eq_getElem hi]
    rw [gLpL_eq tg tt body ρ ds n (i + 1) (by omega)]
def gRun (tg : Tv) (tt body : Ev Bool) (ρ : Env) (src : Src) (μ : Mu) : Ro Bool := match src with
  | .its ds => gLpL tg tt body ρ ds μ
  | .cel k => match viewL μ (.cell k) with
    | some ds => gLpN (.cel k) tg tt body ρ ds.length 0 μ
    | none => none
theorem gRun_n {tg : Tv} {tt body : Ev Bool} {ρ : Env} {src : Src} {μ : Mu} {r : Rs Bool} (e : gRun tg tt body ρ src μ = some r) : ∃ n, gLpN src tg tt body ρ n 0 μ = some r := by
  cases src with
  | its ds => exact ⟨ds.length, by rw [gLpL_eq tg tt body ρ ds ds.length 0 rfl]; exact e⟩
  | cel k =>
    simp only [gRun] at e
    split at e <;> try cases e
    exact ⟨_, e⟩
def bFor (fi : Ev Src) (tg : Tv) (tt body : Ev Bool) (vs : List Nat) : Ev Bool := fun ρ μ => (fi ρ μ).bnd (gRun tg tt body (wipeE ρ vs))
def bY1 (stop : Bool) (d : D) (μ : Mu) : Ro Bool := match d with
  | .bl b => some (.ok (b == stop) μ)
  | _ => none
def bY (stop : Bool) (te : Ev D) : Ev Bool := fun ρ μ => (te ρ μ).bnd (bY1 stop)
def gEnd (stop : Bool) (r : Ro Bool) : Ro D := match r with
  | some (.ok b μ) => some (.ok (.bl (if b = true then stop else !stop)) μ)
  | _ => none
def eGen (fi : Ev Src) (tg : Tv) (tt body : Ev Bool) (vs : List Nat) (stop : Bool) : Ev D := fun ρ μ => (fi ρ μ).bnd fun src μ1 => gEnd stop (gRun tg tt body (wipeE ρ vs) src μ1)
/-- how many items are handed out at most -/
def gCntN (src : Src) (tg : Tv) (tt body : Ev Bool) (cnt : Env → Mu → Nat) (ρ : Env) : Nat → Nat → Mu → Nat
  | 0, _ => fun _ => 0
  | n + 1, i => fun μ => match src.cur μ with
    | some ds => match ds[i]? with
      | some d => match tg d ρ μ with
        | some (.ok ρ1 μ1) => match tt ρ1 μ1 with
          | some (.ok true μ2) => cnt ρ1 μ2 + (match body ρ1 μ2 with
            | some (.ok false μ3) => gCntN src tg tt body cnt ρ n (i + 1) μ3
            | _ => 0)
          | some (.ok false μ2) => gCntN src tg tt body cnt ρ n (i + 1) μ2
          | _ => 0
        | _ => 0
      | none => 0
    | none => 0
section
variable {G : Gx} {n0 : Nat} {W : WX}
theorem Vr.own {K : PySem.W.Frag} {w : Hw} {ρ : Env} {σ0 σ : L2.St} {vs : List Nat} (h : Vr K w ρ σ0) (e : L2.wipe σ vs = L2.wipe σ0 vs) : Vr K w (wipeE ρ vs) σ := by
  have hl : σ.length = σ0.length := by have := congrArg List.length e; rwa [wipe_length, wipe_length] at this
  refine ⟨by rw [wipeE_length, hl]; exact h.len, fun i d q => ?_⟩
  obtain ⟨q1, q2⟩ := wipeE_some q
  obtain ⟨v, hv, fr⟩ := h.at_ i d q1
  refine ⟨v, ?_, fr⟩
  rw [← wipe_out (σ := σ) q2, e, wipe_out q2]
  exact hv
/-- the act does what the body tells -/
def DGA (G : Gx) (n0 : Nat) (act : (Hp → Prop) → GAct) (body : Ev Bool) (cnt : Env → Mu → Nat) (vs : List Nat) : Prop := ∀ w ρ μ σ, Mc G w μ → Vr G.K w ρ σ → n0 ≤ μ.length → ∀ b μ', body ρ μ = some (.ok b μ') → ∀ n, cnt ρ μ ≤ n → ∀ (F : Hp → Prop) (N : Nat → L2.St → Hp → Prop),
  (b = true → ∀ w', Post G n0 w μ w' μ' → F w'.H) → (b = false → ∀ w' σ' n', Post G n0 w μ w' μ' → n - cnt ρ μ ≤ n' → wipe σ' vs = wipe σ vs → N n' σ' w'.H) → act F n σ w.H N
theorem dga_Y {te : TE} {fe : Ev D} {stop : Bool} {vs : List Nat} (he : DE G n0 W0 te fe) : DGA G n0 (fun F => gYield te (ylB stop F)) (bY stop fe) (fun _ _ => 1) vs := by
  intro w ρ μ σ c vr hn b μ' e n hle F N hF hN
  have hle : 1 ≤ n := hle
  rcases Ro.bnd_some e with ⟨d, μ1, e1, e2⟩ | ⟨x, μ1, e1, e2⟩
  · unfold bY1 at e2
    split at e2 <;> cases e2
    rename_i b'
    refine he w ρ μ σ c vr hn _ e1 _ fun w1 y p r => ?_
    have r : y = .bl b' := r
    subst r
    refine ⟨n - 1, by omega, b', rfl, ?_⟩
    by_cases hb : b' = stop
    · subst hb
      rw [if_pos rfl]
      exact hF (by simp) w1 p
    · rw [if_neg hb]
      exact hN (by simpa using hb) w1 σ (n - 1) p (Nat.le_refl _) rfl
  · cases e2
theorem gloop_ok {w : Hw} {ρ : Env} {μ μ' : Mu} {σ0 σ : L2.St} {g : TG} {t : TT} {tg : Tv} {ft body : Ev Bool} {act : (Hp → Prop) → GAct} {cnt : Env → Mu → Nat} {src : Src} {J : It} {vs : List Nat} {k n : Nat} {b : Bool} {F : Hp → Prop} {N : Nat → L2.St → Hp → Prop}
    (hg : DG G n0 W0 g tg) (ho : Own g vs) (hm : Mono g) (ht : DT G n0 W0 t ft) (ha : DGA G n0 act body cnt vs) (c : Mc G w μ) (vr : Vr G.K w ρ σ0) (hw : wipe σ vs = wipe σ0 vs) (hn : n0 ≤ μ.length) (y : Yl G w src J)
    (e : gLpN src tg ft body (wipeE ρ vs) k 0 μ = some (.ok b μ')) (hle : gCntN src tg ft body cnt (wipeE ρ vs) k 0 μ ≤ n)
    (hF : b = true → ∀ w', Post G n0 w μ w' μ' → F w'.H) (hN : b = false → ∀ w' σ' n', Post G n0 w μ w' μ' → n - gCntN src tg ft body cnt (wipeE ρ vs) k 0 μ ≤ n' → wipe σ' vs = wipe σ0 vs → N n' σ' w'.H) :
    gLoop J g t (act F) N n σ w.H := by
  generalize hC : gCntN src tg ft body cnt (wipeE ρ vs) k 0 μ = C at hle hN
  refine ⟨fun i m n1 σ' H' => ∃ w' μ1, w'.H = H' ∧ Post G n0 w μ w' μ1 ∧ wipe σ' vs = wipe σ0 vs ∧ gLpN src tg ft body (wipeE ρ vs) m i μ1 = some (.ok b μ') ∧ (n - C) + gCntN src tg ft body cnt (wipeE ρ vs) m i μ1 ≤ n1,
    ⟨k, w, μ, rfl, .refl c, hw, e, by rw [hC]; omega⟩, ?_⟩
  rintro i m n1 σ' H' ⟨w', μ1, rfl, p, hw', e', hb'⟩
  have hn1 := p.nn hn
  cases m with
  | zero =>
    simp only [gLpN] at e'
    split at e' <;> try cases e'
    rename_i ds hd
    split at e' <;> rename_i hl <;> cases e'
    exact .inl ⟨(y w' _ p.ex.e0 p.mc ds hd i).2 hl, hN rfl w' σ' n1 p (by omega) hw'⟩
  | succ m =>
    simp only [gLpN] at e'
    simp only [gCntN] at hb'
    split at e' <;> try cases e'
    rename_i ds hd
    rw [hd] at hb'
    simp only at hb'
    obtain ⟨y1, y2⟩ := y w' μ1 p.ex.e0 p.mc ds hd i
    split at e'
    · rename_i d hdi
      rw [hdi] at hb'
      simp only at hb'
      obtain ⟨go, yl⟩ := y1 d hdi
      refine .inr ⟨go, fun n2 σ2 H2 => ∃ w' μ1, w'.H = H2 ∧ Post G n0 w μ w' μ1 ∧ wipe σ2 vs = wipe σ0 vs ∧ gLpN src tg ft body (wipeE ρ vs) m (i + 1) μ1 = some (.ok b μ') ∧ (n - C) + gCntN src tg ft body cnt (wipeE ρ vs) m (i + 1) μ1 ≤ n2,
        fun n2 σ2 H2 q => ⟨m, Nat.lt_succ_self m, q⟩, fun x H2 hy => ?_⟩
      obtain ⟨w2, rfl, x2, c2, fr⟩ := yl x H2 hy
      have p2 : Post G n0 w μ w2 μ1 := p.trans ⟨x2, c2, .refl _ _⟩
      unfold gStep at e'
      split at e' <;> try cases e'
      rename_i ρ1 μ2 h1
      rw [h1] at hb'
      simp only at hb'
      refine hm _ _ _ _ _ (fun σ2 H2 q => q.2 q.1) (ho _ _ _ _ (hg w2 (wipeE ρ vs) μ1 σ' d x c2 ((vr.mono p2.ex).own hw') hn1 fr _ h1 (fun σ2 H3 => wipe σ2 vs = wipe σ' vs → t σ2 H3 fun b H4 => if b = true then act F n1 σ2 H4 _ else _) fun w3 σ3 p3 v3 hw3 => ?_))
      have p13 := p2.trans p3
      have hn3 := p13.nn hn
      split at e'
      · rename_i μ3 h2
        rw [h2] at hb'
        simp only at hb'
        refine ht w3 ρ1 μ2 σ3 p3.mc v3 hn3 _ h2 _ fun w4 b' p4 r4 => ?_
        have r4 : b' = true := r4
        subst r4
        rw [if_pos rfl]
        have p14 := p13.trans p4
        have hn4 := p14.nn hn
        split at e' <;> try cases e'
        · rename_i μ4 h3
          rw [h3] at hb'
          simp only at hb'
          refine ha w4 ρ1 μ3 σ3 p4.mc (v3.mono p4.ex) hn4 true _ h3 n1 (by omega) F _ (fun _ w5 p5 => hF rfl w5 (p14.trans p5)) fun z => by cases z
        · rename_i μ4 h3
          rw [h3] at hb'
          simp only at hb'
          refine ha w4 ρ1 μ3 σ3 p4.mc (v3.mono p4.ex) hn4 false μ4 h3 n1 (by omega) F _ (fun z => by cases z) fun _ w5 σ5 n5 p5 hn5 hw5 => ?_
          exact ⟨w5, μ4, rfl, p14.trans p5, hw5.trans (hw3.trans hw'), e', by omega⟩
      · rename_i μ3 h2
        rw [h2] at hb'
        simp only at hb'
        refine ht w3 ρ1 μ2 σ3 p3.mc v3 hn3 _ h2 _ fun w4 b' p4 r4 => ?_
        have r4 : b' = false := r4
        subst r4
        rw [if_neg Bool.false_ne_true]
        exact ⟨w4, μ3, rfl, p13.trans p4, hw3.trans hw', e', hb'⟩
      · cases e'
    · rename_i hdi
      cases e'
      exact .inl ⟨y2 (by simpa using hdi), hN rfl w' σ' n1 p (by omega) hw'⟩
open Classical in
/-- how many items an inner for hands out -/
noncomputable def cFor (fi : Ev Src) (tg : Tv) (ft body : Ev Bool) (cnt : Env → Mu → Nat) (vs : List Nat) : Env → Mu → Nat := fun ρ μ => match fi ρ μ with
  | some (.ok src μ1) => if h : ∃ k, gLpN src tg ft body (wipeE ρ vs) k 0 μ1 = gRun tg ft body (wipeE ρ vs) src μ1 then gCntN src tg ft body cnt (wipeE ρ vs) (Classical.choose h) 0 μ1 else 0
  | _ => 0
theorem dga_For {wi : TI} {g : TG} {t : TT} {fi : Ev Src} {tg : Tv} {ft body : Ev Bool} {act : (Hp → Prop) → GAct} {cnt : Env → Mu → Nat} {vs : List Nat} (hi : DI G n0 W0 wi fi) (hg : DG G n0 W0 g tg) (ho : Own g vs) (hm : Mono g) (ht : DT G n0 W0 t ft) (ha : DGA G n0 act body cnt vs) :
    DGA G n0 (fun F => gFor wi g t (act F)) (bFor fi tg ft body vs) (cFor fi tg ft body cnt vs) vs := by
  intro w ρ μ σ c vr hn b μ' e n hle F N hF hN
  rcases Ro.bnd_some e with ⟨src, μ1, e1, e2⟩ | ⟨x, μ1, e1, e2⟩
  · refine hi w ρ μ σ c vr hn _ e1 _ fun w1 J p1 y => ?_
    obtain ⟨k0, hk0⟩ := gRun_n e2
    have hex : ∃ k, gLpN src tg ft body (wipeE ρ vs) k 0 μ1 = gRun tg ft body (wipeE ρ vs) src μ1 := ⟨k0, hk0.trans e2.symm⟩
    have hc : cFor fi tg ft body cnt vs ρ μ = gCntN src tg ft body cnt (wipeE ρ vs) (Classical.choose hex) 0 μ1 := by
      unfold cFor
      rw [e1]
      simp only
      rw [dif_pos hex]
    rw [hc] at hle hN
    exact gloop_ok hg ho hm ht ha p1.mc (vr.mono p1.ex) rfl (p1.nn hn) y ((Classical.choose_spec hex).trans e2) hle (fun hb w' p' => hF hb w' (p1.trans p')) fun hb w' σ' n' p' h1 h2 => hN hb w' σ' n' (p1.trans p') h1 h2
  · cases e2
/-- wider: the act may change more -/
theorem DGA.wide {act : (Hp → Prop) → GAct} {body : Ev Bool} {cnt : Env → Mu → Nat} {vs us : List Nat} (h : DGA G n0 act body cnt vs) (hs : ∀ v ∈ vs, v ∈ us := by decide) : DGA G n0 act body cnt us := by
  intro w ρ μ σ c vr hn b μ' e n hle F N hF hN
  refine h w ρ μ σ c vr hn b μ' e n hle F N hF fun hb w' σ' n' p' h1 h2 => hN hb w' σ' n' p' h1 ?_
  have all : ∀ σ : L2.St, wipe (wipe σ vs) us = wipe σ us := by
    intro σ
    have go : ∀ us' : List Nat, (∀ u ∈ us', u ∈ us) → wipe (wipe σ us') us = wipe σ us := by
      intro us'
      induction us' with
      | nil => intro _; rfl
      | cons u us' ih =>
        intro h
        show wipe ((wipe σ us').set u none) us = wipe σ us
        rw [wipe_set_in (h u List.mem_cons_self)]
        exact ih fun x hx => h x (List.mem_cons_of_mem _ hx)
    exact go vs hs
  rw [← all σ', h2, all σ]
theorem grown_world {w : Hw} {μ : Mu} {T' : Addr → Prop} {H2 : Hp} (c : Mc G w μ) (gr : Grown w.T w.H T' H2) : Ex w ⟨w.N, w.A, H2, T'⟩ ∧ Mc G ⟨w.N, w.A, H2, T'⟩ μ := by
  have kN : ∀ a, w.N a → H2 a = w.H a := fun a h => by
    obtain ⟨o, e⟩ := c.old a h
    rw [e]
    exact gr.old a o (fun z => (c.tabN a z).1 h) e
  have kA : ∀ a, a ∈ w.A → H2 a = w.H a := fun a h => by
    obtain ⟨o, e⟩ := c.oldA a h
    rw [e]
    exact gr.old a o (fun z => (c.tabN a z).2 h) e
  have x : Ex w ⟨w.N, w.A, H2, T'⟩ := ⟨fun _ h => h, fun _ _ h => h, kN, fun a o e _ nt => gr.old a o nt e, fun _ h => .inl h, fun _ h => .inl h, gr.le, gr.new, gr.old2, fun a _ => ⟨gr.cod a, gr.tbl a⟩⟩
  refine ⟨x, c.len, c.nd, fun k m a hm ha => ?_, fun a h => ?_, fun a h => ?_, gr.ok, fun a ha => ?_, ⟨fun a ha => ?_, fun a P ha => ⟨gr.le a (c.tab0.cod a P ha).1, gr.cod a P (c.tab0.cod a P ha).2⟩⟩, fun a f z => (c.xd0 a f z).cut x.le x.keep⟩
  · obtain ⟨r, n⟩ := c.cell k m a hm ha
    exact ⟨r.mono x (kA a (List.mem_of_getElem? ha)), n⟩
  · obtain ⟨o, e⟩ := c.old a h
    exact ⟨o, (kN a h).trans e⟩
  · obtain ⟨o, e⟩ := c.oldA a h
    exact ⟨o, (kA a h).trans e⟩
  · rcases gr.new a ha with z | z
    · exact c.tabN a z
    · refine ⟨fun h => ?_, fun h => ?_⟩
      · obtain ⟨o, e⟩ := c.old a h
        rw [z] at e; cases e
      · obtain ⟨o, e⟩ := c.oldA a h
        rw [z] at e; cases e
  · obtain ⟨h1, ps, h2⟩ := c.tab0.tab a ha
    exact ⟨gr.le a h1, gr.tbl a ps h2⟩
theorem de_gen {wi : TI} {g : TG} {t : TT} {fi : Ev Src} {tg : Tv} {ft body : Ev Bool} {act : (Hp → Prop) → GAct} {cnt : Env → Mu → Nat} {vs : List Nat} {P : Addr} {stop : Bool} (hP : G.C.tabs P) (hi : DI G n0 W wi fi) (hg : DG G n0 W0 g tg) (ho : Own g vs) (hm : Mono g) (ht : DT G n0 W0 t ft) (ha : DGA G n0 act body cnt vs) :
    DE G n0 W (tGen P wi g t act stop vs) (eGen fi tg ft body vs stop) := by
  intro w ρ μ σ c vr hn r e Q fin
  rcases Ro.bnd_some e with ⟨src, μ1, e1, e2⟩ | ⟨x, μ1, e1, e2⟩
  · refine hi w ρ μ σ c vr hn _ e1 _ fun w1 J p1 y => ?_
    obtain ⟨hT, ps, hps⟩ := p1.mc.tab0.tab P hP
    refine ⟨w1.T, ps, p1.mc.tab, hT, hps, fun T' H2 gr => ?_⟩
    obtain ⟨x2, c2⟩ := grown_world p1.mc gr
    have p2 : Post G n0 w μ ⟨w1.N, w1.A, H2, T'⟩ μ1 := p1.trans ⟨x2, c2, .refl _ _⟩
    unfold gEnd at e2
    split at e2 <;> cases e2
    rename_i b μf h1
    obtain ⟨k, h2⟩ := gRun_n h1
    refine ⟨_, gloop_ok (w := ⟨w1.N, w1.A, H2, T'⟩) (σ0 := wipe σ vs) (ρ := wipeE ρ vs) (μ := μ1) (μ' := μf) (b := b) (k := k) (src := src) hg ho hm ht ha c2 ((vr.mono p2.ex).wipe vs) rfl (p2.nn hn) (fun w' μ' x' c' => y w' μ' (x2.e0.trans x') c') ?_ (Nat.le_refl _) (fun hb w' p' => ?_) fun hb w' σ' n' p' _ _ => ?_⟩
    · have : wipeE (wipeE ρ vs) vs = wipeE ρ vs := by
        apply List.ext_getElem?
        intro i
        have gen : ∀ (ρ : Env) (i : Nat), (wipeE ρ vs)[i]? = if i ∈ vs then (if i < ρ.length then some none else none) else ρ[i]? := by
          intro ρ i
          clear ho ha h1 h2 fin e vr
          induction vs with
          | nil => simp [wipeE]
          | cons v vs ih =>
            unfold wipeE
            rw [List.getElem?_set, ih, wipeE_length]
            by_cases hv : v = i
            · subst hv; simp
            · rw [if_neg hv]
              have : (i ∈ v :: vs) ↔ i ∈ vs := by simp [Ne.symm hv]
              simp only [this]
        rw [gen, gen, wipeE_length]
        split <;> rfl
      rw [this]
      exact h2
    · subst hb
      exact fin w' (.bl stop) (p2.trans p') rfl
    · subst hb
      exact fin w' (.bl (!stop)) (p2.trans p') rfl
  · subst e2
    exact hi w ρ μ σ c vr hn _ e1 _ fun w1 cls dx p x => fin w1 cls dx p x
end
end G4

/-! G27: defs with generator expressions, the law's end with tables; any, all evaluated. -/
namespace G4
open PySem PySem.Spec PyProof.Rows L2
/-- a def of the text with its code object -/
structure DefAtC (K : PySem.W.Frag) (mg : Str → Option Value) (x : Str) (st : Stmt) (ps : List Str) (c : Addr) : Prop where
  ex : ∃ (f : Addr) (oc : Value) (od : Option Addr) (kV doc pm : Value) (an : Option Addr) (ct : Value) (osl : Array (Option Value)),
    K.lookup f = some ⟨oc, od, .func (PySem.W.fnOf x x (defArgs st) (defBody st) (defScope st) .none kV doc pm an (.ref c) ct), osl⟩ ∧ PySem.W.codeIn K (.ref c) x = true ∧ PySem.W.keepIn K (.ref f) = true ∧ mg x = some (.ref f) ∧
    Binds K (PySem.W.fnOf x x (defArgs st) (defBody st) (defScope st) .none kV doc pm an (.ref c) ct) ps []
section
variable {P : Program} {w : World} {K : PySem.W.Frag} {mg : Str → Option Value} {base : Heap} {C : Ct}
theorem df_ofC {x : Str} {st : Stmt} {N ps : List Str} {k n : Nat} {c : Addr} {body : Nat → Sv} (T : DefAtC K mg x st ps c) (S : FnScope N ps (defScope st)) (hn : ps.length = n) (hN : n ≤ N.length)
    (h : ∀ (X : Cx) (f : Addr) (A : Around) (s : Shared) (H : Hp) (E : XK) (outer : List PySem.Env) (cdv : Value), X = (cxOf CX0 P w K mg base N x (defScope st) f (.ref c) A outer s H E).nox → Room k X.A →
      ∃ t, PSs X (defBody st) t ∧ ∀ n0, DS ⟨K, C⟩ n0 (fun cls dx _ H => E cls dx H) t (body n0)) : Df P w K mg base C (k + 1) x n (runD N.length body) := by
  obtain ⟨f, oc, od, kV, doc, pm, an, ct, osl, lk, hcd, hkp, hm, hb⟩ := T.ex
  refine ⟨f, _, ps, fn_of lk hcd S (fun vs H Q E q => by rw [spD_len q, hn]) fun A outer s H vs Q E hr q => ?_, hm, hkp, hb⟩
  obtain ⟨t, h1, h2⟩ := h _ f A s H E outer .none rfl hr
  exact ⟨t, h1.nox, def_reads h2 hN q⟩
theorem tabIn_mk {x : Str} {f c P : Addr} {oc : Value} {od : Option Addr} {fd : FuncData} {osl : Array (Option Value)} {ec : Value} {dd : Option Addr} {vs : Array Value} {sm : Array (Option Value)} (a : PySem.W.nsIn K mainGlobals x = some (some (.ref f))) (l : K.lookup f = some ⟨oc, od, .func fd, osl⟩)
    (e : fd.code = .ref c) (q : K.lookup c = some ⟨ec, dd, .fields vs, sm⟩) (p : vs[11]? = some (.ref P)) : PySem.W.tabIn K x = some (c, P) := by
  unfold PySem.W.tabIn
  rw [a]
  simp only [l, e, q, p]
end
theorem tabB_of {base : Heap} {mg : Str → Option Value} {c P : Addr} (h : LamX.TabB base mg c P) : GxR.TabB base mg c P := ⟨h.code, h.bm, h.gP⟩
theorem walk_tabs {l : PySem.W.OpenLaw} {q : Program} {loose : List Str} {XP : (Str → Option Value) → Heap → Prop} {YP : World → Heap → Prop} {d : DefRec} {K : Params → PySem.W.Frag} {k : Nat} {x : Str} (hn : l.most = some 63) (hdf : d.params.defaults = []) (hr : Room k callerA)
    (hY : ∀ (w : World) (h : Heap), YP w h → (K w.params).In h) (xs : List Str) (hx : ∀ x ∈ xs, ((recsOf q).find? (fun e => e.name == x)).isSome = true)
    (F : ∀ (w : World) (mg : Str → Option Value) (fa : Addr) (h : Heap), (K w.params).In h → h.Ns mainGlobals mg → mg d.name = some (.ref fa) →
      (∀ x ∈ xs, ∀ c P, PySem.W.tabIn (K w.params) x = some (c, P) → PySem.W.CodeHd h c P ∧ h.get? P = some { cls := .none, data := .fields #[] }) → LamX.LawAtS l w (K w.params) CX0 k 63 x mg fa h) :
    PySem.W.WalkO q loose XP YP l.row.toRowW d [] (fun f vs => PySem.call f vs) := by
  refine Att.attach_callB hn hdf fun w s₀ s₁ mg mb fa o pm cd doc a vs ns G Y ho hd hcd hmg hobj hints hlen hbits hg => ?_
  have KX := hY w _ Y
  obtain ⟨fd, cs, sp, hT, nT, C, hb, hsp, hF⟩ := F w mg fa _ KX G.T.g hmg fun x hm c P ht => by
    obtain ⟨dd, hdd⟩ := Option.isSome_iff_exists.mp (hx x hm)
    exact PySem.W.tab_of G.T KX hdd ht
  exact LamX.law_callTs KX G.T.g G.T.b G.T.builtins G.T.nolimit hg hT nT C G.T.bmain hobj hints (Nat.le_trans hlen (by decide)) hr hF hb (fun H hH hS => hsp H a ns hlen hbits hH hS) fun H e s' h => h
/-! any, all evaluated -/
section
variable {ρ : Env} {μ μ1 : Mu}
def gens (r : Ro Src) (tg : Tv) (tt body : Ev Bool) (ρ : Env) (stop : Bool) : Ro D := r.bnd fun src μ1 => gEnd stop (gRun tg tt body ρ src μ1)
@[simp] theorem eGen_ap (fi : Ev Src) (tg : Tv) (tt body : Ev Bool) (vs : List Nat) (stop : Bool) : eGen fi tg tt body vs stop ρ μ = gens (fi ρ μ) tg tt body (wipeE ρ vs) stop := rfl
/-- each turn tells a truth, nothing changes -/
theorem gLpL_map {α : Type} {tg : Tv} {tt body : Ev Bool} {ρ : Env} {μ : Mu} (e : α → D) (t f : α → Bool) : ∀ {xs : List α}, (∀ x ∈ xs, ∃ ρ1, tg (e x) ρ μ = some (.ok ρ1 μ) ∧ tt ρ1 μ = some (.ok (t x) μ) ∧ (t x = true → body ρ1 μ = some (.ok (f x) μ))) → gLpL tg tt body ρ (xs.map e) μ = some (.ok (xs.any fun x => t x && f x) μ)
  | [], _ => rfl
  | d :: ds, h => by
    obtain ⟨ρ1, e1, e2, e3⟩ := h d (by simp)
    have ih := gLpL_map (tg := tg) (tt := tt) (body := body) (ρ := ρ) (μ := μ) e t f (xs := ds) fun x hx => h x (by simp [hx])
    show gStep tg tt body ρ (e d) μ (gLpL tg tt body ρ (ds.map e)) = _
    simp only [gStep, e1, e2, List.any_cons]
    cases ht : t d with
    | false => simpa [ht] using ih
    | true =>
      simp only [e3 ht]
      cases hf : f d with
      | true => simp
      | false => simpa using ih
theorem gLpN_map {α : Type} {tg : Tv} {tt body : Ev Bool} {ρ : Env} {μ : Mu} {src : Src} {xs : List α} (e : α → D) (t f : α → Bool) (hc : src.cur μ = some (xs.map e)) (h : ∀ x ∈ xs, ∃ ρ1, tg (e x) ρ μ = some (.ok ρ1 μ) ∧ tt ρ1 μ = some (.ok (t x) μ) ∧ (t x = true → body ρ1 μ = some (.ok (f x) μ))) :
    ∀ (n i : Nat), n + i = xs.length → gLpN src tg tt body ρ n i μ = some (.ok ((xs.drop i).any fun x => t x && f x) μ)
  | 0, i, hi => by
    simp only [gLpN, hc]
    rw [if_pos (by rw [List.length_map]; omega), List.drop_eq_nil_of_le (by omega)]
    rfl
  | n + 1, i, hi => by
    have hl : i < xs.length := by omega
    have hg : (xs.map e)[i]? = some (e xs[i]) := by rw [List.getElem?_map, List.getElem?_eq_getElem hl]; rfl
    simp only [gLpN, hc, hg]
    obtain ⟨ρ1, e1, e2, e3⟩ := h _ (List.getElem_mem hl)
    rw [List.drop_eq_getElem_cons hl, List.any_cons]
    have ih := gLpN_map e t f hc h n (i + 1) (by omega)
    simp only [gStep, e1, e2]
    cases ht : t xs[i] with
    | false => simpa [ht] using ih
    | true =>
      simp only [e3 ht]
      cases hf : f xs[i] with
      | true => simp
      | false => simpa using ih
/-- .. the source a list or a cell -/
theorem gRun_map {α : Type} {tg : Tv} {tt body : Ev Bool} {ρ : Env} {μ : Mu} {src : Src} {xs : List α} (e : α → D) (t f : α → Bool) (hc : src.cur μ = some (xs.map e)) (h : ∀ x ∈ xs, ∃ ρ1, tg (e x) ρ μ = some (.ok ρ1 μ) ∧ tt ρ1 μ = some (.ok (t x) μ) ∧ (t x = true → body ρ1 μ = some (.ok (f x) μ))) :
    gRun tg tt body ρ src μ = some (.ok (xs.any fun x => t x && f x) μ) := by
  cases src with
  | its es =>
    have : es = xs.map e := Option.some.inj hc
    subst this
    exact gLpL_map e t f h
  | cel k =>
    have hv : viewL μ (.cell k) = some (xs.map e) := hc
    simp only [gRun, hv]
    have := gLpN_map e t f hc h xs.length 0 rfl
    rw [List.length_map]
    exact this
/-- one name, no test -/
theorem gRun_name {α : Type} {i : Nat} {body : Ev Bool} {ρ : Env} {μ : Mu} {src : Src} {xs : List α} (e : α → D) (f : α → Bool) (hc : src.cur μ = some (xs.map e)) (h : ∀ x ∈ xs, body (ρ.set i (some (e x))) μ = some (.ok (f x) μ)) :
    gRun (tName i) eYes body ρ src μ = some (.ok (xs.any f) μ) := by
  have := gRun_map (tg := tName i) (tt := eYes) (body := body) (ρ := ρ) e (fun _ => true) f hc fun x hx => ⟨_, rfl, rfl, fun _ => h x hx⟩
  simpa using this
/-- any(..), all(..), of what the turns tell -/
theorem gens_run {tg : Tv} {tt body : Ev Bool} {src : Src} {stop b : Bool} (h : gRun tg tt body ρ src μ = some (.ok b μ1)) : gens (some (.ok src μ)) tg tt body ρ stop = some (.ok (.bl (if b = true then stop else !stop)) μ1) := by
  show gEnd stop (gRun tg tt body ρ src μ) = _
  rw [h]
  rfl
theorem gens_any {α : Type} {i : Nat} {te : Ev D} {src : Src} {xs : List α} (e : α → D) (f : α → Bool) (hc : src.cur μ = some (xs.map e)) (h : ∀ x ∈ xs, te (ρ.set i (some (e x))) μ = some (.ok (.bl (f x)) μ)) : gens (some (.ok src μ)) (tName i) eYes (bY true te) ρ true = some (.ok (.bl (xs.any f)) μ) := by
  have := gens_run (stop := true) (gRun_name (i := i) (body := bY true te) (ρ := ρ) e f hc fun x hx => by
    show Ro.bnd _ _ = _
    rw [h x hx]
    show some (Rs.ok (f x == true) μ) = _
    simp)
  rw [this]
  cases xs.any f <;> rfl
theorem gens_all {α : Type} {i : Nat} {te : Ev D} {src : Src} {xs : List α} (e : α → D) (f : α → Bool) (hc : src.cur μ = some (xs.map e)) (h : ∀ x ∈ xs, te (ρ.set i (some (e x))) μ = some (.ok (.bl (f x)) μ)) : gens (some (.ok src μ)) (tName i) eYes (bY false te) ρ false = some (.ok (.bl (xs.all f)) μ) := by
  have := gens_run (stop := false) (gRun_name (i := i) (body := bY false te) (ρ := ρ) e (fun x => !f x) hc fun x hx => by
    show Ro.bnd _ _ = _
    rw [h x hx]
    show some (Rs.ok (f x == false) μ) = _
    cases f x <;> rfl)
  rw [this]
  have : xs.all f = !xs.any fun x => !f x := by
    clear hc h this
    induction xs with
    | nil => rfl
    | cons d ds ih => simp [List.any_cons, List.all_cons, ih]
  rw [this]
  cases xs.any fun x => !f x <;> rfl
def bYs (stop : Bool) (r : Ro D) : Ro Bool := r.bnd (bY1 stop)
@[simp] theorem bY_ap (stop : Bool) (te : Ev D) : bY stop te ρ μ = bYs stop (te ρ μ) := rfl
@[simp] theorem bYs_bl (stop b : Bool) : bYs stop (some (.ok (.bl b) μ)) = some (.ok (b == stop) μ) := rfl
@[simp] theorem bFor_ap (fi : Ev Src) (tg : Tv) (tt body : Ev Bool) (vs : List Nat) : bFor fi tg tt body vs ρ μ = Ro.bnd (fi ρ μ) (gRun tg tt body (wipeE ρ vs)) := rfl
@[simp] theorem cur_its (ds : List D) : Src.cur μ (.its ds) = some ds := rfl
end
/-! list(range(n)) -/
section
variable {G : Gx} {n0 : Nat} {W : WX}
noncomputable def lrg (d : D) (μ : Mu) : Ro D := match d with
  | .int n => if rOk n && small n.toNat then some (.ok (.lst (rngD 0 n.toNat)) μ) else none
  | _ => none
noncomputable def eLrg (f : Ev D) : Ev D := fun ρ μ => (f ρ μ).bnd lrg
theorem frs_rng {K : PySem.W.Frag} {w : Hw} (lo : Int) : ∀ (l : List Nat), Frs K w (l.map fun i => D.int (lo + (i : Nat))) (l.map fun i => V.int (lo + (i : Nat)))
  | [] => rfl
  | i :: l => ⟨_, _, rfl, rfl, frs_rng lo l⟩
theorem de_lrg {t : TE} {f : Ev D} (h : DE G n0 W t f) : DE G n0 W (tLstRg (tRg1 t)) (eLrg f) := fun w ρ μ σ c vr hn =>
  (h w ρ μ σ c vr hn).bnd (uu := fun x H1 (Q : VK) => ∃ n, x = V.int n ∧ (RgOk 0 n ∧ ∀ q, H1 q = none → Q (.ref q) (upd H1 q (.lst (rgV 0 n))))) fun w1 μ1 d x p1 r1 => by
    intro q e Q fin
    unfold lrg at e
    split at e <;> try cases e
    rename_i n
    split at e <;> rename_i hs <;> cases e
    rw [Bool.and_eq_true, rOk_iff] at hs
    have r1 : x = .int n := r1
    have hsm := small_ok hs.2
    rw [sizeLine_eq] at hsm
    refine ⟨n, r1, ⟨by omega, by omega, hs.1.1, hs.1.2, by simpa using hsm⟩, fun q hq => ?_⟩
    have : rgV 0 n = (List.range n.toNat).map fun i => V.int (0 + (i : Nat)) := by simp [rgV]
    rw [this]
    exact fin_fz p1.mc hq (fr_lst p1.mc hq (frs_rng 0 _)) fin
@[simp] theorem eLrg_ap {ρ : Env} {μ : Mu} (f : Ev D) : eLrg f ρ μ = Ro.bnd (f ρ μ) lrg := rfl
theorem lrg_ok {μ : Mu} {n : Int} (h : rOk n = true) (h2 : n ≤ 16777216) : lrg (.int n) μ = some (.ok (.lst (rngD 0 n.toNat)) μ) := by
  have : small n.toNat = true := by simp [small]; omega
  simp [lrg, h, this]
end
end G4

/-! G28: and, or, chains of tests whose first truth is known only as a Bool. -/
namespace G4
open PySem PySem.Spec PyProof.Rows L2
section
variable {ρ : Env} {μ μ1 : Mu}
def pick {α : Type} (b : Bool) (r s : Ro α) : Ro α := if b = true then r else s
@[simp] theorem pick_t {α : Type} (r s : Ro α) : pick true r s = r := rfl
@[simp] theorem pick_f {α : Type} (r s : Ro α) : pick false r s = s := rfl
@[simp] theorem pick_and (k m : Bool) : pick k (some (.ok (D.bl m) μ)) (some (.ok (D.bl false) μ)) = some (.ok (.bl (k && m)) μ) := by cases k <;> rfl
@[simp] theorem pick_or (k m : Bool) : pick k (some (.ok (D.bl true) μ)) (some (.ok (D.bl m) μ)) = some (.ok (.bl (k || m)) μ) := by cases k <;> rfl
@[simp] theorem pick_andB (k m : Bool) : pick k (some (Rs.ok m μ)) (some (.ok false μ)) = some (.ok (k && m) μ) := by cases k <;> rfl
@[simp] theorem pick_orB (k m : Bool) : pick k (some (Rs.ok true μ)) (some (.ok m μ)) = some (.ok (k || m) μ) := by cases k <;> rfl
theorem chain2_p (op' : D → D → Mu → Ro D) (b : D) (k : Bool) (h : Mu → Ro D) : chain2 op' b (some (.ok (.bl k) μ)) h = pick k (op2' op' b (h μ)) (some (.ok (.bl false) μ)) := by cases k <;> rfl
theorem andV_p (k : Bool) (h : Mu → Ro D) : andV (some (.ok (.bl k) μ)) h = pick k (h μ) (some (.ok (.bl false) μ)) := by cases k <;> rfl
theorem orV_p (k : Bool) (h : Mu → Ro D) : orV (some (.ok (.bl k) μ)) h = pick k (some (.ok (.bl true) μ)) (h μ) := by cases k <;> rfl
theorem and2_p (k : Bool) (h : Mu → Ro Bool) : and2 (some (.ok k μ)) h = pick k (h μ) (some (.ok false μ)) := by cases k <;> rfl
theorem or2_p (k : Bool) (h : Mu → Ro Bool) : or2 (some (.ok k μ)) h = pick k (some (.ok true μ)) (h μ) := by cases k <;> rfl
theorem pick_r {α : Type} {k : Bool} {r s : Ro α} {t : Ro α} (h : k = true → r = t) (h2 : k = false → s = t) : pick k r s = t := by
  cases k
  · exact h2 rfl
  · exact h rfl
theorem Sk.seq_ifsP {b : Bool} {r s : Ro Bool} {g h k : Sv} {Q : Fl → Prop} (ht : b = true → Sk (seqs (G4.ifs r ρ g h) k) Q) (hf : b = false → Sk (seqs (G4.ifs s ρ g h) k) Q) : Sk (seqs (G4.ifs (pick b r s) ρ g h) k) Q := by
  cases b
  · exact hf rfl
  · exact ht rfl
theorem Sk.ifsP {b : Bool} {r s : Ro Bool} {g h : Sv} {Q : Fl → Prop} (ht : b = true → Sk (G4.ifs r ρ g h) Q) (hf : b = false → Sk (G4.ifs s ρ g h) Q) : Sk (G4.ifs (pick b r s) ρ g h) Q := by
  cases b
  · exact hf rfl
  · exact ht rfl
end
end G4

/-! G29: rules of while, and of for over a list that may be written meanwhile. -/
namespace G4
open PySem PySem.Spec PyProof.Rows L2
section
variable {ρ : Env} {μ : Mu}
theorem turn_go {tg : Tv} {body rest : Sv} {d : D} {I : Env → Mu → Prop} {Q : Fl → Prop} (h : Go I Q (turn1 tg body d ρ μ)) (hr : ∀ ρ' μ', I ρ' μ' → ∃ fl, rest ρ' μ' = some fl ∧ Q fl) : ∃ fl, turn tg body d ρ μ rest = some fl ∧ Q fl := by
  unfold turn1 at h
  unfold turn
  split at h
  · rename_i ρ1 μ1 h1
    cases hb : body ρ1 μ1 with
    | none => rw [hb] at h; exact h.elim
    | some fl =>
      rw [hb] at h
      try simp only [h1, hb]
      cases fl with
      | nx a b => exact hr a b h
      | ct a b => exact hr a b h
      | bk a b => exact ⟨_, rfl, h⟩
      | rt a b => exact ⟨_, rfl, h⟩
      | ex a b c => exact ⟨_, rfl, h⟩
  · exact h.elim
/-- a for whose source holds the same items at each turn -/
theorem loopN_rule {tg : Tv} {body : Sv} {Q : Fl → Prop} {src : Src} {ds : List D} (I : Nat → Env → Mu → Prop) (hc : ∀ i ρ μ, I i ρ μ → src.cur μ = some ds)
    (step : ∀ i d ρ μ, ds[i]? = some d → I i ρ μ → Go (I (i + 1)) Q (turn1 tg body d ρ μ)) (done : ∀ ρ μ, I ds.length ρ μ → Q (.nx ρ μ)) :
    ∀ (n i : Nat) (ρ : Env) (μ : Mu), n + i = ds.length → I i ρ μ → ∃ fl, loopN src tg body n i ρ μ = some fl ∧ Q fl
  | 0, i, ρ, μ, hn, h => by
    have e := hc i ρ μ h
    refine ⟨.nx ρ μ, ?_, done ρ μ (by have : i = ds.length := by omega
                                      rw [← this]; exact h)⟩
    simp only [loopN, e]
    rw [if_pos (by omega)]
  | n + 1, i, ρ, μ, hn, h => by
    have e := hc i ρ μ h
    have hl : i < ds.length := by omega
    have hd : ds[i]? = some ds[i] := List.getElem?_eq_getElem hl
    simp only [loopN, e, hd]
    exact turn_go (step i _ ρ μ hd h) fun ρ' μ' h' => loopN_rule I hc step done n (i + 1) ρ' μ' (by omega) h'
theorem Sk.seq_loopN {tg : Tv} {body k : Sv} {Q : Fl → Prop} {c : Nat} {ds : List D} (I : Nat → Env → Mu → Prop) (h0 : I 0 ρ μ) (hc : ∀ i ρ μ, I i ρ μ → μ[c]? = some (some (.lst ds)))
    (step : ∀ i d ρ μ, ds[i]? = some d → I i ρ μ → Go (I (i + 1)) (Then Q k) (turn1 tg body d ρ μ)) (done : ∀ ρ μ, I ds.length ρ μ → Sk (k ρ μ) Q) : Sk (seqs (fors (some (.ok (.cel c) μ)) ρ tg body) k) Q := by
  obtain ⟨fl, e, h⟩ := loopN_rule (Q := Then Q k) (src := .cel c) (ds := ds) I (fun i ρ μ h => by simp [Src.cur, viewL, hc i ρ μ h]) step done ds.length 0 ρ μ rfl h0
  rw [fors_cel (hc 0 ρ μ h0), e]
  cases fl with
  | nx ρ μ => exact h
  | _ => exact ⟨_, rfl, h⟩
theorem Sk.loopC {tg : Tv} {body : Sv} {Q : Fl → Prop} {c : Nat} {ds : List D} (I : Nat → Env → Mu → Prop) (h0 : I 0 ρ μ) (hc : ∀ i ρ μ, I i ρ μ → μ[c]? = some (some (.lst ds)))
    (step : ∀ i d ρ μ, ds[i]? = some d → I i ρ μ → Go (I (i + 1)) Q (turn1 tg body d ρ μ)) (done : ∀ ρ μ, I ds.length ρ μ → Q (.nx ρ μ)) : Sk (fors (some (.ok (.cel c) μ)) ρ tg body) Q := by
  obtain ⟨fl, e, h⟩ := loopN_rule (Q := Q) (src := .cel c) (ds := ds) I (fun i ρ μ h => by simp [Src.cur, viewL, hc i ρ μ h]) step done ds.length 0 ρ μ rfl h0
  rw [fors_cel (hc 0 ρ μ h0), e]
  exact ⟨_, rfl, h⟩
/-- while: I counts the turns that are left -/
theorem wh_rule {k : Ev Bool} {body : Sv} {Q : Fl → Prop} (I : Nat → Env → Mu → Prop)
    (step : ∀ m ρ μ, I m ρ μ → ∃ b μ1, k ρ μ = some (.ok b μ1) ∧ (b = false → Q (.nx ρ μ1)) ∧ (b = true → ∃ m', m' < m ∧ Go (I m') Q (body ρ μ1))) :
    ∀ (n m : Nat) (ρ : Env) (μ : Mu), m < n → I m ρ μ → ∃ fl, loopW k body n ρ μ = some fl ∧ Q fl
  | 0, m, ρ, μ, hm, h => absurd hm (Nat.not_lt_zero _)
  | n + 1, m, ρ, μ, hm, h => by
    obtain ⟨b, μ1, e, hf, ht⟩ := step m ρ μ h
    simp only [loopW, e, thn_ok]
    cases b with
    | false => exact ⟨_, rfl, hf rfl⟩
    | true =>
      obtain ⟨m', hm', g⟩ := ht rfl
      simp only [if_true]
      cases hb : body ρ μ1 with
      | none => rw [hb] at g; exact g.elim
      | some fl =>
        rw [hb] at g
        cases fl with
        | nx a b => exact wh_rule I step n m' a b (by omega) g
        | ct a b => exact wh_rule I step n m' a b (by omega) g
        | bk a b => exact ⟨_, rfl, g⟩
        | rt a b => exact ⟨_, rfl, g⟩
        | ex a b c => exact ⟨_, rfl, g⟩
theorem Sk.seq_while {k : Ev Bool} {body s : Sv} {Q : Fl → Prop} {n : Nat} (I : Nat → Env → Mu → Prop) (m : Nat) (hm : m < n) (h0 : I m ρ μ)
    (step : ∀ m ρ μ, I m ρ μ → ∃ b μ1, k ρ μ = some (.ok b μ1) ∧ (b = false → Sk (s ρ μ1) Q) ∧ (b = true → ∃ m', m' < m ∧ Go (I m') (Then Q s) (body ρ μ1))) : Sk (seqs (loopW k body n ρ μ) s) Q := by
  obtain ⟨fl, e, h⟩ := wh_rule (Q := Then Q s) I step n m ρ μ hm h0
  rw [e]
  cases fl with
  | nx ρ μ => exact h
  | _ => exact ⟨_, rfl, h⟩
def augs (i : Nat) (op : D → D → Mu → Ro D) (o : Option (Option D)) (ρ : Env) (r : Ro D) : Option Fl := match o with
  | some (some a) => r.thn ρ fun b μ1 => (op a b μ1).thn ρ fun d μ2 => some (.nx (ρ.set i (some d)) μ2)
  | _ => none
/-- a comprehension with a test, nothing changes -/
theorem comps_fmap {α : Type} {mk : List D → Mu → Ro D} {k : Nat} {tt : Ev Bool} {te : Ev D} (e : α → D) (p : α → Bool) (g : α → D) {xs : List α} (ht : ∀ x ∈ xs, tt (ρ.set k (some (e x))) μ = some (.ok (p x) μ)) (hg : ∀ x ∈ xs, p x = true → te (ρ.set k (some (e x))) μ = some (.ok (g x) μ)) :
    comps mk (some (.ok (.its (xs.map e)) μ)) (tName k) tt te ρ = mk ((xs.filter p).map g) μ := by
  obtain ⟨ys, μ', e', rfl, rfl⟩ := comps_rule (mk := mk) (tg := tName k) (tt := tt) (te := te) (ρ := ρ) (ds := xs.map e) (μ := μ) (fun i μ' acc => μ' = μ ∧ acc = ((xs.take i).filter p).map g) ⟨rfl, by simp⟩ (by
    rintro i d μ' acc hd ⟨rfl, rfl⟩
    rw [List.getElem?_map] at hd
    cases hx : xs[i]? with
    | none => rw [hx] at hd; exact absurd hd (by simp)
    | some x =>
      rw [hx] at hd
      obtain rfl : e x = d := by simpa using hd
      have hm := List.mem_of_getElem? hx
      have tk : xs.take (i + 1) = xs.take i ++ [x] := by rw [List.take_add_one, hx]; rfl
      refine ⟨_, _, p x, _, rfl, ht x hm, fun hb => ⟨_, _, hg x hm hb, rfl, ?_⟩, fun hb => ⟨rfl, ?_⟩⟩
      · rw [tk, List.filter_append]
        simp [hb]
      · rw [tk, List.filter_append]
        simp [hb])
  rw [e', List.length_map, List.take_length]
@[simp] theorem sAug_ap {i : Nat} {op : D → D → Mu → Ro D} {f : Ev D} : sAug i op f ρ μ = augs i op ρ[i]? ρ (f ρ μ) := by
  unfold sAug augs
  cases ρ[i]? with
  | none => rfl
  | some o =>
    cases o with
    | none => rfl
    | some a => rfl
@[simp] theorem augs_ok {i : Nat} {op : D → D → Mu → Ro D} {a b : D} : augs i op (some (some a)) ρ (some (.ok b μ)) = (op a b μ).thn ρ fun d μ2 => some (.nx (ρ.set i (some d)) μ2) := rfl
end
end G4

/-! G30: max of a tuple of whole numbers; slices of lists. -/
namespace G4
open PySem PySem.Spec PyProof.Rows L2
/-- the greatest -/
def mxL : List Int → Int
  | [] => 0
  | [x] => x
  | x :: y :: ys => if mxL (y :: ys) > x then mxL (y :: ys) else x
theorem mxL_ge : ∀ {ns : List Int} {y : Int}, y ∈ ns → y ≤ mxL ns
  | [x], y, h => by
    have : y = x := by simpa using h
    subst this; exact Int.le_refl _
  | x :: z :: ys, y, h => by
    show y ≤ if mxL (z :: ys) > x then mxL (z :: ys) else x
    rcases List.mem_cons.mp h with e | e
    · subst e; split <;> omega
    · have := mxL_ge e
      split <;> omega
theorem mxL_mem : ∀ {ns : List Int}, ns ≠ [] → mxL ns ∈ ns
  | [x], _ => by simp [mxL]
  | x :: z :: ys, _ => by
    show (if mxL (z :: ys) > x then mxL (z :: ys) else x) ∈ _
    split
    · exact List.mem_cons_of_mem _ (mxL_mem (by simp))
    · exact List.mem_cons_self ..
theorem mxL_eq {ns : List Int} {m : Int} (h : m ∈ ns) (g : ∀ y, y ∈ ns → y ≤ m) : m = mxL ns := by
  have a := mxL_ge h
  have b := g _ (mxL_mem (by intro e; rw [e] at h; cases h))
  omega
def rMaxT (K : PySem.W.Frag) : List V → Hp → VK → Prop := fun xs H Q => ∃ (a : Addr) (ns : List Int), xs = [.ref a] ∧ SqT K H a (ns.map V.int) ∧ 0 < ns.length ∧ Q (.int (mxL ns)) H
section
variable {X : Cx}
theorem cr_maxT (hc : X.calm = true) : CallR X (.builtin "max") (rMaxT X.K) := by
  intro pins s σ H xs us Q I rx h
  obtain ⟨a, ns, rfl, hs, hne, q⟩ := h
  rw [Vals.ref1 rx]
  obtain ⟨its, r, ht, hz⟩ := I.tuple hs
  have hln : ns.length = its.length := by have := r.length; rwa [List.length_map] at this
  have hP : ∀ (i : Nat) (v : Value), its.toArray[i]? = some v → ∃ t, v = .int (ns.getD i 0) t := fun i v hv => by
    have hv : its[i]? = some v := by simpa using hv
    have hi : i < ns.length := by rw [hln]; exact (List.getElem?_eq_some_iff.mp hv).1
    obtain ⟨u, e, ru⟩ := r.get (i := i) (x := V.int ns[i]) (by rw [List.getElem?_map, List.getElem?_eq_getElem hi]; rfl)
    rw [hv] at e
    cases e
    rw [List.getD_eq_getElem?_getD, List.getElem?_eq_getElem hi]
    exact ru
  have hlt : a < s.heap.objs.size := by obtain ⟨_, e, _⟩ := ht; exact Heap.lt_size e
  refine call_max_walk (iter_tuple ht ?_)
  have ht2 : IsTup (s.heap.push { cls := .type "tuple_iterator", data := .fields #[.ref a, .int 0 0] }) a its.toArray := ht.keeps fun b o e => Heap.get?_push_of_some _ e
  refine ⟨s.heap.objs.size, [s.heap.objs.size, a], [s.heap.objs.size], its.toArray.size, fun i v => its.toArray[i]? = some v, _, fun i j => decide (ns.getD i 0 > ns.getD j 0), rfl, Walks.tuple (A := X.A.in1) (show X.A.in1.handled = none from I.ok.hd hc) _ a (Nat.ne_of_lt hlt) its.toArray, ?_, fun b hb => ?_, by simp; omega, CmpOf.ints_gt (fun i => ns.getD i 0) hP, fun v h' tk hv hk => ?_⟩
  · refine ⟨⟨_, Heap.get?_push_size _ rfl, rfl, rfl⟩, ?_⟩
    exact ht2
  · show b < (s.heap.push _).objs.size
    rw [Heap.size_push]
    rcases List.mem_cons.mp hb with z | z
    · rw [z]; exact Nat.lt_succ_self _
    · rw [List.mem_singleton.mp z]; exact Nat.lt_succ_of_lt hlt
  · obtain ⟨t, rfl⟩ := hP _ _ hv
    obtain ⟨m1', m2'⟩ := argBest_gt (fun i => ns.getD i 0) (its.toArray.size - 1)
    have m1 : argBest (fun i j => decide (ns.getD i 0 > ns.getD j 0)) (its.toArray.size - 1) ≤ its.toArray.size - 1 := m1'
    have m2 : ∀ j, j ≤ its.toArray.size - 1 → ns.getD j 0 ≤ ns.getD (argBest (fun i j => decide (ns.getD i 0 > ns.getD j 0)) (its.toArray.size - 1)) 0 := m2'
    have hk2 : ∀ b o, s.heap.get? b = some o → h'.get? b = some o := fun b o e => hk b o (fun z => by rw [List.mem_singleton.mp z] at e; exact absurd (Heap.lt_size e) (Nat.lt_irrefl _)) (Heap.get?_push_of_some _ e)
    have hsz : its.toArray.size = ns.length := by simp [hln]
    have hm : ns.getD (argBest (fun i j => decide (ns.getD i 0 > ns.getD j 0)) (its.toArray.size - 1)) 0 = mxL ns := mxL_eq (PySem.getD_mem (by omega)) fun y hy => by
      obtain ⟨j, hj, e⟩ := List.mem_iff_getElem.mp hy
      have z := m2 j (by omega)
      have e3 : ns.getD j 0 = y := by rw [List.getD_eq_getElem?_getD, List.getElem?_eq_getElem hj, ← e] <;> rfl
      rw [e3] at z
      exact z
    rw [hm]
    exact ⟨.int _, H, I.kept (t' := tk) hk2, ⟨t, rfl⟩, q⟩
end
section
variable {G : Gx} {n0 : Nat} {W : WX}
def maxT (d : D) (μ : Mu) : Ro D := match d with
  | .tup ds => match intsD ds with
    | some (n :: ns) => some (.ok (.int (mxL (n :: ns))) μ)
    | _ => none
  | _ => none
def oMaxT : List D → Mu → Ro D
  | [d], μ => maxT d μ
  | _, _ => none
theorem drn_maxT : DRn G n0 W (rMaxT G.K) oMaxT := by
  intro w μ σ as xs c hn r q e Q f
  unfold oMaxT at e
  split at e <;> try cases e
  rename_i d
  unfold maxT at e
  split at e <;> try cases e
  rename_i ds
  split at e <;> cases e
  rename_i n ns hns
  obtain ⟨v, rfl, h⟩ := frs1 r
  obtain ⟨a, vs, rfl, m, hH, rs⟩ := h
  have ev := intsD_rel hns rs
  subst ev
  exact ⟨a, n :: ns, rfl, .of hH, by simp, f w _ (.refl c) rfl⟩
def slL (d : D) (lo hi : Option Int) (μ : Mu) : Ro D := match viewL μ d with
  | some xs => some (.ok (.lst (cutD xs lo hi)) μ)
  | none => none
def slL2 (d : D) (l : Option Int) (r : Ro (Option Int)) : Ro D := r.bnd fun u μ3 => slL d l u μ3
def slL1 (d : D) (r : Ro (Option Int)) (h : Mu → Ro (Option Int)) : Ro D := r.bnd fun l μ2 => slL2 d l (h μ2)
def slL0 (r : Ro D) (g h : Mu → Ro (Option Int)) : Ro D := r.bnd fun d μ1 => slL1 d (g μ1) h
def eSlL (f : Ev D) (lo hi : Ev (Option Int)) : Ev D := fun ρ μ => slL0 (f ρ μ) (lo ρ) (hi ρ)
theorem de_slL {t : TE} {tl th : TO} {f : Ev D} {lo hi : Ev (Option Int)} (h : DE G n0 W t f) (hl : DP G n0 W tl lo) (hh : DP G n0 W th hi) : DE G n0 W (tSl (rSlL G.K) t tl th) (eSlL f lo hi) := by
  intro w ρ μ σ c vr hn
  refine (h w ρ μ σ c vr hn).bnd (uu := fun x H1 Q => tl σ H1 fun l H2 => th σ H2 fun u H3 => rSlL G.K x l u H3 Q) fun w1 μ1 d x p1 r1 => ?_
  refine (hl w1 ρ μ1 σ p1.mc (vr.mono p1.ex) (p1.nn hn)).bnd (uu := fun l H2 Q => th σ H2 fun u H3 => rSlL G.K x l u H3 Q) fun w2 μ2 l l' p2 r2 => ?_
  have r2 : l' = l := r2
  subst r2
  refine (hh w2 ρ μ2 σ p2.mc ((vr.mono p1.ex).mono p2.ex) (p2.nn (p1.nn hn))).bnd (uu := fun u H3 Q => rSlL G.K x l' u H3 Q) fun w3 μ3 u u' p3 r3 => ?_
  have r3 : u' = u := r3
  subst r3
  intro q e Q fin
  have rd := (r1.mono p2.ex).mono p3.ex
  unfold slL at e
  split at e <;> cases e
  rename_i xs hv
  obtain ⟨a, vs, rfl, hs, rs⟩ := view_L p3.mc rd hv
  exact ⟨a, vs, rfl, hs, fun p hp => fin_fz p3.mc hp (fr_lst p3.mc hp (cut_rel rs l' u')) fin⟩
variable {ρ : Env} {μ : Mu}
@[simp] theorem eSlL_ap (f : Ev D) (lo hi : Ev (Option Int)) : eSlL f lo hi ρ μ = slL0 (f ρ μ) (lo ρ) (hi ρ) := rfl
@[simp] theorem slL0_ok (d : D) (g h : Mu → Ro (Option Int)) : slL0 (some (.ok d μ)) g h = slL1 d (g μ) h := rfl
@[simp] theorem slL1_ok (d : D) (l : Option Int) (h : Mu → Ro (Option Int)) : slL1 d (some (.ok l μ)) h = slL2 d l (h μ) := rfl
@[simp] theorem slL2_ok (d : D) (l u : Option Int) : slL2 d l (some (.ok u μ)) = slL d l u μ := rfl
@[simp] theorem slL_lst (xs : List D) (l u : Option Int) : slL (.lst xs) l u μ = some (.ok (.lst (cutD xs l u)) μ) := rfl
theorem slL_cell {k : Nat} {xs : List D} (h : μ[k]? = some (some (.lst xs))) (l u : Option Int) : slL (.cell k) l u μ = some (.ok (.lst (cutD xs l u)) μ) := by
  unfold slL
  rw [viewL_cell h]
theorem oMaxT_ok {n : Int} {ns : List Int} : oMaxT [.tup ((n :: ns).map D.int)] μ = some (.ok (.int (mxL (n :: ns))) μ) := by
  unfold oMaxT maxT
  simp only [intsD_map]
end
end G4

/-! G31: defs that raise, try with one clause, isinstance of what was caught. -/
namespace G4
open PySem PySem.Spec PyProof.Rows L2
/-- the def x of n arguments means m; calls of it may raise -/
structure DfX (P : Program) (w : World) (K : PySem.W.Frag) (mg : Str → Option Value) (base : Heap) (C : Ct) (k : Nat) (x : Str) (n : Nat) (m : Fd) : Prop where
  ex : ∃ (f : Addr) (fd : FuncData) (ps : List Str), FnOk P w K mg base (L2.CX P w) k f fd ps (spD ⟨K, C⟩ n m) ∧ mg x = some (.ref f) ∧ PySem.W.keepIn K (.ref f) = true ∧ Binds K fd ps []
/-- a class of exceptions that are made with a text alone -/
structure ExT (K : PySem.W.Frag) (mg : Str → Option Value) (C : Ct) (x : Str) (a : Addr) : Prop where
  cls : C.cls x = .ref a
  g : mg x = some (.ref a)
  x : PySem.W.excIn K a [.type "ValueError", .type "Exception", .type "BaseException", .type "object"] "ValueError.__new__" = true
  k : PySem.W.keepIn K (.ref a) = true
  b : PySem.W.subIn K (.ref a) (.type "BaseException") = some true
  t : PySem.W.typeIn K (.ref a) = some (.type "type")
  e : ExcC K a
section
variable {P : Program} {w : World} {K : PySem.W.Frag} {mg : Str → Option Value} {base : Heap} {C : Ct}
theorem df_ofX {x : Str} {st : Stmt} {N ps : List Str} {k n : Nat} {body : Nat → Sv} (T : DefAt K mg x st ps) (S : FnScope N ps (defScope st)) (hn : ps.length = n) (hN : n ≤ N.length)
    (h : ∀ (X : Cx) (f : Addr) (A : Around) (s : Shared) (H : Hp) (E : XK) (outer : List PySem.Env) (cdv : Value), X = cxOf (L2.CX P w) P w K mg base N x (defScope st) f cdv A outer s H E → Room k X.A → Takes X (fun cls dx _ H => E cls dx H) → PassesOwn (model X.prog X.w) X.A X.env X.xe →
      ∃ t, PSs X (defBody st) t ∧ ∀ n0, DS ⟨K, C⟩ n0 (fun cls dx _ H => E cls dx H) t (body n0)) : DfX P w K mg base C (k + 1) x n (runD N.length body) := by
  obtain ⟨f, fd, F, hm, b⟩ := T.ex
  refine ⟨f, fd, ps, F.okX S (fun vs H Q E q => by rw [spD_len q, hn]) (fun cdv A outer s H vs Q E hr q => ?_), hm, F.kp, b⟩
  obtain ⟨t, h1, h2⟩ := h _ f A s H E outer cdv rfl hr (takes_of rfl rfl rfl rfl) (passes_of rfl)
  exact ⟨t, h1, def_reads h2 hN q⟩
theorem df_ofCX {x : Str} {st : Stmt} {N ps : List Str} {k n : Nat} {c : Addr} {body : Nat → Sv} (T : DefAtC K mg x st ps c) (S : FnScope N ps (defScope st)) (hn : ps.length = n) (hN : n ≤ N.length)
    (h : ∀ (X : Cx) (f : Addr) (A : Around) (s : Shared) (H : Hp) (E : XK) (outer : List PySem.Env) (cdv : Value), X = cxOf (L2.CX P w) P w K mg base N x (defScope st) f (.ref c) A outer s H E → Room k X.A → Takes X (fun cls dx _ H => E cls dx H) → PassesOwn (model X.prog X.w) X.A X.env X.xe →
      ∃ t, PSs X (defBody st) t ∧ ∀ n0, DS ⟨K, C⟩ n0 (fun cls dx _ H => E cls dx H) t (body n0)) : DfX P w K mg base C (k + 1) x n (runD N.length body) := by
  obtain ⟨f, oc, od, kV, doc, pm, an, ct, osl, lk, hcd, hkp, hm, hb⟩ := T.ex
  refine ⟨f, _, ps, fn_of lk hcd S (fun vs H Q E q => by rw [spD_len q, hn]) fun A outer s H vs Q E hr q => ?_, hm, hkp, hb⟩
  obtain ⟨t, h1, h2⟩ := h _ f A s H E outer .none rfl hr (takes_of rfl rfl rfl rfl) (passes_of rfl)
  exact ⟨t, h1, def_reads h2 hN q⟩
end
/-! raise -/
section
variable {X : Cx} {W : WX} {x m : Str} {a : Addr} {C : Ct} {j : Nat} {p p2 pos pos2 : Pos}
theorem ps_raiseT (hc : X.calm = true) (tk : Takes X W) (T : ExT X.K X.mg C x a) (hg : Gl X x) (hdb : (x == ("__debug__" : Str)) = false := by decide) : PS X (.Raise (some (.Call (.Name x p) [.Constant (.str m) j p2] [] pos)) none pos2) (fun _ σ H => W (C.cls x) none σ H) := by
  rw [T.cls]
  exact ps_raise hc tk (pmk_own PySem.F.excBase_ValueError T.x T.g T.k (raises_own T.b T.t) hg hdb)
end
section
variable {G : Gx} {n0 : Nat} {W : WX}
def sRaise (c : Str) : Sv := fun ρ μ => some (.ex ⟨c, []⟩ ρ μ)
theorem ds_raise {c : Str} : DS G n0 W (fun _ σ H => W (G.C.cls c) none σ H) (sRaise c) := by
  intro w ρ μ σ hc vr hn fl e E fin
  cases e
  exact fin w σ (G.C.cls c) none (.refl hc) vr ⟨rfl, rfl⟩
@[simp] theorem sRaise_ap {ρ : Env} {μ : Mu} (c : Str) : sRaise c ρ μ = some (.ex ⟨c, []⟩ ρ μ) := rfl
/-! try: .. except X as n: suite -/
def clr (i : Nat) : Fl → Option Fl
  | .nx ρ μ => some (.nx (ρ.set i none) μ)
  | .bk ρ μ => some (.bk (ρ.set i none) μ)
  | .ct ρ μ => some (.ct (ρ.set i none) μ)
  | .rt d μ => some (.rt d μ)
  | .ex _ _ _ => none
noncomputable def suiteR (i : Nat) (f : Addr → Option Fl) : Option Fl := open Classical in
  if h : ∃ fl, ∀ a, (f a).bind (clr i) = some fl then some h.choose else none
theorem suiteR_some {i : Nat} {f : Addr → Option Fl} {fl : Fl} (h : suiteR i f = some fl) : ∀ a, (f a).bind (clr i) = some fl := by
  unfold suiteR at h
  split at h
  · rename_i q
    cases h
    exact q.choose_spec
  · cases h
theorem suiteR_ok {i : Nat} {f : Addr → Option Fl} {fl : Fl} (h : ∀ a, (f a).bind (clr i) = some fl) : suiteR i f = some fl := by
  have q : ∃ fl, ∀ a, (f a).bind (clr i) = some fl := ⟨fl, h⟩
  unfold suiteR
  rw [dif_pos q]
  have := (q.choose_spec 0).symm.trans (h 0)
  exact this
noncomputable def sTryAs (names : List Str) (i : Nat) (body : Sv) (suite : Addr → Str → Sv) : Sv := fun ρ μ => match body ρ μ with
  | some (.ex x ρ1 μ1) => if x.cls ∈ names ∧ x.fs.isEmpty = true then suiteR i fun a => suite a x.cls (ρ1.set i (some (.exn a))) μ1 else none
  | r => r
theorem vr_unset {K : PySem.W.Frag} {w : Hw} {ρ : Env} {σ : L2.St} (v : Vr K w ρ σ) (i : Nat) : Vr K w (ρ.set i none) (σ.set i none) := by
  refine ⟨by rw [List.length_set, List.length_set]; exact v.len, fun j e q => ?_⟩
  by_cases h : i = j
  · subst h
    have hl : i < (ρ.set i none).length := (List.getElem?_eq_some_iff.mp q).1
    rw [List.length_set] at hl
    rw [List.getElem?_set_self hl] at q
    cases q
  · rw [List.getElem?_set_ne h] at q
    rw [List.getElem?_set_ne h]
    exact v.at_ j e q
theorem fin_clr {w : Hw} {μ : Mu} {i : Nat} {D : Ends} {f0 fl : Fl} (h : clr i f0 = some fl) (fin : FinS G n0 W w μ D fl) :
    FinS G n0 (fun _ _ _ _ => False) w μ { nx := fun σ' H' => D.nx (σ'.set i none) H', rt := D.rt, bk := fun σ' H' => D.bk (σ'.set i none) H', ct := fun σ' H' => D.ct (σ'.set i none) H' } f0 := by
  cases f0 <;> cases h
  · exact fun w' σ' p v => fin w' _ p (vr_unset v i)
  · exact fun w' σ' p v => fin w' _ p (vr_unset v i)
  · exact fun w' σ' p v => fin w' _ p (vr_unset v i)
  · exact fun w' v p r => fin w' v p r
theorem ds_try_as {tb : WX → TS} {body : Sv} {ts : Addr → Value → Option Addr → TS} {suite : Addr → Str → Sv} {i : Nat} {c0 : Value} (names : List Str) (hb : ∀ W', DS G n0 W' (tb W') body) (hex : ∀ c ∈ names, PySem.W.exmOne G.K (G.C.cls c) c0 = some true)
    (hs : ∀ c ∈ names, ∀ a, DS G n0 (fun _ _ _ _ => False) (ts a (G.C.cls c) none) (suite a c)) : DS G n0 W (fun D σ H => tb (wAs G.K c0 i ts (fun _ _ _ _ => False) D) D σ H) (sTryAs names i body suite) := by
  intro w ρ μ σ c vr hn fl e D fin
  unfold sTryAs at e
  cases hbd : body ρ μ with
  | none => rw [hbd] at e; cases e
  | some fb =>
    rw [hbd] at e
    refine hb _ w ρ μ σ c vr hn _ hbd D ?_
    cases fb with
    | nx ρ1 μ1 => cases e; exact fun w' σ' p v => fin w' σ' p v
    | bk ρ1 μ1 => cases e; exact fun w' σ' p v => fin w' σ' p v
    | ct ρ1 μ1 => cases e; exact fun w' σ' p v => fin w' σ' p v
    | rt d μ1 => cases e; exact fun w' v p r => fin w' v p r
    | ex x ρ1 μ1 =>
      have e : (if x.cls ∈ names ∧ x.fs.isEmpty = true then suiteR i fun a => suite a x.cls (ρ1.set i (some (.exn a))) μ1 else none) = some fl := e
      split at e <;> rename_i hx
      · intro w' σ' cls dx p v xr
        have hfs : x.fs = [] := by simpa using hx.2
        obtain ⟨rfl, xr⟩ := xr
        rw [hfs] at xr
        have xr : dx = none := xr
        subst xr
        refine ⟨true, hex _ hx.1, fun _ a _ => ?_, fun z => nomatch z⟩
        have es := suiteR_some e a
        cases hsu : suite a x.cls (ρ1.set i (some (.exn a))) μ1 with
        | none => rw [hsu] at es; cases es
        | some f0 =>
          rw [hsu] at es
          exact hs _ hx.1 a w' _ μ1 _ p.mc (v.set (i := i) (d := .exn a) (v := .ref a) rfl) (p.nn hn) _ hsu _ (fin_clr es (fin.post p))
      · cases e
/-! try: .. except X: suite -/
noncomputable def sTryO (names : List Str) (body : Sv) (suite : Str → Sv) : Sv := fun ρ μ => match body ρ μ with
  | some (.ex x ρ1 μ1) => if x.cls ∈ names ∧ x.fs.isEmpty = true then (match suite x.cls ρ1 μ1 with
    | some (.ex _ _ _) => none
    | r => r) else none
  | r => r
theorem fin_noex {w : Hw} {μ : Mu} {D : Ends} {fl : Fl} (h : ∀ x ρ μ, fl ≠ .ex x ρ μ) (fin : FinS G n0 W w μ D fl) : FinS G n0 (fun _ _ _ _ => False) w μ D fl := by
  cases fl with
  | ex x ρ μ => exact absurd rfl (h x ρ μ)
  | nx _ _ => exact fun w' σ' p v => fin w' σ' p v
  | bk _ _ => exact fun w' σ' p v => fin w' σ' p v
  | ct _ _ => exact fun w' σ' p v => fin w' σ' p v
  | rt _ _ => exact fun w' v p r => fin w' v p r
theorem ds_try_only {tb : WX → TS} {body : Sv} {ts : Addr → Value → Option Addr → TS} {suite : Str → Sv} {c0 : Value} (names : List Str) (hb : ∀ W', DS G n0 W' (tb W') body) (hex : ∀ c ∈ names, PySem.W.exmOne G.K (G.C.cls c) c0 = some true)
    (hs : ∀ c ∈ names, ∀ a, DS G n0 (fun _ _ _ _ => False) (ts a (G.C.cls c) none) (suite c)) : DS G n0 W (fun D σ H => tb (wOnly G.K c0 ts (fun _ _ _ _ => False) D) D σ H) (sTryO names body suite) := by
  intro w ρ μ σ c vr hn fl e D fin
  unfold sTryO at e
  cases hbd : body ρ μ with
  | none => rw [hbd] at e; cases e
  | some fb =>
    rw [hbd] at e
    refine hb _ w ρ μ σ c vr hn _ hbd D ?_
    cases fb with
    | nx ρ1 μ1 => cases e; exact fun w' σ' p v => fin w' σ' p v
    | bk ρ1 μ1 => cases e; exact fun w' σ' p v => fin w' σ' p v
    | ct ρ1 μ1 => cases e; exact fun w' σ' p v => fin w' σ' p v
    | rt d μ1 => cases e; exact fun w' v p r => fin w' v p r
    | ex x ρ1 μ1 =>
      have e : (if x.cls ∈ names ∧ x.fs.isEmpty = true then (match suite x.cls ρ1 μ1 with
        | some (.ex _ _ _) => none
        | r => r) else none) = some fl := e
      split at e <;> rename_i hx
      · intro w' σ' cls dx p v xr
        have hfs : x.fs = [] := by simpa using hx.2
        obtain ⟨rfl, xr⟩ := xr
        rw [hfs] at xr
        have xr : dx = none := xr
        subst xr
        refine ⟨true, hex _ hx.1, fun _ a _ => ?_, fun z => nomatch z⟩
        split at e
        · cases e
        · rename_i hne
          exact hs _ hx.1 a w' _ μ1 _ p.mc v (p.nn hn) _ e D (fin_noex (fun y ρ2 μ2 z => hne y ρ2 μ2 (by rw [e, z])) (fin.post p))
      · cases e
theorem kit_own {K : PySem.W.Frag} {a c : Addr} {b : Bool} (hc : PySem.W.isClsIn K c = true) (ht : PySem.W.typeIn K (.ref c) = some (.type "type")) (hr : PySem.W.subIn K (.ref a) (.ref a) = some true) (hs : PySem.W.subIn K (.ref a) (.ref c) = some b) : PySem.W.kitOne K (.ref a) (.ref c) = some b := by
  unfold PySem.W.kitOne
  split
  · rename_i h
    have h : Value.ref a = Value.ref c := by simpa using h
    cases h
    rw [← hs, hr]
  · unfold PySem.W.kitCls
    have hc : (PySem.W.clsIn K c).isSome = true := hc
    simp only [hc, ht]
    simpa using hs
/-- classes by name -/
def clsOf : List (Str × Value) → Str → Value
  | [], _ => .none
  | (y, v) :: l, x => if x == y then v else clsOf l x
/-! isinstance of what was caught -/
def eIsE (a : Addr) (b : Bool) (f : Ev D) : Ev D := fun ρ μ => (f ρ μ).bnd fun d μ1 => match d with
  | .exn a' => if a' = a then some (.ok (.bl b) μ1) else none
  | _ => none
def tIsE (K : PySem.W.Frag) (a : Addr) (cls : Value) (d : Option Addr) (aT : Addr) (te : TE) : TE := fun σ H Q => d = none ∧ ∃ E : Addr, cls = .ref E ∧ ExcC K E ∧ tCB (rIsE K E a) (tCons te (tCons (tC (.ref aT)) tNil)) σ H Q
theorem de_isE {a aT : Addr} {cls : Value} {b : Bool} {te : TE} {f : Ev D} {E : Addr} (hc : cls = .ref E) (hE : ExcC G.K E) (hk : PySem.W.kitOne G.K (.ref E) (.ref aT) = some b) (h : DE G n0 W te f) : DE G n0 W (tIsE G.K a cls none aT te) (eIsE a b f) := by
  intro w ρ μ σ c vr hn r e Q fin
  refine ⟨rfl, E, hc, hE, ?_⟩
  refine (h w ρ μ σ c vr hn).bnd (uu := fun x H1 Q => rIsE G.K E a [x, .ref aT] H1 Q) (fun w1 μ1 d x p1 r1 => ?_) _ e Q fin
  intro q e Q fin
  split at e <;> try cases e
  rename_i a'
  split at e <;> rename_i ha <;> cases e
  subst ha
  have r1 : x = .ref a' := r1
  exact ⟨.ref aT, .ref aT, b, by rw [r1], fun u z => z, hk, fin w1 _ (.refl p1.mc) rfl⟩
@[simp] theorem eIsE_ap {ρ : Env} {μ : Mu} (a : Addr) (b : Bool) (f : Ev D) : eIsE a b f ρ μ = Ro.bnd (f ρ μ) fun d μ1 => match d with
  | .exn a' => if a' = a then some (.ok (.bl b) μ1) else none
  | _ => none := rfl
end
section
variable {X : Cx} {a aT : Addr} {cls : Value} {d : Option Addr} {oe : Obj} {pn : List (Addr × Obj)} {e : Expr} {te : TE} {T : Str} {p p2 pos : Pos}
theorem pe_isE (hz : Zc cls d oe) (hf : ∃ vs, oe.data = .fields vs) (hg : Gl X "isinstance") (hm : X.mg "isinstance" = none) (hb : bootBuiltins "isinstance" = some (.builtin "isinstance")) (hgT : Gl X T) (hT : X.mg T = some (.ref aT)) (h : PE (X.suite a ((a, oe) :: pn)) e te) (hdb : (T == ("__debug__" : Str)) = false := by decide)
    (hst : starEach [e, .Name T p2] X.env = (false, eval e X.env) :: starEach [.Name T p2] X.env := by rfl) (hpl : (backTo pos (starEach [.Name T p2] X.env)).any (·.1) = false := by rfl) :
    PE (X.suite a ((a, oe) :: pn)) (.Call (.Name "isinstance" p) [e, .Name T p2] [] pos) (tIsE X.K a cls d aT te) := by
  refine ⟨fun pins s σ H Q I q => ?_⟩
  obtain ⟨rfl, E, rfl, hE, q⟩ := q
  exact (pe_callB (X := X.suite a ((a, oe) :: pn)) (call_isE hE hz hf) hg hm hb (pa_cons h (pa_cons (pe_glob (v := .ref aT) hgT hT rfl hdb) pa_nil (hs := rfl)) (hs := hst)) (he := hst) (hpl := hpl)).run pins s σ H Q I q
end
end G4

/-! G32: a tuple whose lists become data once it is made. -/
namespace G4
open PySem PySem.Spec PyProof.Rows L2
section
variable {G : Gx} {n0 : Nat} {W : WX}
def frzT (d : D) (μ : Mu) : Ro D := match d with
  | .tup ds => match frzs (frz 4) ds μ with
    | some (es, μ2) => some (.ok (.tup es) μ2)
    | none => none
  | _ => none
def eFrzT (f : Ev D) : Ev D := fun ρ μ => (f ρ μ).bnd frzT
theorem de_frzT {t : TE} {f : Ev D} (h : DE G n0 W t f) : DE G n0 W t (eFrzT f) := by
  intro w ρ μ σ c vr hn r e Q fin
  rcases Ro.bnd_some e with ⟨d, μ1, e1, e2⟩ | ⟨x, μ1, e1, e2⟩
  · refine h w ρ μ σ c vr hn _ e1 _ fun w1 v p r1 => ?_
    unfold frzT at e2
    split at e2 <;> try cases e2
    rename_i ds
    split at e2 <;> cases e2
    rename_i es μ2 hf
    obtain ⟨a, vs, rfl, n, hH, rs⟩ := r1
    obtain ⟨w2, hH2, x2, c2, k2, f2⟩ := frzs_ok (frz_ok 4) ds w1 μ1 vs es μ2 p.mc rs hf
    rw [← hH2]
    exact fin w2 (.ref a) (p.trans ⟨x2, c2, k2 n0⟩) ⟨a, vs, rfl, x2.le _ n, by rw [hH2]; exact hH, f2⟩
  · subst e2
    exact h w ρ μ σ c vr hn _ e1 _ fun w1 cls dx p x => fin w1 cls dx p x
def frzL (d : D) (μ : Mu) : Ro D := match d with
  | .lst ds => match frzs (frz 4) ds μ with
    | some (es, μ2) => some (.ok (.lst es) μ2)
    | none => none
  | _ => none
def eFrzL (f : Ev D) : Ev D := fun ρ μ => (f ρ μ).bnd frzL
theorem de_frzL {t : TE} {f : Ev D} (h : DE G n0 W t f) : DE G n0 W t (eFrzL f) := by
  intro w ρ μ σ c vr hn r e Q fin
  rcases Ro.bnd_some e with ⟨d, μ1, e1, e2⟩ | ⟨x, μ1, e1, e2⟩
  · refine h w ρ μ σ c vr hn _ e1 _ fun w1 v p r1 => ?_
    unfold frzL at e2
    split at e2 <;> try cases e2
    rename_i ds
    split at e2 <;> cases e2
    rename_i es μ2 hf
    obtain ⟨a, vs, rfl, n, hH, rs⟩ := r1
    obtain ⟨w2, hH2, x2, c2, k2, f2⟩ := frzs_ok (frz_ok 4) ds w1 μ1 vs es μ2 p.mc rs hf
    rw [← hH2]
    exact fin w2 (.ref a) (p.trans ⟨x2, c2, k2 n0⟩) ⟨a, vs, rfl, x2.le _ n, by rw [hH2]; exact hH, f2⟩
  · subst e2
    exact h w ρ μ σ c vr hn _ e1 _ fun w1 cls dx p x => fin w1 cls dx p x
@[simp] theorem eFrzL_ap {ρ : Env} {μ : Mu} (f : Ev D) : eFrzL f ρ μ = Ro.bnd (f ρ μ) frzL := rfl
theorem frzL_1 {μ μ2 : Mu} {k : Nat} {d e : D} (h : frz 4 (.cell k) μ = some (e, μ2)) (p : d.pure = true) : frzL (.lst [.cell k, d]) μ = some (.ok (.lst [e, d]) μ2) := by
  simp only [frzL, frzs, h, frz_pure 4 d μ2 p]
@[simp] theorem eFrzT_ap {ρ : Env} {μ : Mu} (f : Ev D) : eFrzT f ρ μ = Ro.bnd (f ρ μ) frzT := rfl
theorem frzT_1 {μ μ2 : Mu} {k : Nat} {d e : D} (h : frz 4 (.cell k) μ = some (e, μ2)) (p : d.pure = true) : frzT (.tup [.cell k, d]) μ = some (.ok (.tup [e, d]) μ2) := by
  simp only [frzT, frzs, h, frz_pure 4 d μ2 p]
theorem frz_cell {μ : Mu} {k : Nat} {xs : List D} (h : μ[k]? = some (some (.lst xs))) (p : pures xs = true) : frz 4 (.cell k) μ = some (.lst xs, μ.set k none) := by
  rw [frz]
  simp only [h]
  rw [frzs_pure (fun d μ => frz_pure 3 d μ) p]
end
end G4

/-! G33: l.insert(i, x). -/
namespace G4
open PySem PySem.Spec PyProof.Rows L2
abbrev rInsert : V → List V → Hp → VK → Prop := fun x vs H Q => ∃ (l : Addr) (xs : List V) (i : Int) (y : V), x = .ref l ∧ vs = [.int i, y] ∧ H l = some (.lst xs) ∧ xs.length < sizeLine ∧ 0 ≤ i ∧ i < 2 ^ 63 ∧ Q .non (upd H l (.lst (xs.take i.toNat ++ [y] ++ xs.drop i.toNat)))
section
variable {G : Gx} {n0 : Nat} {W : WX}
noncomputable def oInsert (n0 : Nat) : Nat → List D → List D → Mu → Ro D := fun k xs as μ => match as with
  | [.int i, d] => if (decide (xs.length < 16777216) && (decide (n0 ≤ k) || d.pure)) && (decide (0 ≤ i) && rOk i) then some (.ok .non (μ.set k (some (.lst (xs.take i.toNat ++ [d] ++ xs.drop i.toNat))))) else none
  | _ => none
theorem dm_insert : DM G n0 W rInsert (oInsert n0) := by
  intro w μ σ k a xs vs as us c hn hm ha h1 h2 r q e Q f
  unfold oInsert at e
  split at e <;> try cases e
  rename_i i d
  split at e <;> rename_i hs <;> cases e
  simp only [Bool.and_eq_true] at hs
  obtain ⟨⟨hs1, hs2⟩, h0, hr⟩ := hs
  have h0 : 0 ≤ i := of_decide_eq_true h0
  rw [rOk_iff] at hr
  obtain ⟨x, v, rfl, fi, fr⟩ := frs2 r
  have fi : x = .int i := fi
  subst fi
  refine ⟨a, vs, i, v, rfl, rfl, h1, by rw [h2.length]; exact small_ok' hs1, h0, by omega, ?_⟩
  refine f (w.wr a (.lst (vs.take i.toNat ++ [v] ++ vs.drop i.toNat))) .non (wr_lst (d := d) c hm ha (((h2.take _).append (Frs.one fr)).append (h2.drop _)) fun z hz => ?_) rfl
  rcases List.mem_append.mp hz with hz | hz
  · rcases List.mem_append.mp hz with hz | hz
    · exact .inl (List.mem_of_mem_take hz)
    · have : z = d := by simpa using hz
      subst this
      exact .inr hs2
  · exact .inl (List.mem_of_mem_drop hz)
theorem oInsert_ok {μ : Mu} {n0 k : Nat} {xs : List D} {i : Int} {d : D} (h : xs.length < 16777216) (p : (decide (n0 ≤ k) || d.pure) = true) (h0 : 0 ≤ i) (hr : rOk i = true) : oInsert n0 k xs [.int i, d] μ = some (.ok .non (μ.set k (some (.lst (xs.take i.toNat ++ [d] ++ xs.drop i.toNat))))) := by
  simp only [oInsert, p, decide_eq_true h, decide_eq_true h0, hr]
  rfl
end
end G4

/-! G34: sets of whole numbers that are kept: set(), {.. for ..}, add, in, sorted. -/
namespace G4
open PySem PySem.Spec PyProof.Rows L2
section
variable {P : Program} {w : World} {A : Around} {E : Value → Shared → Prop} {s : Shared} {a : Addr}
/-- sorted(set), any number of members (as HandS.Set's own, over the sort of any length) -/
theorem sorted_setB {S : Int → Bool} {n : Nat} {Q : Value → Shared → Prop} (R : SetR w s.heap a S n) (hh : A.handled = none) (hs : n ≤ sizeLine)
    (hQ : ∀ s' p (out : Array Value) (c : Nat) (ns : List Int), (∀ b o, s.heap.get? b = some o → s'.heap.get? b = some o) → s'.gens = s.gens → s'.os = s.os → s.heap.objs.size ≤ p →
      s'.heap.get? p = some (seqObj "list" out c) → IntsAre out.toList ns → ns.Pairwise (· < ·) → (∀ k, k ∈ ns ↔ S k = true) → ns.length = n → Q (.ref p) s') :
    wpAny (model P w) A (call (.builtin "sorted") [.ref a]) Q E s := by
  obtain ⟨o, es, ep, t, ho, hex, hd, g, nd, hm, hb, hf, hn, hr, hl⟩ := R
  refine Calls.call_function_entry kind_sorted plain_sorted entry_sorted (args_sorted1 _) ?_
  unfold Builtin.«sorted»
  refine wpAny_bind (m := checkCount "sorted" 1 1 _) (wpAny_pure ?_)
  refine wpAny_bind (collect_set (A := A.in1) hh ⟨o, ho, hex.1, hd⟩ hf hb hr hl fun s1 vs k1 hz g1 o1 pm => ?_)
  have hvl : vs.length = n := by rw [pm.length_eq, List.length_map, Array.length_toList]; exact hn
  have hI : IntsAre vs (vs.map Builtin.Re.reRawOf) := ints_of vs fun v hv => by
    obtain ⟨e, he, q⟩ := List.mem_map.mp (pm.mem_iff.mp hv)
    obtain ⟨k, tk, h1, _⟩ := g e he
    exact ⟨k, tk, by rw [← q]; exact h1⟩
  have pk : (vs.map Builtin.Re.reRawOf).Perm (es.toList.map L2.keyOf) := by
    have q := pm.map Builtin.Re.reRawOf
    rw [List.map_map] at q
    exact q
  refine wpAny_bind (wpAny_newList ?_ (by rw [hvl]; exact hs))
  have hoL : (s1.heap.push (seqObj "list" vs.toArray 0)).get? s1.heap.objs.size = some (seqObj "list" vs.toArray 0) := Heap.get?_push_size _ rfl
  refine wpAny_bind (wpAny_holding (wpAny_call_entry slot_list_sort ⟨_, hoL, rfl⟩ entry_list_sort
    (SrtO.list_sort_ord SrtO.swo_int hoL (by rw [hvl]; exact hs) (fun h2 => SrtO.ints_sortable hI h2) fun out h1 h2 => ⟨_, rfl, ?_⟩) (args_list_sort _)))
  obtain ⟨q1, q2, q3⟩ := SrtO.ints_out hI h1 h2
  obtain ⟨c, hc⟩ := sortedHeap_at (vs := vs) (out := out.toArray) hoL
  have pn : (out.map SrtO.iv).Perm (es.toList.map L2.keyOf) := q2.trans pk
  refine wpAny_pure ⟨_, rfl, hQ _ s1.heap.objs.size out.toArray c (out.map SrtO.iv) (fun b u e => ?_) g1 o1 hz hc q1 (lt_of_le_nodup _ q3 (pn.nodup_iff.mpr nd)) (fun k => by rw [pn.mem_iff, ← hm k]) ?_⟩
  · have q := k1 b u e
    have hlt := Heap.lt_size q
    show (sortedHeap (s1.heap.push (seqObj "list" vs.toArray 0)) s1.heap.objs.size vs out.toArray).get? b = some u
    rw [sortedHeap_old (Nat.ne_of_lt hlt) (by rw [size_push']; exact Nat.lt_succ_of_lt hlt)]
    exact Heap.get?_push_of_some _ q
  · rw [pn.length_eq, List.length_map, Array.length_toList]; exact hn
end
section
variable {X : Cx}
def rSortedSetB (w : World) : List V → Hp → VK → Prop := fun vs H Q => ∃ (a : Addr) (S : Int → Bool) (n : Nat), vs = [V.ref a] ∧ H a = some (SetO w a S n) ∧ n ≤ 4000 ∧
  ∀ (ns : List Int) (p : Addr), ns.Pairwise (· < ·) → (∀ k : Int, k ∈ ns ↔ S k = true) → ns.length = n → H p = none → Q (.ref p) (upd H p (.lst (ns.map V.int)))
theorem cr_sortedSetB (hc : X.calm = true) : CallR X (.builtin "sorted") (rSortedSetB X.w) := by
  intro pins s σ H vs us Q I r h
  obtain ⟨a, S, n, rfl, ha, h64, q⟩ := h
  have R := setO_get I ha
  rw [Vals.ref1 r]
  refine sorted_setB R (I.ok.hd hc) (by rw [sizeLine_eq]; omega) fun s' p out c ns k g o hp hg hi hs hm hl => ?_
  have hlen : (ns.map V.int).length ≤ sizeLine := by rw [List.length_map, hl, sizeLine_eq]; omega
  have hn : H p = none := I.hok.fresh hp
  have J : Inv X pins σ (upd H p (.lst (ns.map V.int))) { s with heap := s'.heap, gens := s'.gens, drawn := s'.drawn, toks := s'.toks } :=
    I.call (ch := []) (Un.laid k hp hn) (I.hok.laid k hp ⟨hlen, out.toList, c, vals_of_ints hi, hg⟩) (by rw [g]; exact I.bare) (fun _ z => nomatch z)
  have e : s' = { s with heap := s'.heap, gens := s'.gens, drawn := s'.drawn, toks := s'.toks } := by
    cases s'
    cases s
    cases o
    rfl
  rw [e]
  exact ⟨.ref p, _, J, rfl, q ns p hs hm hl hn⟩
end
section
variable {G : Gx} {n0 : Nat} {W : WX} {wd : World}
/-! set() -/
def eNewS : Ev D := fun _ μ => some (.ok (.cell μ.length) (μ ++ [some (.set [])]))
theorem de_newS (hw : G.C.wld = wd) : DE G n0 W (tCB (rSet0 wd) tNil) eNewS := by
  intro w ρ μ σ c vr hn r e Q f
  cases e
  subst hw
  exact ⟨rfl, fun p hp => fin_mk (m := .set []) c hn hp ⟨fun _ => false, 0, upd_same, Nat.le_refl _, fun k => by simp⟩ f⟩
/-! s.add(x) -/
def sadd2 (c : Nat) (as : List D) (μ : Mu) : Ro D := match as, μ[c]? with
  | [.int k], some (some (.set xs)) => if xs.length < 4000 then some (.ok .non (μ.set c (some (.set (xs ++ [k]))))) else none
  | _, _ => none
def sadd1 (r : Ro D) (k : Mu → Ro (List D)) : Ro D := r.bnd fun o μ1 => match o with
  | .cell c => (match μ1[c]? with
    | some (some (.set _)) => (k μ1).bnd (sadd2 c)
    | _ => none)
  | _ => none
def eSAdd (f : Ev D) (g : Ev (List D)) : Ev D := fun ρ μ => sadd1 (f ρ μ) (g ρ)
theorem de_sadd {to : TE} {t : TA} {f : Ev D} {g : Ev (List D)} (hw : G.C.wld = wd) (h : DE G n0 W to f) (k : DA G n0 W t g) : DE G n0 W (tSAdd wd to t) (eSAdd f g) := by
  intro w ρ μ σ c vr hn
  subst hw
  refine (h w ρ μ σ c vr hn).bnd (uu := fun x H1 (Q : VK) => (∃ a S n, x = V.ref a ∧ H1 a = some (SetO G.C.wld a S n)) ∧ t σ H1 fun xs H2 => rSAdd G.C.wld x xs H2 Q) fun w1 μ1 o x p1 r1 => ?_
  intro q e Q fin
  split at e <;> try cases e
  rename_i k'
  split at e <;> try cases e
  rename_i ys hm
  obtain ⟨a, rfl, ha⟩ := r1
  obtain ⟨⟨S, n, h1, _⟩, _⟩ := p1.mc.cell k' _ a hm ha
  refine ⟨⟨a, S, n, rfl, h1⟩, ?_⟩
  have := (k w1 ρ μ1 σ p1.mc (vr.mono p1.ex) (p1.nn hn)).bnd (R' := Fr G.K) (uu := fun xs H2 (Q : VK) => rSAdd G.C.wld (.ref a) xs H2 Q) (g := sadd2 k') fun w2 μ2 as us p2 r2 => ?_
  · exact this q e Q fin
  · intro q e Q fin
    unfold sadd2 at e
    split at e <;> try cases e
    rename_i i xs hm2
    split at e <;> rename_i hl <;> cases e
    have ha2 := p2.ex.pre _ _ ha
    obtain ⟨⟨S2, n2, g1, g2, g3⟩, _⟩ := p2.mc.cell k' _ a hm2 ha2
    obtain ⟨v, rfl, fr⟩ := frs1 r2
    have fr : v = .int i := fr
    subst fr
    refine ⟨a, i, S2, n2, rfl, rfl, g1, by unfold scanBound; omega, ?_⟩
    refine fin (w2.wr a _) .non ⟨Ex.wr p2.mc hm2 ha2, Mc.wr (m' := .set (xs ++ [i])) p2.mc hm2 ha2 ⟨_, _, upd_same, ?_, fun j => ?_⟩, Kp.wr fun _ _ _ _ => rfl⟩ rfl
    · rw [List.length_append, List.length_singleton]
      split <;> omega
    · show (S2 j || decide (j = i)) = _
      rw [g3 j]
      by_cases h1 : j ∈ xs <;> by_cases h2 : j = i <;> simp [h1, h2]
/-! x in s -/
def oSIn (neg : Bool) (a b : D) (μ : Mu) : Ro D := match a, b with
  | .int k, .cell c => (match μ[c]? with
    | some (some (.set xs)) => some (.ok (.bl (neg ^^ decide (k ∈ xs))) μ)
    | _ => none)
  | _, _ => none
theorem dr_sin (hw : G.C.wld = wd) : DR2 G n0 W (rSIn wd) (oSIn false) := by
  intro w μ σ a x b y c hn ra rb r e Q fin
  subst hw
  unfold oSIn at e
  split at e <;> try cases e
  rename_i k q
  split at e <;> try cases e
  rename_i xs hm
  obtain ⟨p, rfl, ha⟩ := rb
  obtain ⟨⟨S, n, h1, _, h3⟩, _⟩ := c.cell q _ p hm ha
  have ra : x = .int k := ra
  exact ⟨k, p, S, n, ra, rfl, h1, fin w _ (.refl c) (by rw [h3]; simp [Fr])⟩
theorem dr_snotin (hw : G.C.wld = wd) : DR2 G n0 W (rSNotIn wd) (oSIn true) := by
  intro w μ σ a x b y c hn ra rb r e Q fin
  subst hw
  unfold oSIn at e
  split at e <;> try cases e
  rename_i k q
  split at e <;> try cases e
  rename_i xs hm
  obtain ⟨p, rfl, ha⟩ := rb
  obtain ⟨⟨S, n, h1, _, h3⟩, _⟩ := c.cell q _ p hm ha
  have ra : x = .int k := ra
  exact ⟨k, p, S, n, ra, rfl, h1, fin w _ (.refl c) (by rw [h3]; simp [Fr])⟩
/-! sorted(s) -/
def srtV (d : D) (μ : Mu) : Ro D := match d with
  | .cell c => (match μ[c]? with
    | some (some (.set xs)) => if xs.length ≤ 4000 then some (.ok (.lst ((srt xs).map D.int)) μ) else none
    | _ => none)
  | _ => none
def eSrtV (f : Ev D) : Ev D := fun ρ μ => (f ρ μ).bnd srtV
theorem de_srtV {t : TE} {f : Ev D} (hw : G.C.wld = wd) (h : DE G n0 W t f) : DE G n0 W (tCB (rSortedSetB wd) (tCons t tNil)) (eSrtV f) := fun w ρ μ σ c vr hn =>
  (h w ρ μ σ c vr hn).bnd (uu := fun x H1 (Q : VK) => rSortedSetB wd [x] H1 Q) fun w1 μ1 d x p1 r1 => by
    intro q e Q fin
    subst hw
    unfold srtV at e
    split at e <;> try cases e
    rename_i k
    split at e <;> try cases e
    rename_i xs hm
    split at e <;> rename_i hl <;> cases e
    obtain ⟨a, rfl, ha⟩ := r1
    obtain ⟨⟨S, n, h1, h2, h3⟩, _⟩ := p1.mc.cell k _ a hm ha
    refine ⟨a, S, n, rfl, h1, by omega, fun ns p hs hmem hln hp => ?_⟩
    have e : ns = srt xs := sorted_ext hs (srt_sorted xs) fun k => by rw [hmem k, mem_srt, h3 k]; simp
    subst e
    exact fin_fz p1.mc hp (fr_lst p1.mc hp (frs_ints _)) fin
/-! {.. for ..} that is kept -/
def setR1 (n : Mu → Nat) (r : Ro (List Int)) : Ro D := match r with
  | some (.ok js μ) => if js.length ≤ 4000 then some (.ok (.cell μ.length) (μ ++ [some (.set js)])) else none
  | _ => none
def set1 (tg : Tv) (tt : Ev Bool) (body : Ev (List Int)) (ρ : Env) (s : Src) (μ : Mu) : Ro D := match s with
  | .its ds => setR1 List.length (compI tg tt body ρ ds μ)
  | .cel _ => none
def eSetC (fi : Ev Src) (tg : Tv) (tt : Ev Bool) (body : Ev (List Int)) (vs : List Nat) : Ev D := fun ρ μ => (fi ρ μ).bnd (set1 tg tt body (wipeE ρ vs))
theorem de_setC {wi : TI} {g : TG} {t : TT} {act : Act} {fi : Ev Src} {tg : Tv} {ft : Ev Bool} {body : Ev (List Int)} {vs : List Nat} (hw : G.C.wld = wd) (hi : DI G n0 W wi fi) (hg : DG G n0 W0 g tg) (ho : Own g vs) (hm : Mono g) (ht : DT G n0 W0 t ft) (ha : DAct G n0 wd act body) :
    DE G n0 W (tSetG wd wi g t act vs) (eSetC fi tg ft body vs) := by
  intro w ρ μ σ c vr hn r e Q fin
  rcases Ro.bnd_some e with ⟨src, μ1, e1, e2⟩ | ⟨x, μ1, e1, e2⟩
  · refine hi w ρ μ σ c vr hn _ e1 _ fun w1 J p1 y => ?_
    intro D hD
    unfold set1 at e2
    split at e2 <;> try cases e2
    rename_i ds
    unfold setR1 at e2
    split at e2 <;> try cases e2
    rename_i all μf h1
    split at e2 <;> rename_i hl <;> cases e2
    refine ⟨fun i m H' => ∃ w' μ2 ys zs, w'.H = H' ∧ m = (ds.drop i).length ∧ Ex w1 w' ∧ Mc G w' μ2 ∧ Kp n0 μ1 μ2 ∧ Hid w' D (SI wd D ys) ∧ compI tg ft body (wipeE ρ vs) (ds.drop i) μ2 = some (.ok zs μf) ∧ ys ++ zs = all, ?_, ?_⟩
    · obtain ⟨a, b, d⟩ := Hid.new (o := SI wd D []) p1.mc hD
      rw [← SI_nil]
      exact ⟨_, w1.wr D (SI wd D []), μ1, [], all, rfl, rfl, a, b, .refl _ _, d, h1, rfl⟩
    · rintro i m H' ⟨w', μ2, ys, zs, rfl, rfl, x', c', kp, h', e3, e4⟩
      obtain ⟨y1, y2⟩ := y w' μ2 x'.e0 c' ds rfl i
      cases hd : ds[i]? with
      | none =>
        have hle : ds.length ≤ i := by simpa using hd
        rw [List.drop_eq_nil_of_le hle] at e3
        cases e3
        rw [List.append_nil] at e4
        subst e4
        refine .inl ⟨y2 hle, ?_⟩
        obtain ⟨a, b, l⟩ := Hid.cel (m := .set ys) hD x' h' c' (by
          subst hw
          exact ⟨_, _, h'.at_, srt_len ys, fun k => rfl⟩)
        exact fin (w'.cel D) (.ref D) ⟨p1.ex.trans a, b, (p1.kp.trans kp).trans (.push (Nat.le_trans (p1.nn hn) kp.len) _)⟩ ⟨D, rfl, l⟩
      | some d =>
        have hil := (List.getElem?_eq_some_iff.mp hd).1
        have hdr : ds.drop i = d :: ds.drop (i + 1) := by
          rw [List.drop_eq_getElem_cons hil]
          congr 1
          rw [List.getElem?_eq_getElem hil] at hd
          exact Option.some.inj hd
        obtain ⟨go, yl⟩ := y1 d hd
        obtain ⟨N, hN⟩ : ∃ N : Hp → Prop, N = fun H' => ∃ w' μ2 ys zs, w'.H = H' ∧ (ds.drop (i + 1)).length = (ds.drop (i + 1)).length ∧ Ex w1 w' ∧ Mc G w' μ2 ∧ Kp n0 μ1 μ2 ∧ Hid w' D (SI wd D ys) ∧
          compI tg ft body (wipeE ρ vs) (ds.drop (i + 1)) μ2 = some (.ok zs μf) ∧ ys ++ zs = all := ⟨_, rfl⟩
        refine .inr ⟨go, N, fun H2 q => ?_, fun x H2 hy => ?_⟩
        · rw [hN] at q
          exact ⟨_, by rw [hdr]; exact Nat.lt_succ_self _, q⟩
        obtain ⟨w2, rfl, x2, c2, fr⟩ := yl x H2 hy
        have hn2 : n0 ≤ μ2.length := Nat.le_trans (p1.nn hn) kp.len
        rw [hdr] at e3
        unfold compI at e3
        split at e3 <;> try cases e3
        rename_i ρ1 μ3 h2
        have vr2 : Vr G.K w2 (wipeE ρ vs) (wipe σ vs) := (vr.mono (p1.ex.trans (x'.trans x2))).wipe vs
        refine hm _ _ _ _ _ (fun σ2 H2 q => ⟨q.1.trans (wipe_wipe σ vs), q.2⟩) (ho _ _ _ _ (hg w2 (wipeE ρ vs) μ2 (wipe σ vs) d x c2 vr2 hn2 fr _ h2 (fun σ2 H3 => t σ2 H3 fun b H4 => if b = true then act D σ2 H4 N else N H4) fun w3 σ3 p3 v3 => ?_))
        have hn3 := p3.nn hn2
        split at e3
        · rename_i μ4 h3
          refine ht w3 ρ1 μ3 σ3 p3.mc v3 hn3 _ h3 _ fun w4 b p4 r4 => ?_
          have r4 : b = true := r4
          subst r4
          rw [if_pos rfl]
          have hn4 := p4.nn hn3
          split at e3 <;> try cases e3
          rename_i js μ5 h4
          split at e3 <;> cases e3
          rename_i ks h5
          have x24 := (x2.trans p3.ex).trans p4.ex
          have hlen : ys.length + js.length ≤ 4000 := by
            have := congrArg List.length e4
            simp at this
            omega
          refine ha w1 w4 μ1 ρ1 μ4 σ3 ys js μ5 D N p1.mc hD (x'.trans x24) p4.mc (v3.mono p4.ex) hn4 (h'.ex x24) h4 hlen fun w5 a b c5 k5 f => ?_
          rw [hN]
          exact ⟨w5, μ5, ys ++ js, ks, rfl, rfl, a, c5, ((kp.trans p3.kp).trans p4.kp).trans k5, f, h5, by rw [← e4]; simp⟩
        · rename_i μ4 h3
          refine ht w3 ρ1 μ3 σ3 p3.mc v3 hn3 _ h3 _ fun w4 b p4 r4 => ?_
          have r4 : b = false := r4
          subst r4
          rw [if_neg Bool.false_ne_true]
          have x24 := (x2.trans p3.ex).trans p4.ex
          rw [hN]
          exact ⟨w4, μ4, ys, zs, rfl, rfl, x'.trans x24, p4.mc, (kp.trans p3.kp).trans p4.kp, h'.ex x24, e3, e4⟩
        · cases e3
  · subst e2
    exact hi w ρ μ σ c vr hn _ e1 _ fun w1 cls dx p x => fin w1 cls dx p x
/-! evaluation -/
variable {ρ : Env} {μ μ1 : Mu}
@[simp] theorem eNewS_ap : eNewS ρ μ = some (.ok (.cell μ.length) (μ ++ [some (.set [])])) := rfl
@[simp] theorem eSAdd_ap (f : Ev D) (g : Ev (List D)) : eSAdd f g ρ μ = sadd1 (f ρ μ) (g ρ) := rfl
theorem sadd1_ok {c : Nat} {k : Mu → Ro (List D)} {xs ys : List Int} {i : Int} (h : μ[c]? = some (some (.set xs))) (e : k μ = some (.ok [.int i] μ1)) (h2 : μ1[c]? = some (some (.set ys))) (hl : ys.length < 4000) : sadd1 (some (.ok (.cell c) μ)) k = some (.ok .non (μ1.set c (some (.set (ys ++ [i]))))) := by
  simp [sadd1, h, e, sadd2, h2, hl]
theorem oSIn_ok {c : Nat} {xs : List Int} (neg : Bool) (k : Int) (h : μ[c]? = some (some (.set xs))) : oSIn neg (.int k) (.cell c) μ = some (.ok (.bl (neg ^^ decide (k ∈ xs))) μ) := by
  simp [oSIn, h]
@[simp] theorem eSrtV_ap (f : Ev D) : eSrtV f ρ μ = Ro.bnd (f ρ μ) srtV := rfl
theorem srtV_ok {c : Nat} {xs : List Int} (h : μ[c]? = some (some (.set xs))) (hl : xs.length ≤ 4000) : srtV (.cell c) μ = some (.ok (.lst ((srt xs).map D.int)) μ) := by
  simp [srtV, h, hl]
@[simp] theorem eSetC_ap (fi : Ev Src) (tg : Tv) (tt : Ev Bool) (body : Ev (List Int)) (vs : List Nat) : eSetC fi tg tt body vs ρ μ = Ro.bnd (fi ρ μ) (set1 tg tt body (wipeE ρ vs)) := rfl
theorem set1_ok {tg : Tv} {tt : Ev Bool} {body : Ev (List Int)} {ds : List D} {js : List Int} (h : compI tg tt body ρ ds μ = some (.ok js μ1)) (hl : js.length ≤ 4000) : set1 tg tt body ρ (.its ds) μ = some (.ok (.cell μ1.length) (μ1 ++ [some (.set js)])) := by
  simp [set1, h, setR1, hl]
end
end G4

/-! G35: dicts whose keys are tuples, nested. -/
namespace G4
open PySem PySem.Spec PyProof.Rows L2
section
variable {G : Gx} {n0 : Nat} {W : WX} {wd : World}
def lkN (kvs : List (NestedKey × Int)) (k : NestedKey) : Option Int := (kvs.find? fun x => decide (x.1 = k)).map (·.2)
theorem lkN_look (xs : List Ent) (k : NestedKey) : lookN xs k = lkN (xs.map fun x => (x.1, x.2.2)) k := by
  unfold lookN lkN
  induction xs with
  | nil => rfl
  | cons x xs ih =>
    rw [List.map_cons]
    by_cases h : x.1 = k
    · rw [List.find?_cons_of_pos (by simpa using h), List.find?_cons_of_pos (by simpa using h)]; rfl
    · rw [List.find?_cons_of_neg (by simpa using h), List.find?_cons_of_neg (by simpa using h)]; exact ih
/-- a key that may be asked -/
def keyN (d : D) : Option NestedKey := match d, nkOf d with
  | .tup _, some k => if decide (k.depth ≤ 8) then some k else none
  | _, _ => none
theorem keyN_fr {K : PySem.W.Frag} {w : Hw} {d : D} {v : V} {k : NestedKey} (f : Fr K w d v) (h : keyN d = some k) : ∃ b, v = .ref b ∧ KeyO w.H k b ∧ EntF K w (k, b, 0) := by
  unfold keyN at h
  split at h
  · rename_i xs k' hk
    split at h <;> rename_i hd <;> cases h
    have hd : k.depth ≤ 8 := of_decide_eq_true hd
    obtain ⟨b, vs, rfl, r⟩ := f
    exact ⟨b, rfl, ⟨fr_key (d := .tup xs) ⟨b, vs, rfl, r⟩ hk, hd⟩, .tup xs, hk, hd, ⟨b, vs, rfl, r⟩⟩
  · cases h
theorem dng_of {w : Hw} {μ : Mu} {q : Nat} {kvs : List (NestedKey × Int)} {a : Addr} (c : Mc G w μ) (hm : μ[q]? = some (some (.dN kvs))) (ha : w.A[q]? = some a) (hl : kvs.length ≤ 1000000) :
    ∃ xs, DNg G.C.wld w.H a xs ∧ xs.map (fun x => (x.1, x.2.2)) = kvs ∧ ∀ x ∈ xs, EntF G.K w x := by
  obtain ⟨⟨xs, h, e, r⟩, _⟩ := c.cell q _ a hm ha
  refine ⟨xs, ⟨h, by rw [← e, List.length_map] at hl; exact hl, fun x hx => ?_⟩, e, r⟩
  obtain ⟨d, h1, h2, h3⟩ := r x hx
  exact ⟨fr_key h3 h1, h2⟩
/-! {} -/
def eNewN : Ev D := fun _ μ => some (.ok (.cell μ.length) (μ ++ [some (.dN [])]))
theorem de_newN (hw : G.C.wld = wd) : DE G n0 W (tDNNew wd) eNewN := by
  intro w ρ μ σ c vr hn r e Q f
  cases e
  subst hw
  exact fun p hp => fin_mk (m := .dN []) c hn hp ⟨[], upd_same, rfl, fun x hx => nomatch hx⟩ f
/-! k in d -/
def oDNIn (neg : Bool) (a b : D) (μ : Mu) : Ro D := match keyN a, b with
  | some k, .cell c => (match μ[c]? with
    | some (some (.dN kvs)) => if kvs.length ≤ 1000000 then some (.ok (.bl (neg ^^ (lkN kvs k).isSome)) μ) else none
    | _ => none)
  | _, _ => none
theorem dr_dnIn (neg : Bool) (hw : G.C.wld = wd) : DR2 G n0 W (rDNIn wd neg) (oDNIn neg) := by
  intro w μ σ a x b y c hn ra rb r e Q fin
  subst hw
  unfold oDNIn at e
  split at e <;> try cases e
  rename_i k q hk
  split at e <;> try cases e
  rename_i kvs hm
  split at e <;> rename_i hl <;> cases e
  obtain ⟨p, rfl, ha⟩ := rb
  obtain ⟨bb, rfl, ko, _⟩ := keyN_fr ra hk
  obtain ⟨xs, g, e, _⟩ := dng_of c hm ha hl
  exact ⟨p, bb, xs, k, rfl, rfl, g, ko, fin w _ (.refl c) (by rw [lkN_look, e]; simp [Fr])⟩
/-! d[k] -/
def dnget (d e : D) (μ : Mu) : Ro D := match d, keyN e with
  | .cell c, some k => (match μ[c]? with
    | some (some (.dN kvs)) => if kvs.length ≤ 1000000 then (match lkN kvs k with
      | some i => some (.ok (.int i) μ)
      | none => none) else none
    | _ => none)
  | _, _ => none
theorem de_dnGet {td ty : TE} {f g : Ev D} (hw : G.C.wld = wd) (h : DE G n0 W td f) (k : DE G n0 W ty g) : DE G n0 W (tDNGet wd td ty) (eOp dnget f g) := by
  intro w ρ μ σ c vr hn
  subst hw
  refine (h w ρ μ σ c vr hn).bnd (uu := fun x H (Q : VK) => ty σ H fun y H2 => ∃ (a b : Addr) (xs : List Ent) (k : NestedKey) (i : Int), x = .ref a ∧ y = .ref b ∧ DNg G.C.wld H2 a xs ∧ KeyO H2 k b ∧ lookN xs k = some i ∧ Q (.int i) H2) fun w1 μ1 a x p1 ra => ?_
  refine (k w1 ρ μ1 σ p1.mc (vr.mono p1.ex) (p1.nn hn)).bnd (uu := fun y H2 (Q : VK) => ∃ (a b : Addr) (xs : List Ent) (k : NestedKey) (i : Int), x = .ref a ∧ y = .ref b ∧ DNg G.C.wld H2 a xs ∧ KeyO H2 k b ∧ lookN xs k = some i ∧ Q (.int i) H2) fun w2 μ2 b y p2 rb => ?_
  have ra := ra.mono p2.ex
  intro r e Q fin
  unfold dnget at e
  split at e <;> try cases e
  rename_i q k hk ra
  split at e <;> try cases e
  rename_i kvs hm
  split at e <;> rename_i hl <;> try cases e
  split at e <;> try cases e
  rename_i i hi
  obtain ⟨p, rfl, ha⟩ := ra
  obtain ⟨bb, rfl, ko, _⟩ := keyN_fr rb hk
  obtain ⟨xs, g, e, _⟩ := dng_of p2.mc hm ha hl
  exact ⟨p, bb, xs, k, i, rfl, rfl, g, ko, by rw [lkN_look, e]; exact hi, fin w2 _ (.refl p2.mc) rfl⟩
/-! a new key -/
theorem dn_put {w : Hw} {μ : Mu} {q : Nat} {kvs : List (NestedKey × Int)} {a b : Addr} {xs : List Ent} {k : NestedKey} {i : Int} (c : Mc G w μ) (hm : μ[q]? = some (some (.dN kvs))) (ha : w.A[q]? = some a) (e : xs.map (fun x => (x.1, x.2.2)) = kvs) (r : ∀ x ∈ xs, EntF G.K w x) (f : EntF G.K w (k, b, 0)) :
    Post G n0 w μ (w.wr a (DNx G.C.wld a (xs ++ [(k, b, i)]))) (μ.set q (some (.dN (kvs ++ [(k, i)])))) := by
  have x3 : Ex w (w.wr a (DNx G.C.wld a (xs ++ [(k, b, i)]))) := Ex.wr c hm ha
  refine ⟨x3, Mc.wr (m' := .dN (kvs ++ [(k, i)])) c hm ha ⟨xs ++ [(k, b, i)], upd_same, by rw [List.map_append, e]; rfl, fun y hy => ?_⟩, Kp.wr fun _ _ _ _ => rfl⟩
  rcases List.mem_append.mp hy with hy | hy
  · obtain ⟨d, h1, h2, h3⟩ := r y hy
    exact ⟨d, h1, h2, h3.mono x3⟩
  · have : y = (k, b, i) := by simpa using hy
    subst this
    obtain ⟨d, h1, h2, h3⟩ := f
    exact ⟨d, h1, h2, h3.mono x3⟩
def tSubN (f g : Ev D) : Tv := fun d ρ μ => (f ρ μ).bnd fun o μ1 => (g ρ μ1).bnd fun i μ2 => match o, keyN i, d with
  | .cell c, some k, .int n => (match μ2[c]? with
    | some (some (.dN kvs)) => if decide (kvs.length ≤ 1000000) && (lkN kvs k).isNone then some (.ok ρ (μ2.set c (some (.dN (kvs ++ [(k, n)]))))) else none
    | _ => none)
  | _, _, _ => none
theorem dg_subN {to ti : TE} {f g : Ev D} (hw : G.C.wld = wd) (ho : DE G n0 W to f) (hi : DE G n0 W ti g) : DG G n0 W (gSub to ti (rDNSet wd)) (tSubN f g) := by
  intro w ρ μ σ d v c vr hn fr r e Q fin
  subst hw
  rcases Ro.bnd_some e with ⟨o, μ1, e1, e2⟩ | ⟨x, μ1, e1, e2⟩
  · refine ho w ρ μ σ c vr hn _ e1 _ fun w1 x p1 r1 => ?_
    rcases Ro.bnd_some e2 with ⟨i, μ2, e3, e4⟩ | ⟨x, μ2, e3, e4⟩
    · refine hi w1 ρ μ1 σ p1.mc (vr.mono p1.ex) (p1.nn hn) _ e3 _ fun w2 y p2 r2 => ?_
      have p12 := p1.trans p2
      split at e4 <;> try cases e4
      rename_i q k n hk
      split at e4 <;> try cases e4
      rename_i kvs hm
      split at e4 <;> rename_i hp <;> cases e4
      rw [Bool.and_eq_true, decide_eq_true_eq, Option.isNone_iff_eq_none] at hp
      obtain ⟨a, rfl, ha⟩ := r1.mono p2.ex
      obtain ⟨bb, rfl, ko, ef⟩ := keyN_fr r2 hk
      obtain ⟨xs, gg, e, rr⟩ := dng_of p2.mc hm ha hp.1
      have fr : v = .int n := fr
      subst fr
      have pp := dn_put (n0 := n0) (i := n) p2.mc hm ha e rr ef
      exact ⟨a, bb, xs, k, n, rfl, rfl, rfl, gg, ko, by rw [lkN_look, e]; exact hp.2, fin (w2.wr a _) σ (p12.trans pp) ((vr.mono p12.ex).mono pp.ex)⟩
    · subst e4
      exact hi w1 ρ μ1 σ p1.mc (vr.mono p1.ex) (p1.nn hn) _ e3 _ fun w2 cls dx p2 x => fin w2 cls dx (p1.trans p2) x
  · subst e2
    exact ho w ρ μ σ c vr hn _ e1 _ fun w1 cls dx p1 x => fin w1 cls dx p1 x
/-! {k: i} -/
def dn1b (q : Nat) (kd : D) (vd : D) (μ : Mu) : Ro D := match keyN kd, vd, μ[q]? with
  | some k, .int i, some (some (.dN [])) => some (.ok (.cell q) (μ.set q (some (.dN [(k, i)]))))
  | _, _, _ => none
def dn1a (q : Nat) (r : Ro D) (k : Mu → Ro D) : Ro D := r.bnd fun kd μ1 => (k μ1).bnd fun vd μ2 => dn1b q kd vd μ2
def eDN1 (f g : Ev D) : Ev D := fun ρ μ => dn1a μ.length (f ρ (μ ++ [some (.dN [])])) (g ρ)
theorem de_dn1 {tk tv : TE} {f g : Ev D} (hw : G.C.wld = wd) (h : DE G n0 W tk f) (k : DE G n0 W tv g) : DE G n0 W (tDN1 wd tk tv) (eDN1 f g) := by
  intro w ρ μ σ c vr hn r e Q fin
  subst hw
  intro p hp
  have x0 : Ex w (w.mk' p (DNx G.C.wld p [])) := .mk' c hp
  have c0 : Mc G (w.mk' p (DNx G.C.wld p [])) (μ ++ [some (.dN [])]) := .mk' c hp ⟨[], upd_same, rfl, fun x hx => nomatch hx⟩
  have hA : (w.mk' p (DNx G.C.wld p [])).A[μ.length]? = some p := by show (w.A ++ [p])[μ.length]? = some p; rw [← c.len]; simp
  have p0 : Post G n0 w μ (w.mk' p (DNx G.C.wld p [])) (μ ++ [some (.dN [])]) := ⟨x0, c0, .push hn _⟩
  have vr0 := vr.mono x0
  have hn0 : n0 ≤ (μ ++ [some (M.dN [])]).length := p0.nn hn
  unfold eDN1 dn1a at e
  rcases Ro.bnd_some e with ⟨kd, μ1, e1, e2⟩ | ⟨x, μ1, e1, e2⟩
  · refine h _ ρ _ σ c0 vr0 hn0 _ e1 _ fun w1 y p1 r1 => ?_
    rcases Ro.bnd_some e2 with ⟨vd, μ2, e3, e4⟩ | ⟨x, μ2, e3, e4⟩
    · refine k w1 ρ μ1 σ p1.mc (vr0.mono p1.ex) (p1.nn hn0) _ e3 _ fun w2 z p2 r2 => ?_
      unfold dn1b at e4
      split at e4 <;> cases e4
      rename_i k i hk hm
      have ha : w2.A[μ.length]? = some p := p2.ex.pre _ _ (p1.ex.pre _ _ hA)
      obtain ⟨bb, rfl, ko, ef⟩ := keyN_fr (r1.mono p2.ex) hk
      obtain ⟨xs, gg, e, rr⟩ := dng_of p2.mc hm ha (Nat.zero_le _)
      have hx : xs = [] := by simpa using e
      subst hx
      have r2 : z = .int i := r2
      subst r2
      have pp := dn_put (n0 := n0) (i := i) p2.mc hm ha e rr ef
      refine ⟨bb, k, i, rfl, rfl, gg.at_, ko, ?_⟩
      exact fin (w2.wr p _) (.ref p) ((p0.trans p1).trans (p2.trans pp)) ⟨p, rfl, pp.ex.pre _ _ ha⟩
    · subst e4
      exact k w1 ρ μ1 σ p1.mc (vr0.mono p1.ex) (p1.nn hn0) _ e3 _ fun w2 cls dx p2 x => fin w2 cls dx ((p0.trans p1).trans p2) x
  · subst e2
    exact h _ ρ _ σ c0 vr0 hn0 _ e1 _ fun w1 cls dx p1 x => fin w1 cls dx (p0.trans p1) x
/-! d.setdefault(k, i) -/
def dnsd2 (c : Nat) (kd vd : D) (μ : Mu) : Ro D := match keyN kd, vd, μ[c]? with
  | some k, .int i, some (some (.dN kvs)) => if kvs.length ≤ 1000000 then (match lkN kvs k with
    | some j => some (.ok (.int j) μ)
    | none => some (.ok (.int i) (μ.set c (some (.dN (kvs ++ [(k, i)])))))) else none
  | _, _, _ => none
def dnsd1 (r : Ro D) (g h : Mu → Ro D) : Ro D := r.bnd fun o μ1 => match o with
  | .cell c => (match μ1[c]? with
    | some (some (.dN kvs)) => if kvs.length ≤ 1000000 then (g μ1).bnd fun kd μ2 => (h μ2).bnd fun vd μ3 => dnsd2 c kd vd μ3 else none
    | _ => none)
  | _ => none
def eDNSd (f g h : Ev D) : Ev D := fun ρ μ => dnsd1 (f ρ μ) (g ρ) (h ρ)
theorem de_dnSd {td ty tx : TE} {f g h : Ev D} (hw : G.C.wld = wd) (hf : DE G n0 W td f) (hg : DE G n0 W ty g) (hh : DE G n0 W tx h) : DE G n0 W (tDNSd wd td ty tx) (eDNSd f g h) := by
  intro w ρ μ σ c vr hn
  subst hw
  refine (hf w ρ μ σ c vr hn).bnd (uu := fun x H1 (Q : VK) => (∃ (a : Addr) (xs : List Ent), x = .ref a ∧ DNg G.C.wld H1 a xs) ∧ ty σ H1 fun y H2 => tx σ H2 fun z H3 => ∃ (a b : Addr) (xs : List Ent) (k : NestedKey) (i : Int), x = .ref a ∧ y = .ref b ∧ z = .int i ∧ DNg G.C.wld H3 a xs ∧ KeyO H3 k b ∧
    (∀ j, lookN xs k = some j → Q (.int j) H3) ∧ (lookN xs k = none → Q (.int i) (upd H3 a (DNx G.C.wld a (xs ++ [(k, b, i)]))))) fun w1 μ1 o x p1 r1 => ?_
  intro q e Q fin
  split at e <;> try cases e
  rename_i c1
  split at e <;> try cases e
  rename_i kvs hm
  split at e <;> rename_i hl <;> try cases e
  obtain ⟨a, rfl, ha⟩ := r1
  obtain ⟨xs, gg, _, _⟩ := dng_of p1.mc hm ha hl
  refine ⟨⟨a, xs, rfl, gg⟩, ?_⟩
  rcases Ro.bnd_some e with ⟨kd, μ2, e1, e2⟩ | ⟨x, μ2, e1, e2⟩
  · refine hg w1 ρ μ1 σ p1.mc (vr.mono p1.ex) (p1.nn hn) _ e1 _ fun w2 y p2 r2 => ?_
    rcases Ro.bnd_some e2 with ⟨vd, μ3, e3, e4⟩ | ⟨x, μ3, e3, e4⟩
    · refine hh w2 ρ μ2 σ p2.mc ((vr.mono p1.ex).mono p2.ex) (p2.nn (p1.nn hn)) _ e3 _ fun w3 z p3 r3 => ?_
      unfold dnsd2 at e4
      split at e4 <;> try cases e4
      rename_i k i kvs3 hk hm3
      split at e4 <;> rename_i hl3 <;> try cases e4
      have ha3 := p3.ex.pre _ _ (p2.ex.pre _ _ ha)
      obtain ⟨bb, rfl, ko, ef⟩ := keyN_fr (r2.mono p3.ex) hk
      obtain ⟨xs3, g3, e3', rr⟩ := dng_of p3.mc hm3 ha3 hl3
      have r3 : z = .int i := r3
      subst r3
      refine ⟨a, bb, xs3, k, i, rfl, rfl, rfl, g3, ko, fun j hj => ?_, fun hj => ?_⟩
      · rw [lkN_look, e3'] at hj
        rw [hj] at e4
        cases e4
        exact fin w3 _ (p2.trans p3) rfl
      · rw [lkN_look, e3'] at hj
        rw [hj] at e4
        cases e4
        have pp := dn_put (n0 := n0) (i := i) p3.mc hm3 ha3 e3' rr ef
        exact fin (w3.wr a _) _ ((p2.trans p3).trans pp) rfl
    · subst e4
      exact hh w2 ρ μ2 σ p2.mc ((vr.mono p1.ex).mono p2.ex) (p2.nn (p1.nn hn)) _ e3 _ fun w3 cls dx p3 x => fin w3 cls dx (p2.trans p3) x
  · subst e2
    exact hg w1 ρ μ1 σ p1.mc (vr.mono p1.ex) (p1.nn hn) _ e1 _ fun w2 cls dx p2 x => fin w2 cls dx p2 x
/-! len(d) -/
def lenN (d : D) (μ : Mu) : Ro D := match d with
  | .cell c => (match μ[c]? with
    | some (some (.dN kvs)) => if kvs.length ≤ 1000000 then some (.ok (.int kvs.length) μ) else none
    | _ => none)
  | _ => none
def eLenN (f : Ev D) : Ev D := fun ρ μ => (f ρ μ).bnd lenN
theorem de_lenN {t : TE} {f : Ev D} (hw : G.C.wld = wd) (h : DE G n0 W t f) : DE G n0 W (tCB (rLenDN wd) (tCons t tNil)) (eLenN f) := fun w ρ μ σ c vr hn =>
  (h w ρ μ σ c vr hn).bnd (uu := fun x H1 (Q : VK) => rLenDN wd [x] H1 Q) fun w1 μ1 d x p1 r1 => by
    intro q e Q fin
    subst hw
    unfold lenN at e
    split at e <;> try cases e
    rename_i k
    split at e <;> try cases e
    rename_i kvs hm
    split at e <;> rename_i hl <;> cases e
    obtain ⟨a, rfl, ha⟩ := r1
    obtain ⟨xs, g, e, _⟩ := dng_of p1.mc hm ha hl
    exact ⟨a, xs, rfl, g, fin w1 _ (.refl p1.mc) (by rw [← e, List.length_map]; simp [Fr])⟩
/-! evaluation -/
variable {ρ : Env} {μ μ1 μ2 : Mu}
@[simp] theorem eNewN_ap : eNewN ρ μ = some (.ok (.cell μ.length) (μ ++ [some (.dN [])])) := rfl
@[simp] theorem eDN1_ap (f g : Ev D) : eDN1 f g ρ μ = dn1a μ.length (f ρ (μ ++ [some (.dN [])])) (g ρ) := rfl
theorem dn1a_ok {q : Nat} {k : Mu → Ro D} {kd : D} {nk : NestedKey} {i : Int} (e : k μ = some (.ok (.int i) μ1)) (hk : keyN kd = some nk) (h : μ1[q]? = some (some (.dN []))) : dn1a q (some (.ok kd μ)) k = some (.ok (.cell q) (μ1.set q (some (.dN [(nk, i)])))) := by
  simp [dn1a, e, dn1b, hk, h]
theorem oDNIn_ok {c : Nat} {kvs : List (NestedKey × Int)} {d : D} {k : NestedKey} (neg : Bool) (hk : keyN d = some k) (h : μ[c]? = some (some (.dN kvs))) (hl : kvs.length ≤ 1000000) : oDNIn neg d (.cell c) μ = some (.ok (.bl (neg ^^ (lkN kvs k).isSome)) μ) := by
  simp [oDNIn, hk, h, hl]
theorem dnget_ok {c : Nat} {kvs : List (NestedKey × Int)} {d : D} {k : NestedKey} {i : Int} (hk : keyN d = some k) (h : μ[c]? = some (some (.dN kvs))) (hl : kvs.length ≤ 1000000) (hi : lkN kvs k = some i) : dnget (.cell c) d μ = some (.ok (.int i) μ) := by
  simp [dnget, hk, h, hl, hi]
theorem tSubN_ok {f g : Ev D} {c : Nat} {kvs : List (NestedKey × Int)} {d : D} {k : NestedKey} {i : Int} (h1 : f ρ μ = some (.ok (.cell c) μ1)) (h2 : g ρ μ1 = some (.ok d μ2)) (hk : keyN d = some k) (h : μ2[c]? = some (some (.dN kvs))) (hl : kvs.length ≤ 1000000) (hn : lkN kvs k = none) :
    tSubN f g (.int i) ρ μ = some (.ok ρ (μ2.set c (some (.dN (kvs ++ [(k, i)]))))) := by
  simp [tSubN, h1, h2, hk, h, hl, hn]
@[simp] theorem eDNSd_ap (f g h : Ev D) : eDNSd f g h ρ μ = dnsd1 (f ρ μ) (g ρ) (h ρ) := rfl
theorem dnsd1_ok {c : Nat} {g h : Mu → Ro D} {kvs kvs3 : List (NestedKey × Int)} {d : D} {k : NestedKey} {i : Int} (h0 : μ[c]? = some (some (.dN kvs))) (hl : kvs.length ≤ 1000000) (e1 : g μ = some (.ok d μ1)) (e2 : h μ1 = some (.ok (.int i) μ2)) (hk : keyN d = some k) (h3 : μ2[c]? = some (some (.dN kvs3))) (hl3 : kvs3.length ≤ 1000000) :
    dnsd1 (some (.ok (.cell c) μ)) g h = match lkN kvs3 k with
      | some j => some (.ok (.int j) μ2)
      | none => some (.ok (.int i) (μ2.set c (some (.dN (kvs3 ++ [(k, i)]))))) := by
  simp [dnsd1, h0, hl, e1, e2, dnsd2, hk, h3, hl3]
@[simp] theorem eLenN_ap (f : Ev D) : eLenN f ρ μ = Ro.bnd (f ρ μ) lenN := rfl
theorem lenN_ok {c : Nat} {kvs : List (NestedKey × Int)} (h : μ[c]? = some (some (.dN kvs))) (hl : kvs.length ≤ 1000000) : lenN (.cell c) μ = some (.ok (.int kvs.length) μ) := by
  simp [lenN, h, hl]
end
end G4

/-! G36: a < b of lists of whole numbers. -/
namespace G4
open PySem PySem.Spec PyProof.Rows L2
section
theorem dep_ints (xs : List Int) : (PyData.list (xs.map PyData.int)).depth ≤ 1 := by
  have : ∀ xs : List Int, PyData.depthAll (xs.map PyData.int) = 0 := by
    intro xs
    induction xs with
    | nil => rfl
    | cons x xs ih =>
      show max (PyData.depth (.int x)) (PyData.depthAll (xs.map PyData.int)) = 0
      rw [ih]
      rfl
  show PyData.depthAll _ + 1 ≤ 1
  rw [this]
  exact Nat.le_refl _
theorem alike_ints (xs ys : List Int) : PySem.W.alike (.list (xs.map .int)) (.list (ys.map .int)) = true := by
  show PySem.W.alikeAll _ _ = true
  induction xs generalizing ys with
  | nil => rfl
  | cons x xs ih => cases ys with
    | nil => rfl
    | cons y ys => exact ih ys
theorem lt_ints (xs ys : List Int) : PySem.W.dataLt (.list (xs.map .int)) (.list (ys.map .int)) = HT.lexLt xs ys := by
  rw [PySem.W.dataLt_list]
  induction xs generalizing ys with
  | nil => cases ys with
    | nil => exact PyProof.Rows.lex_irrefl _
    | cons y ys =>
      show PyProof.Rows.lexLt itemOrd [Sum.inl 0] (Sum.inl 1 :: _) = true
      rw [PySem.W.lex_atom (by simp), PySem.W.lex_one]
      rfl
  | cons x xs ih => cases ys with
    | nil =>
      show PyProof.Rows.lexLt itemOrd (Sum.inl 1 :: _) [Sum.inl 0] = false
      rw [PySem.W.lex_atom (by simp), PySem.W.lex_one]
      rfl
    | cons y ys =>
      rw [List.map_cons, List.map_cons, HT.lexLt_cons]
      by_cases h : x = y
      · rw [if_pos h, PySem.W.dataLt_all_yes rfl (by show (x == y) = true; simp [h])]
        exact ih ys
      · rw [if_neg h, PySem.W.dataLt_all_no rfl (by show (x == y) = false; simp [h])]
        exact PySem.W.dataLt_int x y
def rLtL (K : PySem.W.Frag) : R2 := fun x y H Q => ∃ is js : List Int, Dp K H x (.list (is.map .int)) ∧ Dp K H y (.list (js.map .int)) ∧ Q (.bl (HT.lexLt is js)) H
def rLtA (K : PySem.W.Frag) : R2 := fun x y H Q => rI0 (fun i j => .bl (decide (i < j))) x y H Q ∨ rLtL K x y H Q
theorem op_ltL {X : Cx} (hu : X.A.units + 64 < cLine) : OpR X (compareOp .Lt) (rLtL X.K) := by
  intro pins s σ H x y v u Q I rx ry h
  obtain ⟨is, js, hd, he, q⟩ := h
  obtain ⟨as, r1⟩ := Dp.reads I _ x v hd rx
  obtain ⟨bs, r2⟩ := Dp.reads I _ y u he ry
  refine PySem.W.lt_data r1 r2 (alike_ints is js) (by simp) ?_ ?_
  · have := dep_ints is
    omega
  · rw [lt_ints]
    exact ⟨.bl _, H, I, rfl, q⟩
theorem op_ltA {X : Cx} (hu : X.A.units + 65 < cLine) : OpR X (compareOp .Lt) (rLtA X.K) := opR_or op_lt (op_ltL (by omega))
end
section
variable {G : Gx} {n0 : Nat} {W : WX}
def intsOf : List D → Option (List Int)
  | [] => some []
  | .int i :: ds => (intsOf ds).map fun is => i :: is
  | _ :: _ => none
theorem intsOf_eq : ∀ {ds : List D} {is : List Int}, intsOf ds = some is → ds = is.map D.int
  | [], is, h => by cases h; rfl
  | .int i :: ds, is, h => by
    obtain ⟨js, h1, rfl⟩ := Option.map_eq_some_iff.mp h
    rw [intsOf_eq h1]
    rfl
theorem intsOf_ints (is : List Int) : intsOf (is.map D.int) = some is := by
  induction is with
  | nil => rfl
  | cons x is ih =>
    show (intsOf (is.map D.int)).map _ = _
    rw [ih]
    rfl
def oLtA (a b : D) (μ : Mu) : Ro D := match a, b with
  | .int i, .int j => some (.ok (.bl (decide (i < j))) μ)
  | a, b => match val μ a, val μ b with
    | .lst xs, .lst ys => match intsOf xs, intsOf ys with
      | some is, some js => some (.ok (.bl (HT.lexLt is js)) μ)
      | _, _ => none
    | _, _ => none
theorem py_ints (is : List Int) : (D.lst (is.map D.int)).py = .list (is.map .int) := by
  show PyData.list (pys (is.map D.int)) = _
  congr 1
  rw [pys_map, List.map_map]
  rfl
theorem dr_ltA : DR2 G n0 W (rLtA G.K) oLtA := by
  intro w μ σ a x b y c hn ra rb q e Q f
  unfold oLtA at e
  split at e
  · cases e
    rename_i i j
    obtain rfl : x = .int i := ra
    obtain rfl : y = .int j := rb
    exact .inl ⟨i, j, rfl, rfl, f w _ (.refl c) rfl⟩
  · split at e
    · rename_i xs ys h1 h2
      split at e <;> cases e
      rename_i is js e1 e2
      rw [intsOf_eq e1] at h1
      rw [intsOf_eq e2] at h2
      have d1 := val_dp c ra (by rw [h1]; exact nices_ints 59 is)
      have d2 := val_dp c rb (by rw [h2]; exact nices_ints 59 js)
      rw [h1, py_ints] at d1
      rw [h2, py_ints] at d2
      exact .inr ⟨is, js, d1, d2, f w _ (.refl c) rfl⟩
    · cases e
variable {μ : Mu}
@[simp] theorem oLtA_int (i j : Int) : oLtA (.int i) (.int j) μ = some (.ok (.bl (decide (i < j))) μ) := rfl
theorem oLtA_lst (is js : List Int) : oLtA (.lst (is.map D.int)) (.lst (js.map D.int)) μ = some (.ok (.bl (HT.lexLt is js)) μ) := by
  unfold oLtA
  simp only [valS_lst, intsOf_ints]
end
end G4

/-! G37: xs[b], xs a list, b a truth value. -/
namespace G4
open PySem PySem.Spec PyProof.Rows L2
section
variable {prog : Program} {w : World} {A : Around} {s : Shared} {E : Value → Shared → Prop}
def b01 (b : Bool) : Int := if b = true then 1 else 0
theorem ls_bool {b : Bool} {Q : Option Int → Shared → Prop} (h : Q (some (b01 b)) s) : wpAny (model prog w) A (Builtin.List.listSubscript? (.bool b)) Q E s := by
  unfold Builtin.List.listSubscript?
  refine wpAny_bind (wpAny_specialOf (T := "bool") rfl PySem.F.slot_bool_index.lookup ?_)
  show wpAny _ A (asIndex (.bool b) >>= _) Q E s
  refine wpAny_bind (wpAny_of_eq (a := b01 b) (by cases b <;> rfl) ?_)
  show wpAny _ A (if (!Builtin.List.listFitsIndex (b01 b)) = true then _ else _) Q E s
  rw [if_neg (by cases b <;> decide)]
  exact wpAny_pure h
theorem getItem_listB {l : Addr} {items : Array Value} {b : Bool} {x : Value} {Q : Value → Shared → Prop} (hl : s.heap.IsList l items)
    (hx : items[(b01 b).toNat]? = some x) (h : Q x s) : wpAny (model prog w) A (getItem (.ref l) (.bool b)) Q E s := by
  obtain ⟨o, ho, hc, ne, hd⟩ := id hl
  unfold getItem
  try with_reducible refine wpAny_holding ?_
  first | refine wpAny_bind (wpAny_pure ?_) | skip
  refine wpAny_bind (wpAny_sequenceKey hl.typeIs (by decide) ?_)
  refine wpAny_bind (wpAny_callSpecial?_slot (name := Str.ofString "__getitem__") hl.typeIs slot_list_getitem
    (wpAny_call_entry slot_list_getitem hl.typeIs entry_list_getitem ?_ (args_list_getitem _ _)))
  show wpAny _ _ (Builtin.List.listSubscript? (.bool b) >>= _) _ _ s
  refine wpAny_bind (ls_bool ?_)
  obtain ⟨j, hj⟩ : ∃ j : Nat, b01 b = Int.ofNat j := by cases b; exact ⟨0, rfl⟩; exact ⟨1, rfl⟩
  rw [hj] at hx ⊢
  have hx' : items[j]? = some x := hx
  show wpAny _ _ ((seqItemAt l j >>= fun r => pure (r.map (j, ·))) >>= _) _ _ s
  refine wpAny_bind (wpAny_bind (wpAny_seqItemAt ho hd (wpAny_pure ?_)))
  rw [hx']
  first
    | exact wpAny_bind (wpAny_pure (wpAny_pure ⟨x, rfl, wpAny_pure h⟩))
    | exact wpAny_pure ⟨x, rfl, wpAny_pure h⟩
end
section
variable {X : Cx}
def rIxB (K : PySem.W.Frag) : R2 := fun x y H Q => ∃ p xs b v, x = .ref p ∧ y = .bl b ∧ SqL K H p xs ∧ xs[(b01 b).toNat]? = some v ∧ Q v H
theorem ix_listB : IxR X (rIxB X.K) := by
  intro value slice pins s σ H x y v u Q I rx ry h hs
  obtain ⟨p, xs, b, z, rfl, rfl, hq, he, q⟩ := h
  cases rx
  obtain rfl : u = .bool b := ry
  obtain ⟨its, r, pl, hz⟩ := I.list hq
  obtain ⟨w, ew, rw'⟩ := r.get he
  have fin : EP X pins σ Q w s := ⟨z, H, I, rw', q⟩
  exact subscriptTail_builtinR (x := w) pl.isList.typeIs slot_list_getitem.lookup
    (getItem_listB (Q := fun r s' => r = w ∧ EP X pins σ Q r s') pl.isList (by simpa using ew) ⟨rfl, fin⟩) hs
def rIxA (K : PySem.W.Frag) : R2 := fun x y H Q => rIx K x y H Q ∨ rIxB K x y H Q
theorem ix_seqA : IxR X (rIxA X.K) := ix_seq.or ix_listB
end
section
variable {G : Gx} {n0 : Nat} {W : WX}
def oIxA (a b : D) (μ : Mu) : Ro D := match b with
  | .bl b => match viewL μ a with
    | some xs => match xs[(b01 b).toNat]? with
      | some d => some (.ok d μ)
      | none => none
    | none => none
  | b => oIx a b μ
theorem dr_ixA : DR2 G n0 W (rIxA G.K) oIxA := by
  intro w μ σ a x b y c hn ra rb q e Q f
  unfold oIxA at e
  split at e
  · rename_i b
    split at e <;> try cases e
    rename_i xs hx
    split at e <;> cases e
    rename_i d hd
    obtain rfl : y = .bl b := rb
    obtain ⟨p, vs, rfl, s, rs⟩ := view_L c ra hx
    obtain ⟨v, hv, fr⟩ := rs.get hd
    exact .inr ⟨p, vs, b, v, rfl, rfl, s, hv, f w _ (.refl c) fr⟩
  · exact .inl (dr_ix w μ σ a x _ y c hn ra rb q e Q f)
variable {μ : Mu}
@[simp] theorem oIxA_int (a : D) (i : Int) : oIxA a (.int i) μ = oIx a (.int i) μ := rfl
theorem oIxA_01 (a b : D) (k : Bool) : oIxA (.lst [a, b]) (.bl k) μ = some (.ok (if k = true then b else a) μ) := by
  cases k <;> rfl
end
end G4

/-! G51: a name's value stays as it is from a statement on (nothing is done for it). -/
namespace G4
open PySem PySem.Spec PyProof.Rows L2
def sGh (i : Nat) (g : Sv) : Sv := fun ρ μ => match ρ[i]? with
  | some (some d) => match frz 4 d μ with
    | some (d', μ') => g (ρ.set i (some d')) μ'
    | none => none
  | _ => none
section
variable {G : Gx} {n0 : Nat} {W : WX}
theorem Vr.frz {K : PySem.W.Frag} {w : Hw} {ρ : Env} {σ : L2.St} {i : Nat} {d : D} {v : V} (h : Vr K w ρ σ) (hv : σ[i]? = some (some v)) (r : Fr K w d v) : Vr K w (ρ.set i (some d)) σ := by
  refine ⟨by simp [h.len], fun j e q => ?_⟩
  by_cases hj : j = i
  · subst hj
    have hl : j < ρ.length := by simpa using (List.getElem?_eq_some_iff.mp q).1
    rw [List.getElem?_set_self hl] at q
    cases q
    exact ⟨v, hv, r⟩
  · rw [List.getElem?_set_ne (Ne.symm hj)] at q
    exact h.at_ j e q
theorem ds_gh {i : Nat} {t : TS} {g : Sv} (h : DS G n0 W t g) : DS G n0 W t (sGh i g) := by
  intro w ρ μ σ c vr hn fl e E fin
  unfold sGh at e
  split at e <;> try cases e
  rename_i d hd
  split at e <;> try cases e
  rename_i d' μ' hf
  obtain ⟨v, hv, fr⟩ := vr.at_ i d hd
  obtain ⟨w', hH, x, c', k, fr'⟩ := frz_ok (G := G) 4 w μ d v d' μ' c fr hf
  have p : Post G n0 w μ w' μ' := ⟨x, c', k n0⟩
  have := h w' (ρ.set i (some d')) μ' σ c' ((vr.mono x).frz hv fr') (p.nn hn) fl e E (fin.post p)
  rw [hH] at this
  exact this
theorem sGh_cell {ρ : Env} {μ : Mu} {i k : Nat} {xs : List D} {g : Sv} (h : ρ[i]? = some (some (.cell k))) (hm : μ[k]? = some (some (.lst xs))) (p : pures xs = true) : sGh i g ρ μ = g (ρ.set i (some (.lst xs))) (μ.set k none) := by
  have e := frz1_cell hm p
  have : frz 4 (.cell k) μ = some (.lst xs, μ.set k none) := by
    have e : (match frz 4 (.cell k) μ with | some (d', μ2) => some (Rs.ok d' μ2) | none => none) = some (.ok (.lst xs) (μ.set k none)) := e
    split at e
    · rename_i d' μ2 h2
      cases e
      exact h2
    · cases e
  simp [sGh, h, this]
end
end G4

/-! G52: instances of own classes: cells with fields; defs that leave their cells behind. -/
namespace G4
open PySem PySem.Spec PyProof.Rows L2
/-! ### defs whose cells stay: own none: those that stood stay as they are; own (some i): from the i-th argument's cell on all may change -/
def base0 (own : Option Nat) (ds : List D) (μ : Mu) : Option Nat := match own with
  | none => some μ.length
  | some i => match ds[i]? with
    | some (.cell k) => if k < μ.length then some k else none
    | _ => none
def runU (N : Nat) (own : Option Nat) (body : Nat → Sv) : Fd := fun ds μ => match base0 own ds μ with
  | none => none
  | some k => match body k (ds.map some ++ List.replicate (N - ds.length) none) μ with
    | some (.nx _ μ') => some (.ok .non μ')
    | some (.rt d μ') => some (.ok d μ')
    | some (.ex x _ μ') => some (.exc x μ')
    | _ => none
theorem base0_le {own : Option Nat} {ds : List D} {μ : Mu} {k : Nat} (h : base0 own ds μ = some k) : k ≤ μ.length := by
  unfold base0 at h
  split at h
  · cases h; exact Nat.le_refl _
  · split at h <;> try cases h
    split at h <;> cases h
    omega
def spU (G : Gx) (n : Nat) (own : Option Nat) (m : Fd) : Sp := fun vs H Q E => ∃ (w : Hw) (μ : Mu) (ds : List D) (r : Rs D) (k : Nat), w.H = H ∧ Mc G w μ ∧ Frs G.K w ds vs ∧ ds.length = n ∧ base0 own ds μ = some k ∧ m ds μ = some r ∧
  match r with
  | .ok d μ' => ∀ w' v, Post G k w μ w' μ' → Fr G.K w' d v → Q v w'.H
  | .exc x μ' => ∀ w' cls dx, Post G k w μ w' μ' → Xr G w' x cls dx → E cls dx w'.H
section
variable {G : Gx}
theorem spU_len {n : Nat} {own : Option Nat} {m : Fd} {vs : List V} {H : Hp} {Q : VK} {E : XK} (h : spU G n own m vs H Q E) : vs.length = n := by
  obtain ⟨w, μ, ds, r, k, _, _, fr, hn, _⟩ := h
  rw [fr.length, hn]
theorem def_readsU {N : List Str} {n : Nat} {own : Option Nat} {body : Nat → Sv} {t : TS} {vs : List V} {H : Hp} {Q : VK} {E : XK} (h : ∀ n0, DS G n0 (fun cls dx _ H => E cls dx H) t (body n0)) (hN : n ≤ N.length) (sp : spU G n own (runU N.length own body) vs H Q E) :
    t { nx := fun _ H' => Q .non H', rt := Q } (L2.start N vs) H := by
  obtain ⟨w, μ, ds, r, k, rfl, c, fr, hn, hb, e, kk⟩ := sp
  have hle := base0_le hb
  unfold runU at e
  rw [hb] at e
  simp only at e
  have vr := start_vr (N := N) fr (by omega)
  split at e
  · rename_i ρ' μ' h1
    cases e
    exact h k w _ μ _ c vr hle _ h1 _ fun w1 σ1 p1 v1 => kk w1 .non p1 rfl
  · rename_i d μ' h1
    cases e
    exact h k w _ μ _ c vr hle _ h1 _ fun w1 v p1 r1 => kk w1 v p1 r1
  · rename_i x ρ' μ' h1
    cases e
    exact h k w _ μ _ c vr hle _ h1 _ fun w1 σ1 cls dx p1 v1 x1 => kk w1 cls dx p1 x1
  · cases e
end
/-- the def x of n arguments means m; its cells stay -/
structure DfU (P : Program) (w : World) (K : PySem.W.Frag) (mg : Str → Option Value) (base : Heap) (C : Ct) (k : Nat) (x : Str) (n : Nat) (own : Option Nat) (m : Fd) : Prop where
  ex : ∃ (f : Addr) (fd : FuncData) (ps : List Str), FnOk P w K mg base CX0 k f fd ps (spU ⟨K, C⟩ n own m) ∧ mg x = some (.ref f) ∧ PySem.W.keepIn K (.ref f) = true ∧ Binds K fd ps []
structure DfUX (P : Program) (w : World) (K : PySem.W.Frag) (mg : Str → Option Value) (base : Heap) (C : Ct) (k : Nat) (x : Str) (n : Nat) (own : Option Nat) (m : Fd) : Prop where
  ex : ∃ (f : Addr) (fd : FuncData) (ps : List Str), FnOk P w K mg base (L2.CX P w) k f fd ps (spU ⟨K, C⟩ n own m) ∧ mg x = some (.ref f) ∧ PySem.W.keepIn K (.ref f) = true ∧ Binds K fd ps []
/-- a method: it stands in its class -/
structure DfM (P : Program) (w : World) (K : PySem.W.Frag) (mg : Str → Option Value) (base : Heap) (C : Ct) (k : Nat) (cl : Addr) (x : Str) (n : Nat) (own : Option Nat) (m : Fd) : Prop where
  ex : ∃ (f : Addr) (fd : FuncData) (ps : List Str), FnOk P w K mg base CX0 k f fd ps (spU ⟨K, C⟩ n own m) ∧ Meth K cl x f ∧ Binds K fd ps []
structure DfMX (P : Program) (w : World) (K : PySem.W.Frag) (mg : Str → Option Value) (base : Heap) (C : Ct) (k : Nat) (cl : Addr) (x : Str) (n : Nat) (own : Option Nat) (m : Fd) : Prop where
  ex : ∃ (f : Addr) (fd : FuncData) (ps : List Str), FnOk P w K mg base (L2.CX P w) k f fd ps (spU ⟨K, C⟩ n own m) ∧ Meth K cl x f ∧ Binds K fd ps []
/-- a method of the text as it stands behind the top -/
structure MethAt (K : PySem.W.Frag) (cl : Addr) (x q : Str) (st : Stmt) (ps : List Str) : Prop where
  ex : ∃ (f : Addr) (fd : FuncData), Fun K x q st f fd ∧ Meth K cl x f ∧ Binds K fd ps []
section
variable {P : Program} {w : World} {K : PySem.W.Frag} {mg : Str → Option Value} {base : Heap} {C : Ct}
theorem df_ofU {x : Str} {st : Stmt} {N ps : List Str} {k n : Nat} {own : Option Nat} {body : Nat → Sv} (T : DefAt K mg x st ps) (S : FnScope N ps (defScope st)) (hn : ps.length = n) (hN : n ≤ N.length)
    (h : ∀ (X : Cx) (f : Addr) (A : Around) (s : Shared) (H : Hp) (E : XK) (outer : List PySem.Env) (cdv : Value), X = (cxOf CX0 P w K mg base N x (defScope st) f cdv A outer s H E).nox → Room k X.A →
      ∃ t, PSs X (defBody st) t ∧ ∀ n0, DS ⟨K, C⟩ n0 (fun cls dx _ H => E cls dx H) t (body n0)) : DfU P w K mg base C (k + 1) x n own (runU N.length own body) := by
  obtain ⟨f, fd, F, hm, b⟩ := T.ex
  refine ⟨f, fd, ps, F.ok S (fun vs H Q E q => by rw [spU_len q, hn]) (fun cdv A outer s H vs Q E hr q => ?_), hm, F.kp, b⟩
  obtain ⟨t, h1, h2⟩ := h _ f A s H E outer cdv rfl hr
  exact ⟨t, h1, def_readsU h2 hN q⟩
theorem df_ofUX {x : Str} {st : Stmt} {N ps : List Str} {k n : Nat} {own : Option Nat} {body : Nat → Sv} (T : DefAt K mg x st ps) (S : FnScope N ps (defScope st)) (hn : ps.length = n) (hN : n ≤ N.length)
    (h : ∀ (X : Cx) (f : Addr) (A : Around) (s : Shared) (H : Hp) (E : XK) (outer : List PySem.Env) (cdv : Value), X = cxOf (L2.CX P w) P w K mg base N x (defScope st) f cdv A outer s H E → Room k X.A → Takes X (fun cls dx _ H => E cls dx H) → PassesOwn (model X.prog X.w) X.A X.env X.xe →
      ∃ t, PSs X (defBody st) t ∧ ∀ n0, DS ⟨K, C⟩ n0 (fun cls dx _ H => E cls dx H) t (body n0)) : DfUX P w K mg base C (k + 1) x n own (runU N.length own body) := by
  obtain ⟨f, fd, F, hm, b⟩ := T.ex
  refine ⟨f, fd, ps, F.okX S (fun vs H Q E q => by rw [spU_len q, hn]) (fun cdv A outer s H vs Q E hr q => ?_), hm, F.kp, b⟩
  obtain ⟨t, h1, h2⟩ := h _ f A s H E outer cdv rfl hr (takes_of rfl rfl rfl rfl) (passes_of rfl)
  exact ⟨t, h1, def_readsU h2 hN q⟩
theorem df_ofM {x q : Str} {cl : Addr} {st : Stmt} {N ps : List Str} {k n : Nat} {own : Option Nat} {body : Nat → Sv} (T : MethAt K cl x q st ps) (S : FnScope N ps (defScope st)) (hn : ps.length = n) (hN : n ≤ N.length)
    (h : ∀ (X : Cx) (f : Addr) (A : Around) (s : Shared) (H : Hp) (E : XK) (outer : List PySem.Env) (cdv : Value), X = (cxOf CX0 P w K mg base N q (defScope st) f cdv A outer s H E).nox → Room k X.A →
      ∃ t, PSs X (defBody st) t ∧ ∀ n0, DS ⟨K, C⟩ n0 (fun cls dx _ H => E cls dx H) t (body n0)) : DfM P w K mg base C (k + 1) cl x n own (runU N.length own body) := by
  obtain ⟨f, fd, F, hm, b⟩ := T.ex
  refine ⟨f, fd, ps, F.ok S (fun vs H Q E q => by rw [spU_len q, hn]) (fun cdv A outer s H vs Q E hr q => ?_), hm, b⟩
  obtain ⟨t, h1, h2⟩ := h _ f A s H E outer cdv rfl hr
  exact ⟨t, h1, def_readsU h2 hN q⟩
theorem df_ofMX {x q : Str} {cl : Addr} {st : Stmt} {N ps : List Str} {k n : Nat} {own : Option Nat} {body : Nat → Sv} (T : MethAt K cl x q st ps) (S : FnScope N ps (defScope st)) (hn : ps.length = n) (hN : n ≤ N.length)
    (h : ∀ (X : Cx) (f : Addr) (A : Around) (s : Shared) (H : Hp) (E : XK) (outer : List PySem.Env) (cdv : Value), X = cxOf (L2.CX P w) P w K mg base N q (defScope st) f cdv A outer s H E → Room k X.A → Takes X (fun cls dx _ H => E cls dx H) → PassesOwn (model X.prog X.w) X.A X.env X.xe →
      ∃ t, PSs X (defBody st) t ∧ ∀ n0, DS ⟨K, C⟩ n0 (fun cls dx _ H => E cls dx H) t (body n0)) : DfMX P w K mg base C (k + 1) cl x n own (runU N.length own body) := by
  obtain ⟨f, fd, F, hm, b⟩ := T.ex
  refine ⟨f, fd, ps, F.okX S (fun vs H Q E q => by rw [spU_len q, hn]) (fun cdv A outer s H vs Q E hr q => ?_), hm, b⟩
  obtain ⟨t, h1, h2⟩ := h _ f A s H E outer cdv rfl hr (takes_of rfl rfl rfl rfl) (passes_of rfl)
  exact ⟨t, h1, def_readsU h2 hN q⟩
end
/-! ### fields -/
def lkF (f : Str) (fs : List (Str × D)) : Option D := fs.lookup f
def putFD (f : Str) (d : D) : List (Str × D) → List (Str × D)
  | [] => [(f, d)]
  | (g, x) :: r => if g = f then (g, d) :: r else (g, x) :: putFD f d r
theorem lkF_rel {K : PySem.W.Frag} {w : Hw} {f : Str} {d : D} : ∀ {fs : List (Str × D)} {fs' : List (Str × V)}, fs'.map (·.1) = fs.map (·.1) → Frs K w (fs.map (·.2)) (fs'.map (·.2)) → fs.lookup f = some d → ∃ v, fs'.lookup f = some v ∧ Fr K w d v
  | [], fs', _, _, h => by cases h
  | (g, e) :: fs, [], h, _, _ => by cases h
  | (g, e) :: fs, (g', v) :: fs', h, r, l => by
    injection h with h1 h2
    have h1 : g' = g := h1
    subst h1
    obtain ⟨v', r', e', fr, t⟩ := r
    injection e' with e1 e2
    have e1 : v = v' := e1
    subst e1
    rw [List.lookup] at l ⊢
    split at l
    · cases l
      exact ⟨v, rfl, fr⟩
    · exact lkF_rel h2 (e2 ▸ t) l
theorem lkF_none {f : Str} : ∀ {fs : List (Str × D)} {fs' : List (Str × V)}, fs'.map (·.1) = fs.map (·.1) → fs.lookup f = none → fs'.lookup f = none
  | [], [], _, _ => rfl
  | [], _ :: _, h, _ => by cases h
  | (g, e) :: fs, [], h, _ => by cases h
  | (g, e) :: fs, (g', v) :: fs', h, l => by
    injection h with h1 h2
    have h1 : g' = g := h1
    subst h1
    rw [List.lookup] at l ⊢
    split at l
    · cases l
    · exact lkF_none h2 l
theorem putF_rel {K : PySem.W.Frag} {w : Hw} {f : Str} {d : D} {v : V} (fr : Fr K w d v) : ∀ {fs : List (Str × D)} {fs' : List (Str × V)}, fs'.map (·.1) = fs.map (·.1) → Frs K w (fs.map (·.2)) (fs'.map (·.2)) →
    (putF f v fs').map (·.1) = (putFD f d fs).map (·.1) ∧ Frs K w ((putFD f d fs).map (·.2)) ((putF f v fs').map (·.2))
  | [], [], _, _ => ⟨rfl, v, [], rfl, fr, rfl⟩
  | [], _ :: _, h, _ => by cases h
  | (g, e) :: fs, [], h, _ => by cases h
  | (g, e) :: fs, (g', u) :: fs', h, r => by
    injection h with h1 h2
    have h1 : g' = g := h1
    subst h1
    obtain ⟨v', r', e', fr', t⟩ := r
    injection e' with e1 e2
    have e1 : u = v' := e1
    subst e1
    have e2 : fs'.map (·.2) = r' := e2
    unfold putF putFD
    split
    · exact ⟨by simp [h2], v, _, rfl, fr, by rw [e2]; exact t⟩
    · obtain ⟨a, b⟩ := putF_rel fr h2 (by rw [e2]; exact t)
      exact ⟨by simp [a], u, _, rfl, fr', b⟩
theorem putFD_low {n : Nat} {f : Str} {d : D} (hd : d.low n = true) : ∀ {fs : List (Str × D)}, lows n (fs.map (·.2)) = true → lows n ((putFD f d fs).map (·.2)) = true
  | [], _ => by simp [putFD, lows, hd]
  | (g, e) :: fs, h => by
    simp only [List.map_cons, lows, Bool.and_eq_true] at h
    unfold putFD
    split
    · simp [lows, hd, h.2]
    · have := putFD_low (f := f) hd h.2
      simp [lows, h.1, this]
/-- what the text says of a class: its address, its fields -/
structure ClF (K : PySem.W.Frag) (C : Ct) (c : Str) (a : Addr) : Prop where
  cls : C.cls c = .ref a
  c : L2.Cls K a
section
variable {G : Gx} {n0 : Nat} {W : WX}
def fld1 (c f : Str) (d : D) (μ : Mu) : Ro D := match d with
  | .cell k => match μ[k]? with
    | some (some (.ins c' fs)) => if c' = c then match fs.lookup f with
      | some e => some (.ok e μ)
      | none => none else none
    | _ => none
  | _ => none
def eFld (c f : Str) (fo : Ev D) : Ev D := fun ρ μ => (fo ρ μ).bnd (fld1 c f)
theorem de_fld {c f : Str} {a : Addr} {t : TE} {fo : Ev D} (F : ClF G.K G.C c a) (N : NoAttr G.K a f) (h : DE G n0 W t fo) : DE G n0 W (tFld G.K t f) (eFld c f fo) := by
  intro w ρ μ σ cc vr hn
  refine (h w ρ μ σ cc vr hn).bnd (uu := fun x H1 (Q : VK) => ∃ a C dx fs v, x = .ref a ∧ H1 a = some (.ins C dx fs) ∧ L2.Cls G.K C ∧ NoAttr G.K C f ∧ fs.lookup f = some v ∧ Q v H1) fun w1 μ1 d x p1 r1 => ?_
  intro q e Q fin
  unfold fld1 at e
  split at e <;> try cases e
  rename_i k
  split at e <;> try cases e
  rename_i c' fs hm
  split at e <;> try cases e
  rename_i hc
  split at e <;> cases e
  rename_i e hl
  obtain ⟨b, rfl, hb⟩ := r1
  obtain ⟨⟨C, dx, fs', e0, e1, e2, e3⟩, _⟩ := p1.mc.cell k _ b hm hb
  subst hc
  rw [F.cls] at e0
  cases e0
  obtain ⟨v, hv, fr⟩ := lkF_rel e2 e3 hl
  exact ⟨b, _, dx, fs', v, rfl, e1, F.c, N, hv, fin w1 v (.refl p1.mc) fr⟩
/-- o.f = e -/
def sFldS (n0 : Nat) (c f : Str) (fo fv : Ev D) : Sv := fun ρ μ => (fv ρ μ).thn ρ fun v μ1 => (fo ρ μ1).thn ρ fun o μ2 => match o with
  | .cell k => match μ2[k]? with
    | some (some (.ins c' fs)) => if (c' = c ∧ fs.length < 1000) ∧ (decide (n0 ≤ k) || v.pure) = true then some (.nx ρ (μ2.set k (some (.ins c' (putFD f v fs))))) else none
    | _ => none
  | _ => none
theorem ds_fld {c f : Str} {a : Addr} {to tv : TE} {fo fv : Ev D} (F : ClF G.K G.C c a) (N : NoAttr G.K a f) (ho : DE G n0 W to fo) (hv : DE G n0 W tv fv) : DS G n0 W (sFld G.K to tv f) (sFldS n0 c f fo fv) := by
  intro w ρ μ σ mc vr hn fl e E fin
  refine thn_run hv mc vr hn e fin fun w1 μ1 v y p1 r1 e fin => ?_
  refine thn_run ho p1.mc (vr.mono p1.ex) (p1.nn hn) e fin fun w2 μ2 o x p2 r2 e fin => ?_
  have vr2 := (vr.mono p1.ex).mono p2.ex
  have rv := r1.mono p2.ex
  split at e <;> try cases e
  rename_i k
  split at e <;> try cases e
  rename_i c' fs hm
  split at e <;> rename_i hs <;> cases e
  obtain ⟨⟨hc, hl⟩, hs⟩ := hs
  obtain ⟨b, rfl, hb⟩ := r2
  obtain ⟨⟨C, dx, fs', e0, e1, e2, e3⟩, _⟩ := p2.mc.cell k _ b hm hb
  subst hc
  have e0' := e0
  rw [F.cls] at e0
  cases e0
  have hl' : fs'.length = fs.length := by simpa using congrArg List.length e2
  refine ⟨b, _, dx, fs', rfl, e1, F.c, N, by omega, ?_⟩
  obtain ⟨m1, m2⟩ := putF_rel (f := f) rv e2 e3
  have x4 : Ex w2 (w2.wr b (.ins a dx (putF f y fs'))) := Ex.wr p2.mc hm hb
  have c4 := Mc.wr (m' := .ins c' (putFD f v fs)) (o := .ins a dx (putF f y fs')) p2.mc hm hb ⟨_, dx, _, e0', upd_same, m1, m2.mono x4⟩
  exact fin (w2.wr b (.ins a dx (putF f y fs'))) σ ⟨x4, c4, Kp.wr fun n hn hk lo => putFD_low (wr_low hs hn hk) (lo _ _ hk hm)⟩ (vr2.mono x4)
/-! ### calls of defs whose cells stay -/
def callU (n0 : Nat) (own : Option Nat) (m : Fd) (ds : List D) (μ1 : Mu) : Ro D := match base0 own ds μ1 with
  | some k => if n0 ≤ k then m ds μ1 else none
  | none => none
def noX (r : Ro D) : Ro D := match r with
  | some (.ok d μ) => some (.ok d μ)
  | _ => none
def eCallU (n0 : Nat) (own : Option Nat) (m : Fd) (f : Ev (List D)) : Ev D := fun ρ μ => (f ρ μ).bnd fun ds μ1 => noX (callU n0 own m ds μ1)
def eCallUX (n0 : Nat) (own : Option Nat) (m : Fd) (f : Ev (List D)) : Ev D := fun ρ μ => (f ρ μ).bnd (callU n0 own m)
theorem callU_ok {own : Option Nat} {m : Fd} {ds : List D} {μ1 : Mu} {r : Rs D} (e : callU n0 own m ds μ1 = some r) : ∃ k, base0 own ds μ1 = some k ∧ n0 ≤ k ∧ m ds μ1 = some r := by
  unfold callU at e
  split at e <;> try cases e
  rename_i k hk
  split at e
  · rename_i h
    exact ⟨k, hk, h, e⟩
  · cases e
theorem noX_ok {r : Ro D} {q : Rs D} (e : noX r = some q) : ∃ d μ, q = .ok d μ ∧ r = some (.ok d μ) := by
  unfold noX at e
  split at e <;> cases e
  exact ⟨_, _, rfl, rfl⟩
theorem spU_of {n : Nat} {own : Option Nat} {m : Fd} {w1 : Hw} {μ1 : Mu} {ds : List D} {vs : List V} {σ : L2.St} {d : D} {μ2 : Mu} {Q : VK} {E : XK} (c : Mc G w1 μ1) (r : Frs G.K w1 ds vs) (hn : ds.length = n) {k : Nat} (hb : base0 own ds μ1 = some k) (hk : n0 ≤ k) (e : m ds μ1 = some (.ok d μ2))
    (fin : FinX G n0 W (Fr G.K) w1 μ1 σ Q (.ok d μ2)) : spU G n own m vs w1.H Q E :=
  ⟨w1, μ1, ds, _, k, rfl, c, r, hn, hb, e, fun w2 v p2 r2 => fin w2 v ⟨p2.ex, p2.mc, p2.kp.mono hk⟩ r2⟩
theorem spU_ofX {n : Nat} {own : Option Nat} {m : Fd} {w1 : Hw} {μ1 : Mu} {ds : List D} {vs : List V} {σ : L2.St} {q : Rs D} {Q : VK} (c : Mc G w1 μ1) (r : Frs G.K w1 ds vs) (hn : ds.length = n) {k : Nat} (hb : base0 own ds μ1 = some k) (hk : n0 ≤ k) (e : m ds μ1 = some q)
    (fin : FinX G n0 W (Fr G.K) w1 μ1 σ Q q) : spU G n own m vs w1.H Q (fun cls dx H => W cls dx σ H) := by
  refine ⟨w1, μ1, ds, q, k, rfl, c, r, hn, hb, e, ?_⟩
  cases q with
  | ok d μ2 => exact fun w2 v p2 r2 => fin w2 v ⟨p2.ex, p2.mc, p2.kp.mono hk⟩ r2
  | exc x μ2 => exact fun w2 cls dx p2 x2 => fin w2 cls dx ⟨p2.ex, p2.mc, p2.kp.mono hk⟩ x2
theorem de_callU {n : Nat} {own : Option Nat} {m : Fd} {t : TA} {f : Ev (List D)} (h : DA G n0 W t f) (hn : ArgN n f) : DE G n0 W (tCall (spU G n own m) [] E0 t) (eCallU n0 own m f) := by
  intro w ρ μ σ c vr hn0 r e Q fin
  rcases Ro.bnd_some e with ⟨ds, μ1, e1, e2⟩ | ⟨x, μ1, e1, e2⟩
  · refine h w ρ μ σ c vr hn0 _ e1 _ fun w1 vs p r1 => ?_
    obtain ⟨d, μ2, rfl, e3⟩ := noX_ok e2
    obtain ⟨k, hb, hk, e4⟩ := callU_ok e3
    exact spU_of p.mc (by rw [List.append_nil]; exact r1) (hn ρ μ ds μ1 e1) hb hk e4 (fin.post p)
  · subst e2
    exact h w ρ μ σ c vr hn0 _ e1 _ fun w1 cls dx p x => fin w1 cls dx p x
theorem de_callUX {n : Nat} {own : Option Nat} {m : Fd} {t : TA} {f : Ev (List D)} (h : DA G n0 W t f) (hn : ArgN n f) : DE G n0 W (tCallSD (spU G n own m) [] (fun σ cls dx H => W cls dx σ H) t) (eCallUX n0 own m f) := by
  intro w ρ μ σ c vr hn0 r e Q fin
  rcases Ro.bnd_some e with ⟨ds, μ1, e1, e2⟩ | ⟨x, μ1, e1, e2⟩
  · refine h w ρ μ σ c vr hn0 _ e1 _ fun w1 vs p r1 => ?_
    obtain ⟨k, hb, hk, e4⟩ := callU_ok e2
    exact spU_ofX p.mc (by rw [List.append_nil]; exact r1) (hn ρ μ ds μ1 e1) hb hk e4 (fin.post p)
  · subst e2
    exact h w ρ μ σ c vr hn0 _ e1 _ fun w1 cls dx p x => fin w1 cls dx p x
/-! ### methods -/
/-- what a method is called on -/
def recvM (c mn : Str) (o : D) (μ : Mu) : Bool := match o with
  | .cell k => match μ[k]? with
    | some (some (.ins c' fs)) => decide (c' = c) && (fs.lookup mn).isNone
    | _ => false
  | _ => false
def eMeth (n0 : Nat) (c mn : Str) (own : Option Nat) (m : Fd) (fo : Ev D) (f : Ev (List D)) : Ev D := fun ρ μ => (fo ρ μ).bnd fun o μ1 => if recvM c mn o μ1 = true then (f ρ μ1).bnd fun ds μ2 => noX (callU n0 own m (o :: ds) μ2) else none
def eMethX (n0 : Nat) (c mn : Str) (own : Option Nat) (m : Fd) (fo : Ev D) (f : Ev (List D)) : Ev D := fun ρ μ => (fo ρ μ).bnd fun o μ1 => if recvM c mn o μ1 = true then (f ρ μ1).bnd fun ds μ2 => callU n0 own m (o :: ds) μ2 else none
theorem recv_ok {c mn : Str} {a : Addr} {o : D} {μ1 : Mu} {w1 : Hw} {x : V} (F : ClF G.K G.C c a) (cm : Mc G w1 μ1) (h : recvM c mn o μ1 = true) (r : Fr G.K w1 o x) : ∃ b dx fs, x = .ref b ∧ w1.H b = some (.ins a dx fs) ∧ fs.lookup mn = none := by
  unfold recvM at h
  split at h <;> try cases h
  rename_i k
  split at h <;> try cases h
  rename_i c' fs hm
  rw [Bool.and_eq_true, decide_eq_true_eq] at h
  obtain ⟨hc, hl⟩ := h
  obtain ⟨b, rfl, hb⟩ := r
  obtain ⟨⟨C, dx, fs', e0, e1, e2, e3⟩, _⟩ := cm.cell k _ b hm hb
  subst hc
  rw [F.cls] at e0
  cases e0
  exact ⟨b, dx, fs', rfl, e1, lkF_none e2 (by simpa using hl)⟩
theorem de_meth {c mn : Str} {a : Addr} {n : Nat} {own : Option Nat} {m : Fd} {to : TE} {t : TA} {fo : Ev D} {f : Ev (List D)} (F : ClF G.K G.C c a) (ho : DE G n0 W to fo) (h : DA G n0 W t f) (hn : ArgN n f) : DE G n0 W (tMeth a mn (spU G (n + 1) own m) [] E0 to t) (eMeth n0 c mn own m fo f) := by
  intro w ρ μ σ cc vr hn0
  refine (ho w ρ μ σ cc vr hn0).bnd (uu := fun x H1 (Q : VK) => ∃ b dx fs, x = .ref b ∧ H1 b = some (.ins a dx fs) ∧ fs.lookup mn = none ∧ t σ H1 fun vs H2 => spU G (n + 1) own m (x :: (vs ++ [])) H2 Q E0) fun w1 μ1 o x p1 r1 => ?_
  intro q e Q fin
  split at e <;> rename_i hr <;> try cases e
  obtain ⟨b, dx, fs, rfl, hb, hl⟩ := recv_ok F p1.mc hr r1
  refine ⟨b, dx, fs, rfl, hb, hl, ?_⟩
  rcases Ro.bnd_some e with ⟨ds, μ2, e1, e2⟩ | ⟨x, μ2, e1, e2⟩
  · refine h w1 ρ μ1 σ p1.mc (vr.mono p1.ex) (p1.nn hn0) _ e1 _ fun w2 vs p2 r2 => ?_
    obtain ⟨d, μ3, rfl, e3⟩ := noX_ok e2
    obtain ⟨k, hb2, hk, e4⟩ := callU_ok e3
    exact spU_of (ds := o :: ds) p2.mc ⟨_, _, rfl, r1.mono p2.ex, by rw [List.append_nil]; exact r2⟩ (by rw [List.length_cons, hn ρ μ1 ds μ2 e1]) hb2 hk e4 (fin.post p2)
  · subst e2
    exact h w1 ρ μ1 σ p1.mc (vr.mono p1.ex) (p1.nn hn0) _ e1 _ fun w2 cls dx p x => fin w2 cls dx p x
/-! making -/
def eMake (n0 : Nat) (c : Str) (m : Fd) (f : Ev (List D)) : Ev D := fun ρ μ => (f ρ μ).bnd fun ds μ1 => match m (.cell μ1.length :: ds) (μ1 ++ [some (.ins c [])]) with
  | some (.ok .non μ2) => some (.ok (.cell μ1.length) μ2)
  | _ => none
theorem de_make {c : Str} {a : Addr} {n : Nat} {m : Fd} {t : TA} {f : Ev (List D)} (F : ClF G.K G.C c a) (h : DA G n0 W t f) (hn : ArgN n f) : DE G n0 W (tMake a (spU G (n + 1) (some 0) m) [] E0 t) (eMake n0 c m f) := by
  intro w ρ μ σ cc vr hn0 r e Q fin
  rcases Ro.bnd_some e with ⟨ds, μ1, e1, e2⟩ | ⟨x, μ1, e1, e2⟩
  · refine h w ρ μ σ cc vr hn0 _ e1 _ fun w1 vs p r1 => ?_
    intro x dx nx ndx hne
    split at e2 <;> cases e2
    rename_i μ2 h2
    obtain ⟨xa, ca, hid⟩ := Hid.new (o := .own x) p.mc ndx
    have nx2 : (w1.wr dx (.own x)).H x = none := (upd_ne hne.symm).trans nx
    have xb : Ex (w1.wr dx (.own x)) ((w1.wr dx (.own x)).mk' x (.ins a dx [])) := .mk' ca nx2
    have cb : Mc G ((w1.wr dx (.own x)).mk' x (.ins a dx [])) (μ1 ++ [some (.ins c [])]) := Mc.mk' (m := .ins c []) ca nx2 ⟨a, dx, [], F.cls, upd_same, rfl, rfl⟩
    have fx : Fr G.K ((w1.wr dx (.own x)).mk' x (.ins a dx [])) (.cell μ1.length) (.ref x) := ⟨x, rfl, by
      show ((w1.wr dx (.own x)).A ++ [x])[μ1.length]? = some x
      rw [← ca.len]
      simp⟩
    have rs := (r1.mono xa).mono xb
    have hb : base0 (some 0) (.cell μ1.length :: ds) (μ1 ++ [some (.ins c [])]) = some μ1.length := by simp [base0]
    refine ⟨_, μ1 ++ [some (.ins c [])], .cell μ1.length :: ds, _, μ1.length, rfl, cb, ⟨_, _, rfl, fx, by rw [List.append_nil]; exact rs⟩, by rw [List.length_cons, hn ρ μ ds μ1 e1], hb, h2, fun w2 v p2 r2 => ?_⟩
    have hnn := p.nn hn0
    refine ⟨r2, fin w2 (.ref x) (p.trans ⟨(xa.trans xb).trans p2.ex, p2.mc, (Kp.push hnn _).trans (p2.kp.mono hnn)⟩) (fx.mono p2.ex)⟩
  · subst e2
    exact h w ρ μ σ cc vr hn0 _ e1 _ fun w1 cls dx p x => fin w1 cls dx p x
end
end G4

/-! G54: a generator expression within a generator expression: the outer one hands out its code's address and table, the inner one is made of it. -/
namespace G4
open PySem PySem.Spec PyProof.Rows L2
/-- a world in which a code object is known -/
def Gx.cd (G : Gx) (c P : Addr) : Gx := ⟨G.K, ⟨G.C.cls, fun a => G.C.tabs a ∨ a = P, G.C.wld, G.C.xds, fun a b => G.C.cods a b ∨ (a = c ∧ b = P)⟩⟩
theorem mr_cd {G : Gx} {w : Hw} {a c P : Addr} : ∀ {m : M}, Mr G w a m ↔ Mr (G.cd c P) w a m
  | .lst _ => Iff.rfl
  | .dK _ => Iff.rfl
  | .dT _ => Iff.rfl
  | .set _ => Iff.rfl
  | .dN _ => Iff.rfl
  | .ins _ _ => Iff.rfl
section
variable {G : Gx} {n0 : Nat} {W : WX} {c P : Addr}
theorem Mc.toC {w : Hw} {μ : Mu} (m : Mc G w μ) (h1 : w.T P ∧ ∃ ps, w.H P = some (.tbl ps)) (h2 : w.T c ∧ w.H c = some (CodeO c P)) : Mc (G.cd c P) w μ :=
  ⟨m.len, m.nd, fun k x a e1 e2 => ⟨mr_cd.mp (m.cell k x a e1 e2).1, (m.cell k x a e1 e2).2⟩, m.old, m.oldA, m.tab, m.tabN, ⟨fun a z => z.elim (m.tab0.tab a) fun e => e ▸ h1, fun a b z => z.elim (m.tab0.cod a b) fun e => e.1 ▸ e.2 ▸ h2⟩, m.xd0⟩
theorem Mc.unC {w : Hw} {μ : Mu} (m : Mc (G.cd c P) w μ) : Mc G w μ :=
  ⟨m.len, m.nd, fun k x a e1 e2 => ⟨mr_cd.mpr (m.cell k x a e1 e2).1, (m.cell k x a e1 e2).2⟩, m.old, m.oldA, m.tab, m.tabN, ⟨fun a z => m.tab0.tab a (.inl z), fun a b z => m.tab0.cod a b (.inl z)⟩, m.xd0⟩
theorem Mc.stC {w w' : Hw} {μ μ' : Mu} (m : Mc (G.cd c P) w μ) (x : Ex w w') (m' : Mc G w' μ') : Mc (G.cd c P) w' μ' := by
  obtain ⟨h1, ps, h2⟩ := m.tab0.tab P (.inr rfl)
  obtain ⟨h3, h4⟩ := m.tab0.cod c P (.inr ⟨rfl, rfl⟩)
  exact m'.toC ⟨x.tabs P h1, (x.tc P h1).2 ps h2⟩ ⟨x.tabs c h3, (x.tc c h3).1 P h4⟩
theorem Yl.toC {w0 : Hw} {src : Src} {J : It} (y : Yl G w0 src J) : Yl (G.cd c P) w0 src J := fun w μ x m ds hd i => by
  obtain ⟨a, b⟩ := y w μ x m.unC ds hd i
  refine ⟨fun d he => ?_, b⟩
  obtain ⟨g, q⟩ := a d he
  refine ⟨g, fun v H' hy => ?_⟩
  obtain ⟨w', e1, e2, e3, e4⟩ := q v H' hy
  exact ⟨w', e1, e2, m.stC e2 e3, e4⟩
theorem Post.unC {w w' : Hw} {μ μ' : Mu} (p : Post (G.cd c P) n0 w μ w' μ') : Post G n0 w μ w' μ' := ⟨p.ex, p.mc.unC, p.kp⟩
end
/-- any, all of a generator expression whose code's table is P; Fc: what else must be so; the act knows its own code and table -/
def tGenN (P : Addr) (Fc : Hp → Prop) (wi : TI) (g : TG) (tt : TT) (act : Addr → Addr → (Hp → Prop) → GAct) (stop : Bool) (vs : List Nat) : TE := fun σ H Q => wi σ H fun J H1 => Fc H1 ∧ ∃ (T : Addr → Prop) (ps : Array Value), TabsOk T H1 ∧ T P ∧ H1 P = some (.tbl ps) ∧
  ∀ T' H2 c' P', Grown T H1 T' H2 → H2 c' = some (CodeO c' P') → T' c' → T' P' → (∃ ps', H2 P' = some (.tbl ps')) → ∃ n, gLoop J g tt (act c' P' (fun H' => Q (.bl stop) H') ) (fun _ _ H' => Q (.bl (!stop)) H') n (wipe σ vs) H2
/-- in the context of the generator whose code is at c -/
abbrev GensC (k : Nat) (X : Cx) (sc : Scope) (c : Addr) (F : Cx → Prop) : Prop := ∀ (s : Shared) (H : Hp) (C : Addr) (cl : List (Str × Addr)) (fp : List Addr), Room k ((X.A.in1.in1).deeper (genEnv sc cl C (.ref c) builtinsNs X.env)) → F (Cx.gen X s H sc (genEnv sc cl C (.ref c) builtinsNs X.env) fp)
section
variable {X : Cx}
/-- the generator is made, stands ready; then what the consumer does -/
theorem gen_madeN {elt tg iter : Expr} {ifs : List Expr} {rest : List Comprehension} {sc : Scope} {own : List (Str × Nat)} {gpos : Pos} {wi : TI} {g : TG} {tt : TT} {act : Addr → Addr → (Hp → Prop) → GAct} {em : PySem.Env → Sem PySem.Fin → Sem PySem.Fin} {stop : Bool} {k : Nat} {c P cB PB : Addr} {Fc : Hp → Prop}
    {pins : List (Addr × Obj)} {s : Shared} {σ : L2.St} {H : Hp} {Q : VK} {Q' : Value → Shared → Prop}
    (ct : ∀ it env, compTurn (ge elt (cl0 tg iter ifs :: rest) sc gpos) 0 it .none env = cturn (ge elt (cl0 tg iter ifs :: rest) sc gpos) 0 iter.pos tg ifs (em env) it .none env)
    (hr : Room (k + 1) X.A) (hc : X.calm = true) (hN : X.N.Nodup) (TB : GxR.TabB X.base X.mg cB PB) (hcode : X.env.code = .ref c) (hCH : ∀ pins s σ H, Inv X pins σ H s → Fc H → PySem.W.CodeHd s.heap c P) (hco : sc.isCoroutine = false) (h0 : sc.names.lookup (".0" : Str) = some NameKind.local)
    (hi : PI X tg iter wi) (ok : BlkOk X.N X.env.scope sc own) (hg : ∀ c', GensC k X sc c' fun X' => PG X' tg g) (ht : ∀ c', GensC k X sc c' fun X' => PTs X' ifs tt)
    (ha : ∀ c' P' F p0 R, GensC k X sc c' fun X' => EmSeg X' p0 (X.A.in1.in1) R (YB X' p0 stop F) (em X'.env) (act c' P' F)) (hs : ∀ x, genFold iter X.env x = pure x)
    (I : Inv X pins σ H s) (h : tGenN P Fc wi g tt act stop (own.map (·.2)) σ H Q)
    (hQ : ∀ (B : Cx) (p0 : Addr × Obj) (gi n : Nat) (s5 : Shared), p0.2.cls = .type "generator" → p0.2.slots = #[] → (∃ nm qn, p0.2.data = .fields #[.int gi 0, nm, qn]) → s5.heap.IsGen p0.1 gi →
      GSt X.prog X.w X.A.in1.in1 B p0 stop (fun H' => Q (.bl stop) H') (fun H' => Q (.bl (!stop)) H') gi n s5 → (∀ pins' σ' H' s', Inv B pins' σ' H' s' → Inv X pins σ H' s') → Q' (.ref p0.1) s5) :
    wpAny (model X.prog X.w) X.A (eval (ge elt (cl0 tg iter ifs :: rest) sc gpos) X.env) Q' X.xe s := by
  have hfree : ∀ y ∈ sc.names, y.2 = .free → ∃ c, X.env.cells.lookup y.1 = some c := by
    intro y hy e
    have := ok.free y hy e
    exact I.ok.has _ this
  rw [evalG _ _ _ _ _ _ _ _ hco]
  refine wpAny_bind (thn (hi.run pins s σ H _ I h) fun xv s1 hx => ?_)
  refine wpAny_bind (wpAny_standAt (wpAny_bind (wpAny_of_eq (hs xv) ?_)))
  refine wpAny_bind (wpAny_holding (thn hx fun itv s2 h2 => ?_))
  obtain ⟨it, fp, tn, J, H2, rfl, I2, T, st2, f2, hFc, TT, ps, hT, hTP, hPs, q⟩ := h2
  refine wpAny_bind (wpAny_enterFrame I2.nolimit hr.depth ?_)
  refine wpAny_bind (wpAny_of_eq (closure_ok hfree) ?_)
  have CH : PySem.W.CodeHd s2.heap c P := hCH _ _ _ _ I2 hFc
  refine wpAny_bind (gen_code hcode CH I2 hT hTP hPs fun cv h3 tk3 H3 T3 I3 gr kp3 ko3 hcd => ?_)
  obtain ⟨c2, P2, rfl, hcd1, hcd2, hcd3, hcd4⟩ := hcd
  obtain ⟨bm, ob, e1, e2, e3, e4, e5, e6, e7, e8⟩ := TB.bm
  refine wpAny_bind (wpAny_builtinsFor (m := X.mg) ?_ e1 e2 (I3.bk _ _ e5) e6 e7 e8 ?_)
  · rw [I3.ok.glob]
    exact I3.mod.glob.keeps I3.bk
  obtain ⟨n, hloop⟩ := q T3 H3 c2 P2 gr hcd1 hcd2 hcd3 hcd4
  have nP : ∀ b ∈ fp, b ≠ P := fun b hb z => by
    have := (f2 b hb).1
    rw [z, hPs] at this
    cases this
  have f3 : ∀ b ∈ fp, FpOk X pins H3 b ∧ b < h3.objs.size := by
    intro b hb
    obtain ⟨o, e, _⟩ := T.obj _ _ st2 b hb
    refine ⟨⟨?_, (f2 b hb).2⟩, Heap.lt_size (kp3 b o (nP b hb) e)⟩
    rw [ko3 b o (nP b hb) e]
    exact (f2 b hb).1
  have st3 : tn 0 h3 := T.keep _ _ _ st2 fun b hb o e => kp3 b o (nP b hb) e
  generalize hs4 : ({ s2 with heap := h3, toks := tk3 } : Shared) = s4 at I3 ⊢
  have hh4 : s4.heap = h3 := by rw [← hs4]
  rw [← hh4] at f3 st3
  refine wpAny_bind (newEnv_gen ok.kind h0 fun h' tk hn' hk' => ?_)
  rw [show newEnv sc s4.heap.objs.size X.env.globals (cellsFrom (s4.heap.objs.size + 1) sc.names (cloFrom X.env.cells sc.names [])) (X.env.qual ++ "<genexpr>.") none (.ref c2) none builtinsNs = genEnv sc (cellsFrom (s4.heap.objs.size + 1) sc.names (cloFrom X.env.cells sc.names [])) s4.heap.objs.size (.ref c2) builtinsNs X.env from rfl]
  simp only [newGenerator, newFields]
  refine wpAny_bind (wpAny_newGen (wpAny_bind (wpAny_mkText (wpAny_bind (wpAny_mkText (wpAny_newObj_type ?_ (by size_fits)))))))
  have kp' : ∀ b o, s4.heap.get? b = some o → h'.get? b = some o := fun b o e => hk' b o (Nat.ne_of_lt (Heap.lt_size e)) (pushCells_keeps _ _ _ _ (Heap.get?_push_of_some _ e))
  have room := room_gen hr (genEnv sc (cellsFrom (s4.heap.objs.size + 1) sc.names (cloFrom X.env.cells sc.names [])) s4.heap.objs.size (.ref c2) builtinsNs X.env)
  have pg := hg c2 s4 H3 s4.heap.objs.size (cellsFrom (s4.heap.objs.size + 1) sc.names (cloFrom X.env.cells sc.names [])) fp room
  have pt := ht c2 s4 H3 s4.heap.objs.size (cellsFrom (s4.heap.objs.size + 1) sc.names (cloFrom X.env.cells sc.names [])) fp room
  have pa := fun F p0 R => ha c2 P2 F p0 R s4 H3 s4.heap.objs.size (cellsFrom (s4.heap.objs.size + 1) sc.names (cloFrom X.env.cells sc.names [])) fp room
  generalize hce : genEnv sc (cellsFrom (s4.heap.objs.size + 1) sc.names (cloFrom X.env.cells sc.names [])) s4.heap.objs.size (.ref c2) builtinsNs X.env = cenv at room pg pt pa ⊢
  have main : ∀ (go : Obj) (tk' : Nat), go.cls = .type "generator" → go.slots = #[] → (∃ nm qn, go.data = .fields #[.int s4.gens.size 0, nm, qn]) → (∀ h : Heap, (h.push go).get? h.objs.size = some go) →
      Q' (.ref h'.objs.size) { s4 with heap := h'.push go, gens := s4.gens.push (.fresh (.compStart (ge elt (cl0 tg iter ifs :: rest) sc gpos) 0 (.ref it) .none cenv)), toks := tk' } := by
    intro go tk' hgc hgs hgd hgp
    have pushed : (h'.push go).get? h'.objs.size = some go := hgp h'
    have kpp : ∀ b o, h'.get? b = some o → (h'.push go).get? b = some o := fun b o e => Heap.get?_push_of_some _ e
    have I5 : Inv (Cx.gen X s4 H3 sc cenv fp) [] (wipe σ (own.map (·.2))) H3 { s4 with heap := h'.push go, toks := tk', gens := s4.gens.push (.fresh (.compStart (ge elt (cl0 tg iter ifs :: rest) sc gpos) 0 (.ref it) .none cenv)) } := by
      rw [← hce]
      exact gen_start I3 ok hN f3 (hn'.keeps kpp) (fun b o hb e => kpp b o (hk' b o hb e)) (AllBare.push I3.bare rfl)
    have cL : cenv.locals = s4.heap.objs.size := by rw [← hce]; rfl
    have s4lt : s4.heap.objs.size < h'.objs.size := hn'.lt
    have I6 : Inv (Cx.gen X s4 H3 sc cenv fp) [(h'.objs.size, go)] (wipe σ (own.map (·.2))) H3 { s4 with heap := h'.push go, toks := tk', gens := s4.gens.push (.fresh (.compStart (ge elt (cl0 tg iter ifs :: rest) sc gpos) 0 (.ref it) .none cenv)) } := by
      refine I5.pins_of fun p hp => ?_
      obtain rfl : p = (h'.objs.size, go) := by simpa using hp
      refine ⟨pushed, I3.hok.fresh (Nat.le_of_lt s4lt), ?_, fun z => ?_, fun v z => ?_⟩
      · show h'.objs.size ≠ cenv.locals
        rw [cL]; exact Nat.ne_of_gt s4lt
      · have z : h'.objs.size ∈ frs X.stack := z
        rcases List.mem_cons.mp (I3.stkSub _ z) with z | z
        · exact Nat.lt_irrefl _ (Nat.lt_trans (z ▸ I3.lt) s4lt)
        · exact I3.nofs (Nat.le_of_lt s4lt) z
      · obtain ⟨nm, qn, hgd⟩ := hgd
        have z : go.data = .cell v := z
        rw [hgd] at z; cases z
    have isg : ∀ h : Heap, h.get? h'.objs.size = some go → h.IsGen h'.objs.size s4.gens.size := fun h e => by
      obtain ⟨nm, qn, hgd⟩ := hgd
      exact ⟨go, nm, qn, e, hgc, hgd, hgs⟩
    have hf5 : ∀ b ∈ fp, FpOk (Cx.gen X s4 H3 sc cenv fp) [(h'.objs.size, go)] H3 b := by
      intro b hb
      refine ⟨(f3 b hb).1.1, (I6.ok.exf b hb).1, I6.ok.exfs b hb, .inl hb, fun x c e => (I6.ok.exf b hb).2 x c e, fun p hp => ?_⟩
      obtain rfl : p = (h'.objs.size, go) := by
        have hp : p ∈ ([] : List (Addr × Obj)) ++ [(h'.objs.size, go)] := hp
        simpa using hp
      exact Nat.ne_of_gt (Nat.lt_trans (f3 b hb).2 s4lt)
    have st5 : tn 0 (h'.push go) := T.keep _ _ _ st3 fun b _ o e => kpp b o (kp' b o e)
    refine hQ (Cx.gen X s4 H3 sc cenv fp) (h'.objs.size, go) s4.gens.size n _ hgc hgs hgd (isg _ pushed) ⟨isg _ pushed, I6.nolimit, _, Array.getElem?_push_size .., rfl, ?_⟩ fun pins' σ' H' s' J => ?_
    · have wk : Woke { s4 with heap := h'.push go, toks := tk', gens := s4.gens.push (.fresh (.compStart (ge elt (cl0 tg iter ifs :: rest) sc gpos) 0 (.ref it) .none cenv)) }
          (({ s4 with heap := h'.push go, toks := tk', gens := s4.gens.push (.fresh (.compStart (ge elt (cl0 tg iter ifs :: rest) sc gpos) 0 (.ref it) .none cenv)) } : Shared).setGen s4.gens.size .running) := woke_set I6.bare rfl
      have I7 := wk.inv I6
      refine seg_cstart (hx := leaving cenv) (g := cl0 tg iter ifs) rfl rfl rfl rfl (fun A' Q' E' hq => T.self A' 0 _ _ _ st5 hq) ?_
      refine g_loop (B := Cx.gen X s4 H3 sc cenv fp) (p0 := (h'.objs.size, go)) (hh := leaving cenv) (by rw [← ct]; rfl) rfl over_gen rfl rfl (List.mem_singleton.mpr rfl) hc rfl T pg pt (pa _ _ _) hf5 I7 st5 hloop fun n s₀ s σ' H' I' nx => ?_
      exact seg_end (.ok .next) ⟨rfl, _, σ', H', List.mem_singleton.mpr rfl, I', nx⟩
    · refine I3.call' (ch := fp) J.os J.base J.hok J.bare fun b hb => ?_
      have f := (f3 b hb).1
      exact ⟨f.2.2.2.1, f.2.1, f.2.2.2.2.1, f.2.2.2.2.2⟩
  exact main _ _ rfl rfl ⟨_, _, rfl⟩ fun h => Heap.get?_push_size _ rfl
theorem pe_anyN {elt tg iter : Expr} {ifs : List Expr} {rest : List Comprehension} {sc : Scope} {own : List (Str × Nat)} {gpos p pos : Pos} {wi : TI} {g : TG} {tt : TT} {act : Addr → Addr → (Hp → Prop) → GAct} {em : PySem.Env → Sem PySem.Fin → Sem PySem.Fin} {k : Nat} {c P cB PB : Addr} {Fc : Hp → Prop}
    (hgl : Gl X "any") (hm : X.mg "any" = none)
    (ct : ∀ it env, compTurn (ge elt (cl0 tg iter ifs :: rest) sc gpos) 0 it .none env = cturn (ge elt (cl0 tg iter ifs :: rest) sc gpos) 0 iter.pos tg ifs (em env) it .none env)
    (hr : Room (k + 1) X.A) (hc : X.calm = true) (hN : X.N.Nodup) (TB : GxR.TabB X.base X.mg cB PB) (hcode : X.env.code = .ref c) (hCH : ∀ pins s σ H, Inv X pins σ H s → Fc H → PySem.W.CodeHd s.heap c P) (hco : sc.isCoroutine = false) (h0 : sc.names.lookup (".0" : Str) = some NameKind.local)
    (hi : PI X tg iter wi) (ok : BlkOk X.N X.env.scope sc own) (hg : ∀ c', GensC k X sc c' fun X' => PG X' tg g) (ht : ∀ c', GensC k X sc c' fun X' => PTs X' ifs tt)
    (ha : ∀ c' P' F p0 R, GensC k X sc c' fun X' => EmSeg X' p0 (X.A.in1.in1) R (YB X' p0 true F) (em X'.env) (act c' P' F)) (hs : ∀ x, genFold iter X.env x = pure x)
    (hb : bootBuiltins "any" = some (.builtin "any") := by decide +kernel)
    (he : starEach [ge elt (cl0 tg iter ifs :: rest) sc gpos] X.env = (false, eval (ge elt (cl0 tg iter ifs :: rest) sc gpos) X.env) :: starEach [] X.env := by rfl) :
    PE X (.Call (.Name "any" p) [ge elt (cl0 tg iter ifs :: rest) sc gpos] [] pos) (tGenN P Fc wi g tt act true (own.map (·.2))) := by
  refine ⟨fun pins s σ H Q I h => ?_⟩
  refine wpAny_Call_Name_kw (ld_blt I hgl hm hb ?_)
  refine PyProof.Rows.callWith_builtin1 ?_ he (by rfl)
  rw [he]
  show wpAny _ _ (spliced ((false, eval (ge elt (cl0 tg iter ifs :: rest) sc gpos) X.env) :: backTo pos (starEach [] X.env))) _ _ s
  refine Calls.spliced_cons (gen_madeN ct hr hc hN TB hcode hCH hco h0 hi ok hg ht ha hs I h fun B p0 gi n s5 a1 a2 a3 a4 a5 back => ?_)
  refine Calls.spliced_nil ?_
  exact call_anyG hr.hd hr.depth a1 a2 a3 a4 a5 (fun pins' σ' H' s' hp J f => ⟨.bl true, H', back _ _ _ _ J, rfl, f⟩) fun pins' σ' H' s' hp J f => ⟨.bl false, H', back _ _ _ _ J, rfl, f⟩
theorem pe_allN {elt tg iter : Expr} {ifs : List Expr} {rest : List Comprehension} {sc : Scope} {own : List (Str × Nat)} {gpos p pos : Pos} {wi : TI} {g : TG} {tt : TT} {act : Addr → Addr → (Hp → Prop) → GAct} {em : PySem.Env → Sem PySem.Fin → Sem PySem.Fin} {k : Nat} {c P cB PB : Addr} {Fc : Hp → Prop}
    (hgl : Gl X "all") (hm : X.mg "all" = none)
    (ct : ∀ it env, compTurn (ge elt (cl0 tg iter ifs :: rest) sc gpos) 0 it .none env = cturn (ge elt (cl0 tg iter ifs :: rest) sc gpos) 0 iter.pos tg ifs (em env) it .none env)
    (hr : Room (k + 1) X.A) (hc : X.calm = true) (hN : X.N.Nodup) (TB : GxR.TabB X.base X.mg cB PB) (hcode : X.env.code = .ref c) (hCH : ∀ pins s σ H, Inv X pins σ H s → Fc H → PySem.W.CodeHd s.heap c P) (hco : sc.isCoroutine = false) (h0 : sc.names.lookup (".0" : Str) = some NameKind.local)
    (hi : PI X tg iter wi) (ok : BlkOk X.N X.env.scope sc own) (hg : ∀ c', GensC k X sc c' fun X' => PG X' tg g) (ht : ∀ c', GensC k X sc c' fun X' => PTs X' ifs tt)
    (ha : ∀ c' P' F p0 R, GensC k X sc c' fun X' => EmSeg X' p0 (X.A.in1.in1) R (YB X' p0 false F) (em X'.env) (act c' P' F)) (hs : ∀ x, genFold iter X.env x = pure x)
    (hb : bootBuiltins "all" = some (.builtin "all") := by decide +kernel)
    (he : starEach [ge elt (cl0 tg iter ifs :: rest) sc gpos] X.env = (false, eval (ge elt (cl0 tg iter ifs :: rest) sc gpos) X.env) :: starEach [] X.env := by rfl) :
    PE X (.Call (.Name "all" p) [ge elt (cl0 tg iter ifs :: rest) sc gpos] [] pos) (tGenN P Fc wi g tt act false (own.map (·.2))) := by
  refine ⟨fun pins s σ H Q I h => ?_⟩
  refine wpAny_Call_Name_kw (ld_blt I hgl hm hb ?_)
  refine PyProof.Rows.callWith_builtin1 ?_ he (by rfl)
  rw [he]
  show wpAny _ _ (spliced ((false, eval (ge elt (cl0 tg iter ifs :: rest) sc gpos) X.env) :: backTo pos (starEach [] X.env))) _ _ s
  refine Calls.spliced_cons (gen_madeN ct hr hc hN TB hcode hCH hco h0 hi ok hg ht ha hs I h fun B p0 gi n s5 a1 a2 a3 a4 a5 back => ?_)
  refine Calls.spliced_nil ?_
  exact call_allG hr.hd hr.depth a1 a2 a3 a4 a5 (fun pins' σ' H' s' hp J f => ⟨.bl false, H', back _ _ _ _ J, rfl, f⟩) fun pins' σ' H' s' hp J f => ⟨.bl true, H', back _ _ _ _ J, rfl, f⟩
theorem ga_1C {elt : Expr} {te : Addr → Addr → TE} {sc : Scope} {stop : Bool} {k : Nat} (hco : sc.isCoroutine = false) (he : ∀ c' P', GensC k X sc c' fun X' => PE X' elt (te c' P')) :
    ∀ c' P' F p0 R, GensC k X sc c' fun X' => EmSeg X' p0 (X.A.in1.in1) R (YB X' p0 stop F) (emY elt X'.env) (gYield (te c' P') (ylB stop F)) :=
  fun c' P' F p0 R s H C cl fp room => em_Y rfl hco (he c' P' s H C cl fp room)
/-- the outer generator's code: it stands in the law's heap -/
theorem ch_base {c P : Addr} (TB : GxR.TabB X.base X.mg c P) : ∀ pins s σ H, Inv X pins σ H s → (fun _ : Hp => True) H → PySem.W.CodeHd s.heap c P := fun pins s σ H I _ => TB.code.keeps I.bk
/-- the inner one's: the heap's reading knows it -/
theorem ch_cod {c P : Addr} : ∀ pins s σ H, Inv X pins σ H s → (fun H : Hp => H c = some (CodeO c P)) H → PySem.W.CodeHd s.heap c P := fun pins s σ H I h => (I.hok c _ h).1
end
section
variable {G : Gx} {n0 : Nat} {W : WX}
theorem de_genN {wi : TI} {g : TG} {t : TT} {fi : Ev Src} {tg : Tv} {ft body : Ev Bool} {act : Addr → Addr → (Hp → Prop) → GAct} {cnt : Env → Mu → Nat} {vs : List Nat} {P : Addr} {Fc : Hp → Prop} {stop : Bool} (hP : G.C.tabs P) (hFc : ∀ w μ, Mc G w μ → Fc w.H) (hi : DI G n0 W wi fi) (hg : ∀ c' P', DG (G.cd c' P') n0 W0 g tg) (ho : Own g vs) (hm : Mono g)
    (ht : ∀ c' P', DT (G.cd c' P') n0 W0 t ft) (ha : ∀ c' P', DGA (G.cd c' P') n0 (act c' P') body cnt vs) :
    DE G n0 W (tGenN P Fc wi g t act stop vs) (eGen fi tg ft body vs stop) := by
  intro w ρ μ σ c vr hn r e Q fin
  rcases Ro.bnd_some e with ⟨src, μ1, e1, e2⟩ | ⟨x, μ1, e1, e2⟩
  · refine hi w ρ μ σ c vr hn _ e1 _ fun w1 J p1 y => ?_
    obtain ⟨hT, ps, hps⟩ := p1.mc.tab0.tab P hP
    refine ⟨hFc w1 μ1 p1.mc, w1.T, ps, p1.mc.tab, hT, hps, fun T' H2 c' P' gr k1 k2 k3 k4 => ?_⟩
    obtain ⟨x2, c2⟩ := grown_world p1.mc gr
    have c2' := c2.toC (c := c') (P := P') ⟨k3, k4⟩ ⟨k2, k1⟩
    have p2 : Post G n0 w μ ⟨w1.N, w1.A, H2, T'⟩ μ1 := p1.trans ⟨x2, c2, .refl _ _⟩
    unfold gEnd at e2
    split at e2 <;> cases e2
    rename_i b μf h1
    obtain ⟨k, h2⟩ := gRun_n h1
    refine ⟨_, gloop_ok (w := ⟨w1.N, w1.A, H2, T'⟩) (σ0 := wipe σ vs) (ρ := wipeE ρ vs) (μ := μ1) (μ' := μf) (b := b) (k := k) (src := src) (hg c' P') ho hm (ht c' P') (ha c' P') c2' ((vr.mono p2.ex).wipe vs) rfl (p2.nn hn) (fun w' μ' x' cc => y.toC (c := c') (P := P') w' μ' (x2.e0.trans x') cc) ?_ (Nat.le_refl _) (fun hb w' p' => ?_) fun hb w' σ' n' p' _ _ => ?_⟩
    · have : wipeE (wipeE ρ vs) vs = wipeE ρ vs := by
        apply List.ext_getElem?
        intro i
        have gen : ∀ (ρ : Env) (i : Nat), (wipeE ρ vs)[i]? = if i ∈ vs then (if i < ρ.length then some none else none) else ρ[i]? := by
          intro ρ i
          clear ho ha h1 h2 fin e vr
          induction vs with
          | nil => simp [wipeE]
          | cons v vs ih =>
            unfold wipeE
            rw [List.getElem?_set, ih, wipeE_length]
            by_cases hv : v = i
            · subst hv; simp
            · rw [if_neg hv]
              have : (i ∈ v :: vs) ↔ i ∈ vs := by simp [Ne.symm hv]
              simp only [this]
        rw [gen, gen, wipeE_length]
        split <;> rfl
      rw [this]
      exact h2
    · subst hb
      exact fin w' (.bl stop) (p2.trans p'.unC) rfl
    · subst hb
      exact fin w' (.bl (!stop)) (p2.trans p'.unC) rfl
  · subst e2
    exact hi w ρ μ σ c vr hn _ e1 _ fun w1 cls dx p x => fin w1 cls dx p x
end
end G4

/-! G55: sum of a generator expression: sum's own list is known to the heap's reading, the generator's run leaves it alone. -/
namespace G4
open PySem PySem.Spec PyProof.Rows L2
/-- te told; l: where the consumer's list lies, τ n: what it holds when n items are to come -/
def gYieldS (τ : Nat → Int) (te : TE) (l : Addr) : GAct := fun n σ H N => te σ H fun y H4 => ∃ (n' : Nat) (i : Int), n = n' + 1 ∧ y = .int i ∧ H4 l = some (.lst [.int (τ n)]) ∧ InLong i ∧ InLong (τ n') ∧ τ n' = τ n + i ∧ N n' σ (upd H4 l (.lst [.int (τ n')]))
section
variable {B : Cx}
def YS (B : Cx) (p0 : Addr × Obj) (l : Addr) (τ : Nat → Int) : Protocol := fun m s₀ v s kap =>
  ∃ (i : Int) (tk : Tok) (pins : List (Addr × Obj)) (σ : L2.St) (H : Hp), v = .int i tk ∧ p0 ∈ pins ∧ Inv B pins σ H s ∧ H l = some (.lst [.int (τ (m + 1))]) ∧ InLong i ∧ InLong (τ m) ∧ τ m = τ (m + 1) + i ∧ ∀ s'', Inv B pins σ (upd H l (.lst [.int (τ m)])) s'' → kap (.send .none) s''
def RS (B : Cx) (p0 : Addr × Obj) (l : Addr) (τ : Nat → Int) (F : Int → Hp → Prop) : GenEnd := fun n s₀ r s => r = .ok .next ∧ ∃ (pins : List (Addr × Obj)) (σ : L2.St) (H : Hp), p0 ∈ pins ∧ Inv B pins σ H s ∧ H l = some (.lst [.int (τ n)]) ∧ F (τ n) H
variable {p0 : Addr × Obj} {A : Around} {R : GenEnd}
theorem em_YS {elt : Expr} {te : TE} {l : Addr} {τ : Nat → Int} (hx : B.xe = fun _ _ => False) (hco : B.env.scope.isCoroutine = false) (he : PE B elt te) : EmSeg B p0 A R (YS B p0 l τ) (emY elt B.env) (gYieldS τ te l) := by
  intro c fr pins n s σ H N hA hs hg hp I h
  refine segEm_Y hco hs hg ?_
  rw [hA]
  have q := he.run pins s σ H _ I h
  rw [hx] at q
  refine wpAny_mono q (fun y s1 hy => ?_) fun _ _ x => x
  obtain ⟨x, H1, I1, rv, n', i, rfl, rfl, hl, f1, f2, f3, hb⟩ := hy
  obtain ⟨tk, rfl⟩ := rv
  exact ⟨n', rfl, fun s₀ kap hk => ⟨i, tk, pins, σ, H1, rfl, hp, I1, hl, f1, f2, f3, fun s'' z => hk s'' ⟨σ, _, z, hb⟩⟩⟩
/-- the state of a generator that is being drawn from -/
def GStS (P : Program) (w : World) (A : Around) (B : Cx) (p0 : Addr × Obj) (l : Addr) (τ : Nat → Int) (F : Int → Hp → Prop) (gi : Nat) (n : Nat) (s : Shared) : Prop :=
  s.heap.IsGen p0.1 gi ∧ s.heap.NoLimit ∧ ∃ gs, s.gens[gi]? = some gs ∧ gs.Goes (model P w) A (RS B p0 l τ F) (YS B p0 l τ) n (.send .none) (s.setGen gi .running)
end
section
variable {X : Cx}
theorem one_int {t : Int} {its : List Value} (r : Vals [V.int t] its) : ∃ tA, its = [.int t tA] := by
  cases r with
  | cons h r =>
    obtain ⟨tA, rfl⟩ := h
    cases r
    exact ⟨tA, rfl⟩
/-- the list written -/
theorem inv_one {B : Cx} {pins : List (Addr × Obj)} {σ : L2.St} {H : Hp} {s : Shared} {l : Addr} {t : Int} (I : Inv B pins σ H s) (hl : H l = some (.lst [.int t])) (t' : Int) (tk : Tok) : Inv B pins σ (upd H l (.lst [.int t'])) { s with heap := s.heap.update l (Obj.mapSeq fun _ => #[Value.int t' tk]) } := by
  obtain ⟨z, its, n, r, hlen, e⟩ := I.lstM hl
  exact I.lset (its' := [.int t' tk]) (t' := s.toks) hl e rfl (.cons ⟨tk, rfl⟩ .nil) (by show 1 ≤ sizeLine; decide)
/-- one draw -/
theorem drawS {A : Around} {B : Cx} {p0 : Addr × Obj} {l : Addr} {τ : Nat → Int} {F : Int → Hp → Prop} {gi n : Nat} {s : Shared} {Q : Option Value → Shared → Prop} {E : Value → Shared → Prop} (hh : A.handled = none) (hroom : A.depth < recursionLimit) (hg : p0.2.cls = .type "generator") (hs : p0.2.slots = #[])
    (hd : ∃ nm qn, p0.2.data = .fields #[.int gi 0, nm, qn]) (h : GStS X.prog X.w A.in1 B p0 l τ F gi n s)
    (hY : ∀ (i : Int) tk pins σ H s' m, p0 ∈ pins → Inv B pins σ H s' → n = m + 1 → H l = some (.lst [.int (τ n)]) → InLong i → InLong (τ m) → τ m = τ n + i →
      (∀ s'', Inv B pins σ (upd H l (.lst [.int (τ m)])) s'' → s''.gens = s'.gens → GStS X.prog X.w A.in1 B p0 l τ F gi m s'') → Q (some (.int i tk)) s')
    (hR : ∀ pins σ H s', p0 ∈ pins → Inv B pins σ H s' → H l = some (.lst [.int (τ n)]) → F (τ n) H → Q none s') : wpAny (model X.prog X.w) A (pyNext (.ref p0.1)) Q E s := by
  obtain ⟨hG, hl, gs, hgs, hgo⟩ := h
  have hsz : gi + 1 ≤ s.gens.size := by
    obtain ⟨hlt, _⟩ := Array.getElem?_eq_some_iff.mp hgs
    exact hlt
  refine GenW.wpAny_gsz (n := gi + 1) hsz ?_
  refine wpAny_pyNext_genexpQ (P := fun n s₀ s => ∃ (pins : List (Addr × Obj)) (σ : L2.St) (H : Hp), p0 ∈ pins ∧ Inv B pins σ H s ∧ H l = some (.lst [.int (τ n)]) ∧ F (τ n) H) hh hl hroom hG hgs hgo (fun v s₁ gs' hb hv => ?_) (fun s₁ hp h' hk => ?_)
  · intro hsz'
    obtain ⟨i, tk, pins, σ, H, rfl, hp, I, hlt, f1, f2, f3, hb'⟩ := hv
    have hsz1 : gi < s₁.gens.size := by
      have : gi + 1 ≤ (s₁.setGen gi gs').gens.size := hsz'
      rw [GenW.setGen_size] at this
      exact this
    have z := woke_set (g := gi) I.bare hb
    cases n with
    | zero => exact (hb' _ (inv_one I hlt (τ 0) 0)).elim
    | succ m =>
      refine hY i tk pins σ H _ m hp (z.inv I) rfl hlt f1 f2 f3 fun s'' I2 eg => ?_
      have pin := (I2.pin p0 (List.mem_append_right _ hp)).1
      obtain ⟨nm, qn, hd⟩ := hd
      refine ⟨⟨p0.2, nm, qn, pin, hg, hd, hs⟩, I2.nolimit, gs', by rw [eg]; exact setGen_self (gs := s₁.gens[gi]) (Array.getElem?_eq_getElem hsz1), ?_⟩
      exact hb' _ ((woke_set (g := gi) I2.bare rfl).inv I2)
  · intro _
    obtain ⟨pins, σ, H, hp, I, ht, hf⟩ := hp
    have I2 := (woke_set (g := gi) (x := .finished) I.bare rfl).inv I
    exact hR pins σ H _ hp (I2.kept (t' := s₁.toks) hk) ht hf
theorem sum_loopS {B : Cx} {p0 : Addr × Obj} {l : Addr} {τ : Nat → Int} {F : Int → Hp → Prop} {gi : Nat} {Rf : Result → Shared → Prop} (hh : X.A.handled = none) (hroom : X.A.depth < recursionLimit) (hg : p0.2.cls = .type "generator") (hs : p0.2.slots = #[])
    (hd : ∃ nm qn, p0.2.data = .fields #[.int gi 0, nm, qn])
    (h2 : ∀ pins σ H s' t tk, p0 ∈ pins → Inv B pins σ H s' → F t H → Rf (.ok (.ret (.int t tk))) s') :
    ∀ (n : Nat) (s : Shared) (pins : List (Addr × Obj)) (σ : L2.St) (H : Hp), GStS X.prog X.w X.A.in1.in1 B p0 l τ F gi n s → Inv B pins σ H s → H l = some (.lst [.int (τ n)]) → codeAny (model X.prog X.w) X.A (.builtin "sum.loop" ⟨[.ref p0.1, .ref l, rawInt 0, rawInt 0], []⟩) Rf s := by
  intro n
  induction n using Nat.strongRecOn with
  | ind n ih =>
    intro s pins σ H st I hl
    refine codeAny_builtin PySem.F.entry_sum_loop ?_
    rw [Around.under_plainId PySem.F.plain_sum_loop _]
    show wpAny _ X.A.in1 (seqItems? (.ref l) >>= _) _ _ s
    obtain ⟨_, its, c, r, hlen, e⟩ := I.lstM hl
    obtain ⟨tA, rfl⟩ := one_int r
    refine wpAny_bind (wpAny_seqItems e rfl ?_)
    show wpAny _ X.A.in1 (tryCatch (pyNext (.ref p0.1)) _ >>= _) _ _ s
    refine wpAny_bind (wpAny_tryCatch (drawS (X := X) (A := X.A.in1) hh hroom hg hs hd st (fun i tk pins' σ' H' s' m hp I' hn hl' f1 f2 f3 go => ?_) fun pins' σ' H' s' hp I' hl' hf => ?_))
    · subst hn
      obtain ⟨_, its2, c2, r2, hlen2, e2⟩ := I'.lstM hl'
      have hc : ((decide (-(2 ^ 63) ≤ i) && decide (i < 2 ^ 63)) && (decide (-(2 ^ 63) ≤ τ (m + 1) + i) && decide (τ (m + 1) + i < 2 ^ 63))) = true := by
        have f2' := f2
        rw [f3] at f2'
        simp only [Bool.and_eq_true, decide_eq_true_eq]
        exact ⟨f1, f2'⟩
      show wpAny _ X.A.in1 (if (_ : Bool) = true then (mkInt (τ (m + 1) + i) >>= _) else _) _ _ _
      split
      · refine wpAny_bind (wpAny_mkInt ?_)
        show wpAny _ X.A.in1 (updateSeq l (fun _ => #[.int (τ (m + 1) + i) s'.toks]) >>= _) _ _ _
        refine wpAny_bind ?_
        rw [← f3]
        have J := inv_one (I'.tok (s'.toks + 1)) hl' (τ m) s'.toks
        refine wpAny_updateSeq e2 rfl (wpAny_pure ⟨plainId_quiet PySem.F.plain_sum_loop _, ih m (Nat.lt_succ_self m) _ pins' σ' _ (go _ J rfl) J upd_same⟩) (by rw [List.size_toArray, ← hlen2]; show 1 ≤ sizeLine; decide) (by show 1 ≤ sizeLine + 1; decide)
      · rename_i hneg
        exact absurd hc hneg
    · exact wpAny_pure (h2 pins' σ' H' s' _ tA hp I' hf)
theorem call_sumS {p0 : Addr × Obj} {B : Cx} {τ : Nat → Int} {F : Int → Hp → Prop} {gi n : Nat} {s : Shared} {pins : List (Addr × Obj)} {σ : L2.St} {H : Hp} {Q' : Value → Shared → Prop} {E : Value → Shared → Prop} (hh : X.A.handled = none) (hroom : X.A.depth < recursionLimit) (hg : p0.2.cls = .type "generator") (hs : p0.2.slots = #[])
    (hd : ∃ nm qn, p0.2.data = .fields #[.int gi 0, nm, qn]) (hG : s.heap.IsGen p0.1 gi) (I : Inv B pins σ H s) (h0 : τ n = 0)
    (st : ∀ l s', s.heap.objs.size ≤ l → Inv B pins σ (upd H l (.lst [.int (τ n)])) s' → s'.gens = s.gens → GStS X.prog X.w X.A.in1.in1 B p0 l τ F gi n s')
    (h2 : ∀ pins σ H s' t tk, p0 ∈ pins → Inv B pins σ H s' → F t H → Q' (.int t tk) s') :
    wpAny (model X.prog X.w) X.A (call (.builtin "sum") [.ref p0.1]) Q' E s := by
  refine call_function_tree PySem.F.kind_sum PySem.F.plain_sum PySem.F.entry_sum (PySem.F.args_sum1 _) ?_
  unfold Builtin.«sum»
  simp only [List.length_cons, List.length_nil]
  rw [if_neg (by decide)]
  refine wpAny_bind (wpAny_of_eq (show Builtin.Builtins.bindParams "sum" ["start"] 0 { } = pure [none] from rfl) ?_)
  refine wpAny_bind (wpAny_pyIter_gen hG ?_)
  refine wpAny_bind (wpAny_mkInt ?_)
  refine wpAny_bind (wpAny_pure ?_)
  simp only [List.forIn_cons, List.forIn_nil]
  refine wpAny_bind (wpAny_bind (wpAny_bind (wpAny_isInstance (T := "int") (b := false) (typeIs_int _ _ _) PySem.sub_int_str ?_)))
  simp only [Bool.false_eq_true, if_false]
  refine wpAny_pure (wpAny_bind (wpAny_bind (wpAny_isInstance (T := "int") (b := false) (typeIs_int _ _ _) PySem.sub_int_bytes ?_)))
  simp only [Bool.false_eq_true, if_false]
  refine wpAny_pure (wpAny_bind (wpAny_bind (wpAny_isInstance (T := "int") (b := false) (typeIs_int _ _ _) PySem.sub_int_bytearray ?_)))
  simp only [Bool.false_eq_true, if_false]
  refine wpAny_pure (wpAny_pure ?_)
  refine wpAny_bind (wpAny_newObj_type ?_)
  refine wpAny_pure ⟨plainId_quiet PySem.F.plain_sum_loop _, ?_⟩
  have J : Inv B pins σ (upd H s.heap.objs.size (.lst [.int (τ n)])) { s with heap := s.heap.push { cls := .type "list", data := .seq #[.int 0 s.toks] }, toks := s.toks + 1 } :=
    I.laid (t' := s.toks + 1) (fun b u e => Heap.get?_push_of_some _ e) (Nat.le_refl _) ⟨by show 1 ≤ sizeLine; decide, [.int 0 s.toks], _, .cons ⟨s.toks, by rw [h0]⟩ .nil, Heap.get?_push_size _ rfl⟩
  exact sum_loopS hh hroom hg hs hd (fun pins σ H s' t tk hp I f => h2 pins σ H s' t tk hp I f) n _ pins σ _ (st _ _ (Nat.le_refl _) J rfl) J upd_same
/-- sum of a generator expression; P: its code's table -/
def tGenS (P : Addr) (wi : TI) (g : TG) (tt : TT) (te : TE) (vs : List Nat) : TE := fun σ H Q => wi σ H fun J H1 => ∃ (T : Addr → Prop) (ps : Array Value), TabsOk T H1 ∧ T P ∧ H1 P = some (.tbl ps) ∧
  ∀ T' H2, Grown T H1 T' H2 → ∃ (τ : Nat → Int) (n : Nat), τ n = 0 ∧ ∀ l, H2 l = none → gLoop J g tt (gYieldS τ te l) (fun n _ H' => H' l = some (.lst [.int (τ n)]) ∧ Q (.int (τ n)) H') n (wipe σ vs) (upd H2 l (.lst [.int (τ n)]))
theorem gen_madeS {elt tg iter : Expr} {ifs : List Expr} {rest : List Comprehension} {sc : Scope} {own : List (Str × Nat)} {gpos : Pos} {wi : TI} {g : TG} {tt : TT} {te : TE} {em : PySem.Env → Sem PySem.Fin → Sem PySem.Fin} {k : Nat} {c P : Addr}
    {pins0 : List (Addr × Obj)} {s : Shared} {σ0 : L2.St} {H : Hp} {Q : VK} {Q' : Value → Shared → Prop}
    (ct : ∀ it env, compTurn (ge elt (cl0 tg iter ifs :: rest) sc gpos) 0 it .none env = cturn (ge elt (cl0 tg iter ifs :: rest) sc gpos) 0 iter.pos tg ifs (em env) it .none env)
    (hr : Room (k + 1) X.A) (hc : X.calm = true) (hN : X.N.Nodup) (TB : GxR.TabB X.base X.mg c P) (hcode : X.env.code = .ref c) (hco : sc.isCoroutine = false) (h0 : sc.names.lookup (".0" : Str) = some NameKind.local)
    (hi : PI X tg iter wi) (ok : BlkOk X.N X.env.scope sc own) (hg : Gens k X sc fun X' => PG X' tg g) (ht : Gens k X sc fun X' => PTs X' ifs tt)
    (ha : ∀ τ l p0 R, Gens k X sc fun X' => EmSeg X' p0 (X.A.in1.in1) R (YS X' p0 l τ) (em X'.env) (gYieldS τ te l)) (hs : ∀ x, genFold iter X.env x = pure x)
    (I : Inv X pins0 σ0 H s) (h : tGenS P wi g tt te (own.map (·.2)) σ0 H Q)
    (hQ : ∀ (B : Cx) (p0 : Addr × Obj) (gi n : Nat) (τ : Nat → Int) (s5 : Shared) (pins : List (Addr × Obj)) (σ : L2.St) (H : Hp), p0.2.cls = .type "generator" → p0.2.slots = #[] → (∃ nm qn, p0.2.data = .fields #[.int gi 0, nm, qn]) → s5.heap.IsGen p0.1 gi → Inv B pins σ H s5 → τ n = 0 →
      (∀ l s', s5.heap.objs.size ≤ l → Inv B pins σ (upd H l (.lst [.int (τ n)])) s' → s'.gens = s5.gens → GStS X.prog X.w X.A.in1.in1 B p0 l τ (fun t H' => Q (.int t) H') gi n s') → (∀ pins' σ' H' s', Inv B pins' σ' H' s' → Inv X pins0 σ0 H' s') → Q' (.ref p0.1) s5) :
    wpAny (model X.prog X.w) X.A (eval (ge elt (cl0 tg iter ifs :: rest) sc gpos) X.env) Q' X.xe s := by
  have hfree : ∀ y ∈ sc.names, y.2 = .free → ∃ c, X.env.cells.lookup y.1 = some c := by
    intro y hy e
    have := ok.free y hy e
    exact I.ok.has _ this
  rw [evalG _ _ _ _ _ _ _ _ hco]
  refine wpAny_bind (thn (hi.run pins0 s σ0 H _ I h) fun xv s1 hx => ?_)
  refine wpAny_bind (wpAny_standAt (wpAny_bind (wpAny_of_eq (hs xv) ?_)))
  refine wpAny_bind (wpAny_holding (thn hx fun itv s2 h2 => ?_))
  obtain ⟨it, fp, tn, J, H2, rfl, I2, T, st2, f2, TT, ps, hT, hTP, hPs, q⟩ := h2
  refine wpAny_bind (wpAny_enterFrame I2.nolimit hr.depth ?_)
  refine wpAny_bind (wpAny_of_eq (closure_ok hfree) ?_)
  have CH : PySem.W.CodeHd s2.heap c P := TB.code.keeps I2.bk
  refine wpAny_bind (gen_code hcode CH I2 hT hTP hPs fun cv h3 tk3 H3 T3 I3 gr kp3 ko3 _ => ?_)
  obtain ⟨bm, ob, e1, e2, e3, e4, e5, e6, e7, e8⟩ := TB.bm
  refine wpAny_bind (wpAny_builtinsFor (m := X.mg) ?_ e1 e2 (I3.bk _ _ e5) e6 e7 e8 ?_)
  · rw [I3.ok.glob]
    exact I3.mod.glob.keeps I3.bk
  obtain ⟨τ, n, hτ, hloop⟩ := q T3 H3 gr
  have nP : ∀ b ∈ fp, b ≠ P := fun b hb z => by
    have := (f2 b hb).1
    rw [z, hPs] at this
    cases this
  have f3 : ∀ b ∈ fp, FpOk X pins0 H3 b ∧ b < h3.objs.size := by
    intro b hb
    obtain ⟨o, e, _⟩ := T.obj _ _ st2 b hb
    refine ⟨⟨?_, (f2 b hb).2⟩, Heap.lt_size (kp3 b o (nP b hb) e)⟩
    rw [ko3 b o (nP b hb) e]
    exact (f2 b hb).1
  have st3 : tn 0 h3 := T.keep _ _ _ st2 fun b hb o e => kp3 b o (nP b hb) e
  generalize hs4 : ({ s2 with heap := h3, toks := tk3 } : Shared) = s4 at I3 ⊢
  have hh4 : s4.heap = h3 := by rw [← hs4]
  rw [← hh4] at f3 st3
  refine wpAny_bind (newEnv_gen ok.kind h0 fun h' tk hn' hk' => ?_)
  rw [show newEnv sc s4.heap.objs.size X.env.globals (cellsFrom (s4.heap.objs.size + 1) sc.names (cloFrom X.env.cells sc.names [])) (X.env.qual ++ "<genexpr>.") none cv none builtinsNs = genEnv sc (cellsFrom (s4.heap.objs.size + 1) sc.names (cloFrom X.env.cells sc.names [])) s4.heap.objs.size cv builtinsNs X.env from rfl]
  simp only [newGenerator, newFields]
  refine wpAny_bind (wpAny_newGen (wpAny_bind (wpAny_mkText (wpAny_bind (wpAny_mkText (wpAny_newObj_type ?_ (by size_fits)))))))
  have kp' : ∀ b o, s4.heap.get? b = some o → h'.get? b = some o := fun b o e => hk' b o (Nat.ne_of_lt (Heap.lt_size e)) (pushCells_keeps _ _ _ _ (Heap.get?_push_of_some _ e))
  have room := room_gen hr (genEnv sc (cellsFrom (s4.heap.objs.size + 1) sc.names (cloFrom X.env.cells sc.names [])) s4.heap.objs.size cv builtinsNs X.env)
  have pg := hg s4 H3 s4.heap.objs.size (cellsFrom (s4.heap.objs.size + 1) sc.names (cloFrom X.env.cells sc.names [])) cv fp room
  have pt := ht s4 H3 s4.heap.objs.size (cellsFrom (s4.heap.objs.size + 1) sc.names (cloFrom X.env.cells sc.names [])) cv fp room
  have pa := fun τ l p0 R => ha τ l p0 R s4 H3 s4.heap.objs.size (cellsFrom (s4.heap.objs.size + 1) sc.names (cloFrom X.env.cells sc.names [])) cv fp room
  generalize hce : genEnv sc (cellsFrom (s4.heap.objs.size + 1) sc.names (cloFrom X.env.cells sc.names [])) s4.heap.objs.size cv builtinsNs X.env = cenv at room pg pt pa ⊢
  have main : ∀ (go : Obj) (tk' : Nat), go.cls = .type "generator" → go.slots = #[] → (∃ nm qn, go.data = .fields #[.int s4.gens.size 0, nm, qn]) → (∀ h : Heap, (h.push go).get? h.objs.size = some go) →
      Q' (.ref h'.objs.size) { s4 with heap := h'.push go, gens := s4.gens.push (.fresh (.compStart (ge elt (cl0 tg iter ifs :: rest) sc gpos) 0 (.ref it) .none cenv)), toks := tk' } := by
    intro go tk' hgc hgs hgd hgp
    have pushed : (h'.push go).get? h'.objs.size = some go := hgp h'
    have kpp : ∀ b o, h'.get? b = some o → (h'.push go).get? b = some o := fun b o e => Heap.get?_push_of_some _ e
    have I5 : Inv (Cx.gen X s4 H3 sc cenv fp) [] (wipe σ0 (own.map (·.2))) H3 { s4 with heap := h'.push go, toks := tk', gens := s4.gens.push (.fresh (.compStart (ge elt (cl0 tg iter ifs :: rest) sc gpos) 0 (.ref it) .none cenv)) } := by
      rw [← hce]
      exact gen_start I3 ok hN f3 (hn'.keeps kpp) (fun b o hb e => kpp b o (hk' b o hb e)) (AllBare.push I3.bare rfl)
    have cL : cenv.locals = s4.heap.objs.size := by rw [← hce]; rfl
    have s4lt : s4.heap.objs.size < h'.objs.size := hn'.lt
    have I6 : Inv (Cx.gen X s4 H3 sc cenv fp) [(h'.objs.size, go)] (wipe σ0 (own.map (·.2))) H3 { s4 with heap := h'.push go, toks := tk', gens := s4.gens.push (.fresh (.compStart (ge elt (cl0 tg iter ifs :: rest) sc gpos) 0 (.ref it) .none cenv)) } := by
      refine I5.pins_of fun p hp => ?_
      obtain rfl : p = (h'.objs.size, go) := by simpa using hp
      refine ⟨pushed, I3.hok.fresh (Nat.le_of_lt s4lt), ?_, fun z => ?_, fun v z => ?_⟩
      · show h'.objs.size ≠ cenv.locals
        rw [cL]; exact Nat.ne_of_gt s4lt
      · have z : h'.objs.size ∈ frs X.stack := z
        rcases List.mem_cons.mp (I3.stkSub _ z) with z | z
        · exact Nat.lt_irrefl _ (Nat.lt_trans (z ▸ I3.lt) s4lt)
        · exact I3.nofs (Nat.le_of_lt s4lt) z
      · obtain ⟨nm, qn, hgd⟩ := hgd
        have z : go.data = .cell v := z
        rw [hgd] at z; cases z
    have isg : ∀ h : Heap, h.get? h'.objs.size = some go → h.IsGen h'.objs.size s4.gens.size := fun h e => by
      obtain ⟨nm, qn, hgd⟩ := hgd
      exact ⟨go, nm, qn, e, hgc, hgd, hgs⟩
    have hf5 : ∀ b ∈ fp, FpOk (Cx.gen X s4 H3 sc cenv fp) [(h'.objs.size, go)] H3 b := by
      intro b hb
      refine ⟨(f3 b hb).1.1, (I6.ok.exf b hb).1, I6.ok.exfs b hb, .inl hb, fun x c e => (I6.ok.exf b hb).2 x c e, fun p hp => ?_⟩
      obtain rfl : p = (h'.objs.size, go) := by
        have hp : p ∈ ([] : List (Addr × Obj)) ++ [(h'.objs.size, go)] := hp
        simpa using hp
      exact Nat.ne_of_gt (Nat.lt_trans (f3 b hb).2 s4lt)
    have st5 : tn 0 (h'.push go) := T.keep _ _ _ st3 fun b _ o e => kpp b o (kp' b o e)
    have ob5 : ∀ b ∈ fp, ∃ o, (h'.push go).get? b = some o ∧ ∀ v, o.data ≠ .cell v := T.obj _ _ st5
    have I8 := I6.pinned hf5 ob5
    refine hQ (Cx.gen X s4 H3 sc cenv fp) (h'.objs.size, go) s4.gens.size n τ _ _ _ _ hgc hgs hgd (isg _ pushed) I8 hτ (fun l s' hl J' eg => ?_) fun pins' σ' H' s' J => ?_
    · have hlb : ∀ b ∈ fp, b ≠ l := fun b hb z => by
        obtain ⟨o, e, _⟩ := ob5 b hb
        have lt := Heap.lt_size e
        have hl : (h'.push go).objs.size ≤ l := hl
        exact absurd (z ▸ lt) (Nat.not_lt.mpr hl)
      have H3l : H3 l = none := I6.hok.fresh hl
      have J1 := J'.unpinned
      have pin := (J1.pin (h'.objs.size, go) (List.mem_append_right _ (List.mem_singleton.mpr rfl))).1
      have st6 : tn 0 s'.heap := T.keep _ _ _ st5 fun b hb o e => (J'.pin (b, o) (List.mem_append_right _ (List.mem_append_right _ (mem_pinsAt hb e)))).1
      have hf6 : ∀ b ∈ fp, FpOk (Cx.gen X s4 H3 sc cenv fp) [(h'.objs.size, go)] (upd H3 l (.lst [.int (τ n)])) b := fun b hb => ⟨(upd_ne (hlb b hb)).trans (hf5 b hb).1, (hf5 b hb).2⟩
      have hge : s'.gens[s4.gens.size]? = some (.fresh (.compStart (ge elt (cl0 tg iter ifs :: rest) sc gpos) 0 (.ref it) .none cenv)) := by rw [eg]; exact Array.getElem?_push_size ..
      refine ⟨isg _ pin, J1.nolimit, _, hge, rfl, ?_⟩
      have I7 := (woke_set (g := s4.gens.size) (x := .running) J1.bare rfl).inv J1
      refine seg_cstart (hx := leaving cenv) (g := cl0 tg iter ifs) rfl rfl rfl rfl (fun A' Q' E' hq => T.self A' 0 _ _ _ st6 hq) ?_
      refine g_loop (B := Cx.gen X s4 H3 sc cenv fp) (p0 := (h'.objs.size, go)) (hh := leaving cenv) (by rw [← ct]; rfl) rfl over_gen rfl rfl (List.mem_singleton.mpr rfl) hc rfl T pg pt (pa τ l _ _) hf6 I7 st6 (hloop l H3l) fun n s₀ s σ' H' I' nx => ?_
      exact seg_end (.ok .next) ⟨rfl, _, σ', H', List.mem_singleton.mpr rfl, I', nx⟩
    · refine I3.call' (ch := fp) J.os J.base J.hok J.bare fun b hb => ?_
      have f := (f3 b hb).1
      exact ⟨f.2.2.2.1, f.2.1, f.2.2.2.2.1, f.2.2.2.2.2⟩
  exact main _ _ rfl rfl ⟨_, _, rfl⟩ fun h => Heap.get?_push_size _ rfl
theorem pe_sumG {elt tg iter : Expr} {ifs : List Expr} {rest : List Comprehension} {sc : Scope} {own : List (Str × Nat)} {gpos p pos : Pos} {wi : TI} {g : TG} {tt : TT} {te : TE} {k : Nat} {c P : Addr}
    (hgl : Gl X "sum") (hm : X.mg "sum" = none)
    (ct : ∀ it env, compTurn (ge elt (cl0 tg iter ifs :: rest) sc gpos) 0 it .none env = cturn (ge elt (cl0 tg iter ifs :: rest) sc gpos) 0 iter.pos tg ifs (emY elt env) it .none env)
    (hr : Room (k + 1) X.A) (hc : X.calm = true) (hN : X.N.Nodup) (TB : GxR.TabB X.base X.mg c P) (hcode : X.env.code = .ref c) (hco : sc.isCoroutine = false) (h0 : sc.names.lookup (".0" : Str) = some NameKind.local)
    (hi : PI X tg iter wi) (ok : BlkOk X.N X.env.scope sc own) (hg : Gens k X sc fun X' => PG X' tg g) (ht : Gens k X sc fun X' => PTs X' ifs tt)
    (he1 : Gens k X sc fun X' => PE X' elt te) (hs : ∀ x, genFold iter X.env x = pure x)
    (hb : bootBuiltins "sum" = some (.builtin "sum") := by decide +kernel)
    (he : starEach [ge elt (cl0 tg iter ifs :: rest) sc gpos] X.env = (false, eval (ge elt (cl0 tg iter ifs :: rest) sc gpos) X.env) :: starEach [] X.env := by rfl) :
    PE X (.Call (.Name "sum" p) [ge elt (cl0 tg iter ifs :: rest) sc gpos] [] pos) (tGenS P wi g tt te (own.map (·.2))) := by
  refine ⟨fun pins s σ H Q I h => ?_⟩
  refine wpAny_Call_Name_kw (ld_blt I hgl hm hb ?_)
  refine PyProof.Rows.callWith_builtin1 ?_ he (by rfl)
  rw [he]
  show wpAny _ _ (spliced ((false, eval (ge elt (cl0 tg iter ifs :: rest) sc gpos) X.env) :: backTo pos (starEach [] X.env))) _ _ s
  refine Calls.spliced_cons (gen_madeS ct hr hc hN TB hcode hco h0 hi ok hg ht (fun τ l p0 R s H C cl code fp room => em_YS rfl hco (he1 s H C cl code fp room)) hs I h fun B p0 gi n τ s5 pins5 σ5 H5 a1 a2 a3 a4 I5 hτ st back => ?_)
  refine Calls.spliced_nil ?_
  exact call_sumS hr.hd hr.depth a1 a2 a3 a4 I5 hτ st fun pins' σ' H' s' t tk hp J f => ⟨.int t, H', back _ _ _ _ J, ⟨tk, rfl⟩, f⟩
end
/-! on data -/
instance (i : Int) : Decidable (InLong i) := inferInstanceAs (Decidable (_ ∧ _))
/-- what the items tell, in turn -/
def sumR (tg : Tv) (fe : Ev D) (ρ : Env) : List D → Mu → Option (List Int × Mu)
  | [], μ => some ([], μ)
  | d :: ds, μ => match tg d ρ μ with
    | some (.ok ρ1 μ1) => match fe ρ1 μ1 with
      | some (.ok (.int i) μ2) => match sumR tg fe ρ ds μ2 with
        | some (is, μ3) => some (i :: is, μ3)
        | none => none
      | _ => none
    | _ => none
noncomputable def okS : Int → List Int → Bool
  | _, [] => true
  | t, i :: is => decide (InLong i ∧ InLong (t + i)) && okS (t + i) is
noncomputable def eSumG (fi : Ev Src) (tg : Tv) (fe : Ev D) (vs : List Nat) : Ev D := fun ρ μ => (fi ρ μ).bnd fun src μ1 => match src with
  | .its ds => match sumR tg fe (wipeE ρ vs) ds μ1 with
    | some (is, μ2) => if okS 0 is = true then some (.ok (.int is.sum) μ2) else none
    | none => none
  | _ => none
def tauS (is : List Int) (n : Nat) : Int := (is.take (is.length - n)).sum
theorem okS_at : ∀ {t : Int} {is : List Int}, okS t is = true → ∀ {i : Nat} {x : Int}, is[i]? = some x → InLong x ∧ InLong (t + (is.take (i + 1)).sum)
  | t, y :: is, h, 0, x, e => by
    simp only [okS, Bool.and_eq_true, decide_eq_true_eq] at h
    obtain rfl : y = x := by simpa using e
    simpa using h.1
  | t, y :: is, h, i + 1, x, e => by
    simp only [okS, Bool.and_eq_true] at h
    have := okS_at h.2 (i := i) (x := x) (by simpa using e)
    rw [List.take_succ_cons, List.sum_cons, ← Int.add_assoc]
    exact this
theorem sumR_len {tg : Tv} {fe : Ev D} {ρ : Env} : ∀ {ds : List D} {μ : Mu} {is : List Int} {μ' : Mu}, sumR tg fe ρ ds μ = some (is, μ') → is.length = ds.length
  | [], μ, is, μ', h => by cases h; rfl
  | d :: ds, μ, is, μ', h => by
    simp only [sumR] at h
    split at h <;> try cases h
    split at h <;> try cases h
    split at h <;> cases h
    rename_i h3
    simp [sumR_len h3]
section
variable {G : Gx} {n0 : Nat} {W : WX}
theorem gloop_sum {J : It} {g : TG} {tg : Tv} {te : TE} {fe : Ev D} {vs : List Nat} {w0 : Hw} {μ μf : Mu} {ρ : Env} {σ0 σ : L2.St} {ds : List D} {is : List Int} {l : Addr} {Q : VK} (hg : DG G n0 W0 g tg) (ho : Own g vs) (hm : Mono g) (he : DE G n0 W0 te fe)
    (c0 : Mc G w0 μ) (vr : Vr G.K w0 ρ σ0) (hw : wipe σ vs = wipe σ0 vs) (hn : n0 ≤ μ.length) (y : Yl G w0 (.its ds) J) (e : sumR tg fe (wipeE ρ vs) ds μ = some (is, μf)) (ok : okS 0 is = true) (hl : w0.H l = none)
    (hF : ∀ w', Post G n0 w0 μ w' μf → Q (.int is.sum) w'.H) :
    gLoop J g tYes (gYieldS (tauS is) te l) (fun n _ H' => H' l = some (.lst [.int (tauS is n)]) ∧ Q (.int (tauS is n)) H') is.length σ (upd w0.H l (.lst [.int (tauS is is.length)])) := by
  have hlen := sumR_len e
  refine ⟨fun i m n1 σ' H' => ∃ w' μ1, w'.H = H' ∧ Post G n0 w0 μ w' μ1 ∧ Hid w' l (.lst [.int (tauS is n1)]) ∧ wipe σ' vs = wipe σ0 vs ∧ m + i = is.length ∧ n1 = m ∧ sumR tg fe (wipeE ρ vs) (ds.drop i) μ1 = some (is.drop i, μf), ?_, ?_⟩
  · obtain ⟨x1, c1, h1⟩ := Hid.new (o := .lst [.int (tauS is is.length)]) c0 hl
    exact ⟨is.length, _, μ, rfl, ⟨x1, c1, .refl _ _⟩, h1, hw, rfl, rfl, by simpa using e⟩
  · rintro i m n1 σ' H' ⟨w', μ1, rfl, p, hid, hw', hmi, rfl, e'⟩
    have hn1 := p.nn hn
    cases n1 with
    | zero =>
      have hi : i = ds.length := by omega
      subst hi
      rw [List.drop_length] at e'
      have e2 : μ1 = μf := by
        simp only [sumR] at e'
        exact congrArg Prod.snd (Option.some.inj e')
      subst e2
      have t0 : tauS is 0 = is.sum := by unfold tauS; rw [Nat.sub_zero, List.take_length]
      exact .inl ⟨(y w' _ p.ex.e0 p.mc ds rfl _).2 (Nat.le_refl _), hid.at_, by rw [t0]; exact hF w' p⟩
    | succ m =>
      have hi : i < ds.length := by omega
      have hi2 : i < is.length := by omega
      rw [List.drop_eq_getElem_cons hi] at e'
      simp only [sumR] at e'
      split at e' <;> try cases e'
      rename_i ρ1 μ2 h1
      split at e' <;> try cases e'
      rename_i z μ3 h2
      split at e' <;> try cases e'
      rename_i is3 μ4 h3
      have e4 : z :: is3 = is.drop i ∧ μ4 = μf := by
        have := Option.some.inj e'
        exact ⟨congrArg Prod.fst this, congrArg Prod.snd this⟩
      obtain ⟨e4, rfl⟩ := e4
      rw [List.drop_eq_getElem_cons hi2] at e4
      injection e4 with e5 e6
      obtain ⟨y1, y2⟩ := y w' μ1 p.ex.e0 p.mc ds rfl i
      obtain ⟨go, yl⟩ := y1 _ (List.getElem?_eq_getElem hi)
      obtain ⟨NN, hNN⟩ : ∃ NN : Nat → L2.St → Hp → Prop, NN = fun n2 σ2 H2 => ∃ w' μ1, w'.H = H2 ∧ Post G n0 w0 μ w' μ1 ∧ Hid w' l (.lst [.int (tauS is n2)]) ∧ wipe σ2 vs = wipe σ0 vs ∧ m + (i + 1) = is.length ∧ n2 = m ∧ sumR tg fe (wipeE ρ vs) (ds.drop (i + 1)) μ1 = some (is.drop (i + 1), μ4) := ⟨_, rfl⟩
      refine .inr ⟨go, NN, fun n2 σ2 H2 q => ⟨m, Nat.lt_succ_self m, by rw [hNN] at q; exact q⟩, fun x H2 hy => ?_⟩
      obtain ⟨w2, rfl, x2, c2, fr⟩ := yl x H2 hy
      have p2 : Post G n0 w0 μ w2 μ1 := p.trans ⟨x2, c2, .refl _ _⟩
      suffices key : g x σ' w2.H fun σ2 H3 => wipe σ2 vs = wipe σ' vs → tYes σ2 H3 fun b H4 => if b = true then gYieldS (tauS is) te l (m + 1) σ2 H4 NN else NN (m + 1) σ2 H4 by exact hm _ _ _ _ _ (fun σ2 H2 q => q.2 q.1) (ho _ _ _ _ key)
      refine hg w2 (wipeE ρ vs) μ1 σ' (ds[i]) x c2 ((vr.mono p2.ex).own hw') hn1 fr _ h1 _ fun w3 σ3 p3 v3 hw3 => ?_
      unfold tYes
      show (if true = true then gYieldS (tauS is) te l (m + 1) σ3 w3.H NN else NN (m + 1) σ3 w3.H)
      rw [if_pos rfl]
      have p13 := p2.trans p3
      refine he w3 ρ1 μ2 σ3 p3.mc v3 (p13.nn hn) _ h2 _ fun w4 v p4 r4 => ?_
      have r4 : v = .int z := r4
      have p14 := p13.trans p4
      have hid4 : Hid w4 l (.lst [.int (tauS is (m + 1))]) := ((hid.ex x2).ex p3.ex).ex p4.ex
      have tk : tauS is m = tauS is (m + 1) + z := by
        unfold tauS
        rw [show is.length - m = i + 1 by omega, show is.length - (m + 1) = i by omega, List.take_add_one, List.getElem?_eq_getElem hi2, List.sum_append, e5]
        simp
      obtain ⟨f1, f2⟩ := okS_at ok (List.getElem?_eq_getElem hi2)
      have f3 : InLong (tauS is m) := by
        unfold tauS
        rw [show is.length - m = i + 1 by omega]
        simpa using f2
      obtain ⟨x5, c5, h5, _⟩ := Hid.wr (o' := .lst [.int (tauS is m)]) c0 hl p14.ex hid4 p14.mc
      exact ⟨m, z, rfl, r4, hid4.at_, by rw [e5]; exact f1, f3, tk, by rw [hNN]; exact ⟨_, μ3, rfl, ⟨x5, c5, p14.kp⟩, h5, hw3.trans hw', by omega, rfl, by rw [← e6]; exact h3⟩⟩
theorem de_sumG {wi : TI} {g : TG} {te : TE} {fi : Ev Src} {tg : Tv} {fe : Ev D} {vs : List Nat} {P : Addr} (hP : G.C.tabs P) (hi : DI G n0 W wi fi) (hg : DG G n0 W0 g tg) (ho : Own g vs) (hm : Mono g) (he : DE G n0 W0 te fe) :
    DE G n0 W (tGenS P wi g tYes te vs) (eSumG fi tg fe vs) := by
  intro w ρ μ σ c vr hn r e Q fin
  rcases Ro.bnd_some e with ⟨src, μ1, e1, e2⟩ | ⟨x, μ1, e1, e2⟩
  · refine hi w ρ μ σ c vr hn _ e1 _ fun w1 J p1 y => ?_
    obtain ⟨hT, ps, hps⟩ := p1.mc.tab0.tab P hP
    refine ⟨w1.T, ps, p1.mc.tab, hT, hps, fun T' H2 gr => ?_⟩
    obtain ⟨x2, c2⟩ := grown_world p1.mc gr
    have p2 : Post G n0 w μ ⟨w1.N, w1.A, H2, T'⟩ μ1 := p1.trans ⟨x2, c2, .refl _ _⟩
    split at e2 <;> try cases e2
    rename_i ds
    split at e2 <;> try cases e2
    rename_i is μ2 h1
    split at e2 <;> cases e2
    rename_i hok
    refine ⟨tauS is, is.length, by simp [tauS], fun l hl => ?_⟩
    exact gloop_sum (w0 := ⟨w1.N, w1.A, H2, T'⟩) (σ0 := σ) (ρ := ρ) hg ho hm he c2 (vr.mono p2.ex) (by rw [wipe_wipe]) (p2.nn hn) (fun w' μ' x' c' => y w' μ' (x2.e0.trans x') c') h1 hok hl fun w' p' => fin w' (.int is.sum) (p2.trans p') rfl
  · subst e2
    exact hi w ρ μ σ c vr hn _ e1 _ fun w1 cls dx p x => fin w1 cls dx p x
end
end G4

/-! G56: sum of a list of whole numbers. -/
namespace G4
open PySem PySem.Spec PyProof.Rows L2
theorem vals_pairs : ∀ {ns : List Int} {its : List Value}, Vals (ns.map V.int) its → ∃ ps : List (Int × Tok), its = ps.map (fun p => Value.int p.1 p.2) ∧ ps.map (·.1) = ns
  | [], its, r => by cases r; exact ⟨[], rfl, rfl⟩
  | n :: ns, its, r => by
    cases r with
    | cons h r =>
      obtain ⟨t, rfl⟩ := h
      obtain ⟨ps, rfl, e⟩ := vals_pairs r
      exact ⟨(n, t) :: ps, rfl, by simp [e]⟩
theorem preSum_take {f : Nat → Int} {ns : List Int} (h : ∀ i, f i = ns.getD i 0) : ∀ j, j ≤ ns.length → preSum f j = (ns.take j).sum
  | 0, _ => by simp [preSum]
  | j + 1, hj => by
    have hl : j < ns.length := by omega
    rw [preSum, preSum_take h j (by omega), h, List.take_add_one, List.getElem?_eq_getElem hl, List.sum_append, List.getD_eq_getElem?_getD, List.getElem?_eq_getElem hl]
    simp
noncomputable def rSumL (K : PySem.W.Frag) : List V → Hp → VK → Prop := fun xs H Q => ∃ (a : Addr) (ns : List Int), xs = [.ref a] ∧ SqL K H a (ns.map V.int) ∧ okS 0 ns = true ∧ Q (.int ns.sum) H
section
variable {X : Cx}
theorem cr_sumL (hc : X.calm = true) : CallR X (.builtin "sum") (rSumL X.K) := by
  intro pins s σ H xs us Q I rx h
  obtain ⟨a, ns, rfl, hs, ok, q⟩ := h
  rw [Vals.ref1 rx]
  obtain ⟨its, r, ht, hz⟩ := I.list hs
  obtain ⟨ps, rfl, e⟩ := vals_pairs r
  have hp : ((ps.map fun p => Value.int p.1 p.2).toArray) = intItems ps.toArray := by simp [intItems]
  rw [hp] at ht
  have hn : ∀ i, numAt ps.toArray i = ns.getD i 0 := fun i => by
    rw [← e, List.getD_eq_getElem?_getD, List.getElem?_map]
    simp [numAt]
  have hl : ps.length = ns.length := by rw [← e, List.length_map]
  refine sum_intList (A := X.A) (I.ok.hd hc) ht.isList (fun j hj => ?_) fun h' tk t' hk => ?_
  · have hj : j < ns.length := by have : j < ps.length := by simpa using hj
                                  omega
    obtain ⟨f1, f2⟩ := okS_at ok (List.getElem?_eq_getElem hj)
    refine ⟨?_, ?_⟩
    · rw [hn, List.getD_eq_getElem?_getD, List.getElem?_eq_getElem hj]; exact f1
    · rw [preSum_take hn (j + 1) (by omega)]
      simpa using f2
  · have : preSum (numAt ps.toArray) ps.toArray.size = ns.sum := by
      rw [List.size_toArray, hl, preSum_take hn _ (Nat.le_refl _), List.take_length]
    rw [this]
    exact ⟨.int _, H, I.kept (t' := tk) hk, ⟨t', rfl⟩, q⟩
end
section
variable {G : Gx} {n0 : Nat} {W : WX}
noncomputable def sumLD (d : D) (μ : Mu) : Ro D := match viewL μ d with
  | some ds => match intsD ds with
    | some ns => if okS 0 ns = true then some (.ok (.int ns.sum) μ) else none
    | none => none
  | none => none
noncomputable def oSumL : List D → Mu → Ro D
  | [d], μ => sumLD d μ
  | _, _ => none
theorem drn_sumL : DRn G n0 W (rSumL G.K) oSumL := by
  intro w μ σ as xs c hn r q e Q f
  unfold oSumL at e
  split at e <;> try cases e
  rename_i d
  unfold sumLD at e
  split at e <;> try cases e
  rename_i ds hv
  split at e <;> try cases e
  rename_i ns hns
  split at e <;> cases e
  rename_i hok
  obtain ⟨v, rfl, h⟩ := frs1 r
  obtain ⟨a, vs, rfl, hs, rs⟩ := view_L c h hv
  have ev := intsD_rel hns rs
  subst ev
  exact ⟨a, ns, rfl, hs, hok, f w _ (.refl c) rfl⟩
end
end G4

namespace Law
open PySem PySem.Spec PyProof.Rows L2 G4
def topS (i : Nat) : Stmt := PySem.Challenge.pw_partfilter_k51_numbers_of_words.main.body.getD i (.Pass ⟨0, 0, 0, 0⟩)
def fuel : Nat := 100000
/-- what stands for itself -/
structure Zs (mg : Str → Option Value) : Prop where
  any_ : mg "any" = none
  bool_ : mg "bool" = none
  enumerate_ : mg "enumerate" = none
  int_ : mg "int" = none
  isinstance_ : mg "isinstance" = none
  len_ : mg "len" = none
  list_ : mg "list" = none
  range_ : mg "range" = none
  sorted_ : mg "sorted" = none
  sum_ : mg "sum" = none
  tuple_ : mg "tuple" = none
  y_MOST_LINES : ∃ u, mg "MOST_LINES" = some u ∧ RelV (.int 300) u
  y_MOST_STATES : ∃ u, mg "MOST_STATES" = some u ∧ RelV (.int 100) u
section
variable {P : Program} {w : World} {K : PySem.W.Frag} {mg : Str → Option Value} {base : Heap} {C : Ct}
/-- the classes of exceptions -/
structure Es (P : Program) (w : World) (K : PySem.W.Frag) (mg : Str → Option Value) (base : Heap) (C : Ct) (a_TooManyStates : Addr) : Prop where
  t_TooManyStates : ExT K mg C "TooManyStates" a_TooManyStates
  s_TooManyStates_TooManyStates : PySem.W.subIn K (.ref a_TooManyStates) (.ref a_TooManyStates) = some true
abbrev s__law_draws : Stmt := topS 20
noncomputable def b__law_draws (n0 : Nat) : Sv :=
    (sSeq (sSet 3 (eVar 0))
    (sSeq (sIf (eTest (eOp oLt (eVar 3) (eC (.int 0)))) (sSet 3 (eOp oSub (eC (.int 0)) (eVar 3))) sNil)
    (sSeq (sSet 4 (eLstC aNil))
    (sSeq (sIf (eTest (eOp oGe (eVar 3) (eOp oPow (eC (.int 10)) (eC (.int 18))))) (sSeq (sFor (iRg1 (aCons (eVar 2) aNil)) (tName 5) (sSeq (sDrop (eMt (oAppend n0) (eVar 4) (aCons (eOp oMod (eB oInt (aCons (eVar 3) aNil)) (eVar 1)) aNil)))
    (sSet 3 (eOp oDiv (eVar 3) (eVar 1)))))
    (sRet (eFrz (eVar 4)))) sNil)
    (sSeq (sFor (iRg1 (aCons (eVar 2) aNil)) (tName 5) (sSeq (sSet 6 (eOp oMod (eB oInt (aCons (eOp oMul (eOp oPlus (eOp oPlus (eVar 3) (eOp oMul (eC (.int 7)) (eVar 5))) (eC (.int 1))) (eC (.int 48271))) aNil)) (eC (.int 2147483647))))
    (sSeq (sSet 6 (eOp oMod (eB oInt (aCons (eOp oPlus (eOp oMul (eVar 6) (eC (.int 69621))) (eOp oMul (eC (.int 31)) (eVar 5))) aNil)) (eC (.int 2147483629))))
    (sDrop (eMt (oAppend n0) (eVar 4) (aCons (eOp oMod (eB oInt (aCons (eOp oDiv (eVar 6) (eC (.int 7))) aNil)) (eVar 1)) aNil))))))
    (sRet (eFrz (eVar 4))))))))
noncomputable def m__law_draws : Fd := runD 7 b__law_draws
theorem sc__law_draws : FnScope ["_law_cell", "_law_modulus", "_law_count_here", "_law_number", "_law_row", "_law_k", "_law_mixed"] ["_law_cell", "_law_modulus", "_law_count_here"] (defScope s__law_draws) := ⟨rfl, rfl, rfl, by decide +kernel, rfl, by decide +kernel, by decide +kernel⟩
theorem df__law_draws (Z : Zs mg) (T : DefAt K mg "_law_draws" s__law_draws ["_law_cell", "_law_modulus", "_law_count_here"]) : Df P w K mg base C 1 "_law_draws" 3 m__law_draws := by
  refine df_of (N := ["_law_cell", "_law_modulus", "_law_count_here", "_law_number", "_law_row", "_law_k", "_law_mixed"]) (ps := ["_law_cell", "_law_modulus", "_law_count_here"]) (n := 3) (k := 0) (body := b__law_draws) T sc__law_draws rfl (by decide) fun X f A s H E outer cdv hX hr => ?_
  subst hX
  have nd := sc__law_draws.nd
  exact ⟨_, (pss_cons (ps_set (i := 3) nd rfl (Or.inl rfl) (pv 0))
      (pss_cons (ps_if (pt_cmpR op_lt (pv 3) pe_int (nomark _)) (pss_one (ps_set (i := 3) nd rfl (Or.inl rfl) (pe_op op_sub pe_int (pv 3)))) pss_nil)
      (pss_cons (ps_set (i := 4) nd rfl (Or.inl rfl) (pe_lst pa_nil))
      (pss_cons (ps_if (pt_cmpR op_ge (pv 3) (pe_op op_pow pe_int pe_int) (nomark _)) (pss_cons (ps_for PassesOwn.never rfl (pi_range1 (by rfl) Z.range_ (pa_cons (pv 2) pa_nil)) (pg_name (i := 5) nd rfl (by first | exact Or.inl rfl | exact Or.inr rfl)) (pss_cons (ps_expr (pe_bm PySem.F.plainAttrs_list PySem.F.slot_list_append PySem.F.type_list_append mt_append (pv 4) (pa_cons (pe_op op_mod (pe_callTy call_int1 (by rfl) Z.int_ (by decide +kernel) (pa_cons (pv 3) pa_nil)) (pv 1)) pa_nil)))
      (pss_one (ps_set (i := 3) nd rfl (Or.inl rfl) (pe_op op_fdiv (pv 3) (pv 1))))))
      (pss_one (ps_ret (pv 4)))) pss_nil)
      (pss_cons (ps_for PassesOwn.never rfl (pi_range1 (by rfl) Z.range_ (pa_cons (pv 2) pa_nil)) (pg_name (i := 5) nd rfl (by first | exact Or.inl rfl | exact Or.inr rfl)) (pss_cons (ps_set (i := 6) nd rfl (Or.inl rfl) (pe_op op_mod (pe_callTy call_int1 (by rfl) Z.int_ (by decide +kernel) (pa_cons (pe_op op_mul (pe_op op_plus (pe_op op_plus (pv 3) (pe_op op_mul pe_int (pv 5))) pe_int) pe_int) pa_nil)) pe_int))
      (pss_cons (ps_set (i := 6) nd rfl (Or.inl rfl) (pe_op op_mod (pe_callTy call_int1 (by rfl) Z.int_ (by decide +kernel) (pa_cons (pe_op op_plus (pe_op op_mul (pv 6) pe_int) (pe_op op_mul pe_int (pv 5))) pa_nil)) pe_int))
      (pss_one (ps_expr (pe_bm PySem.F.plainAttrs_list PySem.F.slot_list_append PySem.F.type_list_append mt_append (pv 4) (pa_cons (pe_op op_mod (pe_callTy call_int1 (by rfl) Z.int_ (by decide +kernel) (pa_cons (pe_op op_fdiv (pv 6) pe_int) pa_nil)) (pv 1)) pa_nil)))))))
      (pss_one (ps_ret (pv 4)))))))),
    fun n0 => (ds_seq (ds_set (i := 3) (de_var (i := 0)))
      (ds_seq (ds_if (dt_test (de_op dr_lt (de_var (i := 3)) (de_c (d := .int 0) (v := .int 0) (fun _ => rfl)))) (ds_set (i := 3) (de_op dr_sub (de_c (d := .int 0) (v := .int 0) (fun _ => rfl)) (de_var (i := 3)))) ds_next)
      (ds_seq (ds_set (i := 4) (de_lstC da_nil))
      (ds_seq (ds_if (dt_test (de_op dr_ge (de_var (i := 3)) (de_op dr_pow (de_c (d := .int 10) (v := .int 10) (fun _ => rfl)) (de_c (d := .int 18) (v := .int 18) (fun _ => rfl))))) (ds_seq (ds_for (di_rg1 (da_cons (de_var (i := 2)) da_nil)) dg_name (ds_seq (ds_drop (de_mt dm_append (de_var (i := 4)) (da_cons (de_op dr_mod (de_b drn_int (da_cons (de_var (i := 3)) da_nil)) (de_var (i := 1))) da_nil)))
      (ds_set (i := 3) (de_op dr_div (de_var (i := 3)) (de_var (i := 1))))))
      (ds_ret (de_frz (de_var (i := 4))))) ds_next)
      (ds_seq (ds_for (di_rg1 (da_cons (de_var (i := 2)) da_nil)) dg_name (ds_seq (ds_set (i := 6) (de_op dr_mod (de_b drn_int (da_cons (de_op dr_mul (de_op dr_plus (de_op dr_plus (de_var (i := 3)) (de_op dr_mul (de_c (d := .int 7) (v := .int 7) (fun _ => rfl)) (de_var (i := 5)))) (de_c (d := .int 1) (v := .int 1) (fun _ => rfl))) (de_c (d := .int 48271) (v := .int 48271) (fun _ => rfl))) da_nil)) (de_c (d := .int 2147483647) (v := .int 2147483647) (fun _ => rfl))))
      (ds_seq (ds_set (i := 6) (de_op dr_mod (de_b drn_int (da_cons (de_op dr_plus (de_op dr_mul (de_var (i := 6)) (de_c (d := .int 69621) (v := .int 69621) (fun _ => rfl))) (de_op dr_mul (de_c (d := .int 31) (v := .int 31) (fun _ => rfl)) (de_var (i := 5)))) da_nil)) (de_c (d := .int 2147483629) (v := .int 2147483629) (fun _ => rfl))))
      (ds_drop (de_mt dm_append (de_var (i := 4)) (da_cons (de_op dr_mod (de_b drn_int (da_cons (de_op dr_div (de_var (i := 6)) (de_c (d := .int 7) (v := .int 7) (fun _ => rfl))) da_nil)) (de_var (i := 1))) da_nil))))))
      (ds_ret (de_frz (de_var (i := 4)))))))))⟩
abbrev s__law_box : Stmt := topS 21
noncomputable def b__law_box (n0 : Nat) : Sv :=
    (sSeq (sSet 1 (eLst aNil))
    (sSeq (sFor (iAnyD (eVar 0)) (tName 2) (sSet 1 (eOp oPlus (eVar 1) (eCall m__law_draws (aCons (eVar 2) (aCons (eC (.int 1000003)) (aCons (eC (.int 6)) aNil)))))))
    (sSeq (sIf (eTest (eOp oEq (eB oLen (aCons (eVar 1) aNil)) (eC (.int 0)))) (sSet 1 (eLst (aCons (eC (.int 11)) (aCons (eC (.int 5)) (aCons (eC (.int 2)) (aCons (eC (.int 7)) (aCons (eC (.int 31)) (aCons (eC (.int 101)) (aCons (eC (.int 997)) aNil))))))))) sNil)
    (sRet (eDisp [((eC (.str "row")), (eVar 1)), ((eC (.str "at")), (eC (.int 0)))])))))
noncomputable def m__law_box : Fd := runD 3 b__law_box
theorem sc__law_box : FnScope ["_law_script", "_law_row", "_law_cell"] ["_law_script"] (defScope s__law_box) := ⟨rfl, rfl, rfl, by decide +kernel, rfl, by decide +kernel, by decide +kernel⟩
theorem df__law_box (Z : Zs mg) (T : DefAt K mg "_law_box" s__law_box ["_law_script"]) (D__law_draws : Df P w K mg base C 1 "_law_draws" 3 m__law_draws) : Df P w K mg base C 2 "_law_box" 1 m__law_box := by
  obtain ⟨f__law_draws, fd__law_draws, ps__law_draws, F__law_draws, g__law_draws, k__law_draws, b__law_draws⟩ := D__law_draws.ex
  refine df_of (N := ["_law_script", "_law_row", "_law_cell"]) (ps := ["_law_script"]) (n := 1) (k := 1) (body := b__law_box) T sc__law_box rfl (by decide) fun X f A s H E outer cdv hX hr => ?_
  subst hX
  have nd := sc__law_box.nd
  exact ⟨_, (pss_cons (ps_set (i := 1) nd rfl (Or.inl rfl) (pe_lst pa_nil))
      (pss_cons (ps_for PassesOwn.never rfl (pi_any (pv 0)) (pg_name (i := 2) nd rfl (by first | exact Or.inl rfl | exact Or.inr rfl)) (pss_one (ps_set (i := 1) nd rfl (Or.inl rfl) (pe_op op_plus (pv 1) (pe_call F__law_draws (hr.mono (by decide)) (by rfl) g__law_draws k__law_draws b__law_draws .nil pass0 (pa_cons (pv 2) (pa_cons pe_int (pa_cons pe_int pa_nil))))))))
      (pss_cons (ps_if (pt_cmpR (op_eqD hr.units) (pe_callB call_lenA (by rfl) Z.len_ (by decide +kernel) (pa_cons (pv 1) pa_nil)) pe_int (nomark _)) (pss_one (ps_set (i := 1) nd rfl (Or.inl rfl) (pe_lst (pa_cons pe_int (pa_cons pe_int (pa_cons pe_int (pa_cons pe_int (pa_cons pe_int (pa_cons pe_int (pa_cons pe_int pa_nil)))))))))) pss_nil)
      (pss_one (ps_ret (pe_disp (pps_cons pe_str (pv 1) (pps_cons pe_str pe_int pps_nil)) (by rfl) (by rfl) (fun z => by cases z) (by decide))))))),
    fun n0 => (ds_seq (ds_set (i := 1) (de_lst da_nil))
      (ds_seq (ds_for (di_any (de_var (i := 0))) dg_name (ds_set (i := 1) (de_op dr_plus (de_var (i := 1)) (de_call (n := 3) (m := m__law_draws) (da_cons (de_var (i := 2)) (da_cons (de_c (d := .int 1000003) (v := .int 1000003) (fun _ => rfl)) (da_cons (de_c (d := .int 6) (v := .int 6) (fun _ => rfl)) da_nil))) (argN_cons (argN_cons (argN_cons argN_nil)))))))
      (ds_seq (ds_if (dt_test (de_op dr_eq (de_b drn_len (da_cons (de_var (i := 1)) da_nil)) (de_c (d := .int 0) (v := .int 0) (fun _ => rfl)))) (ds_set (i := 1) (de_lst (da_cons (de_c (d := .int 11) (v := .int 11) (fun _ => rfl)) (da_cons (de_c (d := .int 5) (v := .int 5) (fun _ => rfl)) (da_cons (de_c (d := .int 2) (v := .int 2) (fun _ => rfl)) (da_cons (de_c (d := .int 7) (v := .int 7) (fun _ => rfl)) (da_cons (de_c (d := .int 31) (v := .int 31) (fun _ => rfl)) (da_cons (de_c (d := .int 101) (v := .int 101) (fun _ => rfl)) (da_cons (de_c (d := .int 997) (v := .int 997) (fun _ => rfl)) da_nil))))))))) ds_next)
      (ds_ret (de_disp (DPs.cons (de_c (d := .str "row") (v := .str "row") (fun _ => rfl)) (de_var (i := 1)) (DPs.cons (de_c (d := .str "at") (v := .str "at") (fun _ => rfl)) (de_c (d := .int 0) (v := .int 0) (fun _ => rfl)) DPs.nil)))))))⟩
abbrev s__law_next : Stmt := topS 22
noncomputable def b__law_next (n0 : Nat) : Sv :=
    (sSeq (sSet 2 (eGet (eVar 0) (eC (.str "at"))))
    (sSeq (sPut n0 (eVar 0) (eC (.str "at")) (eOp oPlus (eVar 2) (eC (.int 1))))
    (sSeq (sSet 3 (eOp oIx (eGet (eVar 0) (eC (.str "row"))) (eOp oMod (eVar 2) (eB oLen (aCons (eGet (eVar 0) (eC (.str "row"))) aNil)))))
    (sRet (eOp oMod (eB oInt (aCons (eOp oPlus (eVar 3) (eOp oMul (eC (.int 7919)) (eOp oDiv (eVar 2) (eB oLen (aCons (eGet (eVar 0) (eC (.str "row"))) aNil))))) aNil)) (eVar 1))))))
noncomputable def m__law_next : Fd := runD 4 b__law_next
theorem sc__law_next : FnScope ["_law_box_here", "_law_modulus", "_law_at", "_law_number"] ["_law_box_here", "_law_modulus"] (defScope s__law_next) := ⟨rfl, rfl, rfl, by decide +kernel, rfl, by decide +kernel, by decide +kernel⟩
theorem df__law_next (Z : Zs mg) (T : DefAt K mg "_law_next" s__law_next ["_law_box_here", "_law_modulus"]) : Df P w K mg base C 1 "_law_next" 2 m__law_next := by
  refine df_of (N := ["_law_box_here", "_law_modulus", "_law_at", "_law_number"]) (ps := ["_law_box_here", "_law_modulus"]) (n := 2) (k := 0) (body := b__law_next) T sc__law_next rfl (by decide) fun X f A s H E outer cdv hX hr => ?_
  subst hX
  have nd := sc__law_next.nd
  exact ⟨_, (pss_cons (ps_set (i := 2) nd rfl (Or.inl rfl) (pe_dget (hu_of hr) (pv 0) pe_str (fun _ _ => rfl)))
      (pss_cons (ps_dput (hu_of hr) (pv 0) pe_str (pe_op op_plus (pv 2) pe_int) rfl)
      (pss_cons (ps_set (i := 3) nd rfl (Or.inl rfl) (pe_ix ix_seq (pe_dget (hu_of hr) (pv 0) pe_str (fun _ _ => rfl)) (pe_op op_mod (pv 2) (pe_callB call_lenA (by rfl) Z.len_ (by decide +kernel) (pa_cons (pe_dget (hu_of hr) (pv 0) pe_str (fun _ _ => rfl)) pa_nil))) (fun _ _ => rfl)))
      (pss_one (ps_ret (pe_op op_mod (pe_callTy call_int1 (by rfl) Z.int_ (by decide +kernel) (pa_cons (pe_op op_plus (pv 3) (pe_op op_mul pe_int (pe_op op_fdiv (pv 2) (pe_callB call_lenA (by rfl) Z.len_ (by decide +kernel) (pa_cons (pe_dget (hu_of hr) (pv 0) pe_str (fun _ _ => rfl)) pa_nil))))) pa_nil)) (pv 1))))))),
    fun n0 => (ds_seq (ds_set (i := 2) (de_get (de_var (i := 0)) (de_c (d := .str "at") (v := .str "at") (fun _ => rfl))))
      (ds_seq (ds_put (de_var (i := 0)) (de_c (d := .str "at") (v := .str "at") (fun _ => rfl)) (de_op dr_plus (de_var (i := 2)) (de_c (d := .int 1) (v := .int 1) (fun _ => rfl))))
      (ds_seq (ds_set (i := 3) (de_op dr_ix (de_get (de_var (i := 0)) (de_c (d := .str "row") (v := .str "row") (fun _ => rfl))) (de_op dr_mod (de_var (i := 2)) (de_b drn_len (da_cons (de_get (de_var (i := 0)) (de_c (d := .str "row") (v := .str "row") (fun _ => rfl))) da_nil)))))
      (ds_ret (de_op dr_mod (de_b drn_int (da_cons (de_op dr_plus (de_var (i := 3)) (de_op dr_mul (de_c (d := .int 7919) (v := .int 7919) (fun _ => rfl)) (de_op dr_div (de_var (i := 2)) (de_b drn_len (da_cons (de_get (de_var (i := 0)) (de_c (d := .str "row") (v := .str "row") (fun _ => rfl))) da_nil))))) da_nil)) (de_var (i := 1)))))))⟩
abbrev s__law_lines : Stmt := topS 23
noncomputable def b__law_lines (n0 : Nat) : Sv :=
    (sSeq (sSet 2 (eLstC aNil))
    (sSeq (sFor (iRg1 (aCons (eVar 1) aNil)) (tName 3) (sSeq (sSet 4 (eCall m__law_next (aCons (eVar 0) (aCons (eC (.int 8)) aNil))))
    (sIf (eOr (eTest (eOp oEq (eVar 3) (eC (.int 0)))) (eTest (eOp oLt (eVar 4) (eC (.int 3))))) (sDrop (eMt (oAppend n0) (eVar 2) (aCons (eOp oIx (eLst (aCons (eTup (aCons (eC (.str "none")) aNil)) (aCons (eTup (aCons (eC (.str "empty")) aNil)) (aCons (eTup (aCons (eC (.str "letter")) (aCons (eCall m__law_next (aCons (eVar 0) (aCons (eC (.int 3)) aNil))) aNil))) aNil)))) (eCall m__law_next (aCons (eVar 0) (aCons (eC (.int 3)) aNil)))) aNil))) (sIf (eTest (eOp oLt (eVar 4) (eC (.int 5)))) (sDrop (eMt (oAppend n0) (eVar 2) (aCons (eTup (aCons (eC (.str "behind")) (aCons (eCall m__law_next (aCons (eVar 0) (aCons (eVar 3) aNil))) (aCons (eCall m__law_next (aCons (eVar 0) (aCons (eVar 3) aNil))) aNil)))) aNil))) (sIf (eTest (eOp oEq (eVar 4) (eC (.int 5)))) (sDrop (eMt (oAppend n0) (eVar 2) (aCons (eTup (aCons (eC (.str "not")) (aCons (eCall m__law_next (aCons (eVar 0) (aCons (eVar 3) aNil))) aNil))) aNil))) (sDrop (eMt (oAppend n0) (eVar 2) (aCons (eTup (aCons (eC (.str "or")) (aCons (eCall m__law_next (aCons (eVar 0) (aCons (eVar 3) aNil))) (aCons (eCall m__law_next (aCons (eVar 0) (aCons (eVar 3) aNil))) aNil)))) aNil))))))))
    (sRet (eB oTuple (aCons (eVar 2) aNil)))))
noncomputable def m__law_lines : Fd := runD 5 b__law_lines
theorem sc__law_lines : FnScope ["_law_box_here", "_law_size", "_law_lines_here", "_law_k", "_law_choice"] ["_law_box_here", "_law_size"] (defScope s__law_lines) := ⟨rfl, rfl, rfl, by decide +kernel, rfl, by decide +kernel, by decide +kernel⟩
theorem df__law_lines (Z : Zs mg) (T : DefAt K mg "_law_lines" s__law_lines ["_law_box_here", "_law_size"]) (D__law_next : Df P w K mg base C 1 "_law_next" 2 m__law_next) : Df P w K mg base C 2 "_law_lines" 2 m__law_lines := by
  obtain ⟨f__law_next, fd__law_next, ps__law_next, F__law_next, g__law_next, k__law_next, b__law_next⟩ := D__law_next.ex
  refine df_of (N := ["_law_box_here", "_law_size", "_law_lines_here", "_law_k", "_law_choice"]) (ps := ["_law_box_here", "_law_size"]) (n := 2) (k := 1) (body := b__law_lines) T sc__law_lines rfl (by decide) fun X f A s H E outer cdv hX hr => ?_
  subst hX
  have nd := sc__law_lines.nd
  exact ⟨_, (pss_cons (ps_set (i := 2) nd rfl (Or.inl rfl) (pe_lst pa_nil))
      (pss_cons (ps_for PassesOwn.never rfl (pi_range1 (by rfl) Z.range_ (pa_cons (pv 1) pa_nil)) (pg_name (i := 3) nd rfl (by first | exact Or.inl rfl | exact Or.inr rfl)) (pss_cons (ps_set (i := 4) nd rfl (Or.inl rfl) (pe_call F__law_next (hr.mono (by decide)) (by rfl) g__law_next k__law_next b__law_next .nil pass0 (pa_cons (pv 0) (pa_cons pe_int pa_nil))))
      (pss_one (ps_if (PW.pt (pw_or (pt_cmpR (op_eqD hr.units) (pv 3) pe_int (nomark _)) (pw_or1 (pt_cmpR op_lt (pv 4) pe_int (nomark _))))) (pss_one (ps_expr (pe_bm PySem.F.plainAttrs_list PySem.F.slot_list_append PySem.F.type_list_append mt_append (pv 2) (pa_cons (pe_ix ix_seq (pe_lst (pa_cons (pe_tup (pa_cons pe_str pa_nil)) (pa_cons (pe_tup (pa_cons pe_str pa_nil)) (pa_cons (pe_tup (pa_cons pe_str (pa_cons (pe_call F__law_next (hr.mono (by decide)) (by rfl) g__law_next k__law_next b__law_next .nil pass0 (pa_cons (pv 0) (pa_cons pe_int pa_nil))) pa_nil))) pa_nil)))) (pe_call F__law_next (hr.mono (by decide)) (by rfl) g__law_next k__law_next b__law_next .nil pass0 (pa_cons (pv 0) (pa_cons pe_int pa_nil))) (fun _ _ => rfl)) pa_nil)))) (pss_one (ps_if (pt_cmpR op_lt (pv 4) pe_int (nomark _)) (pss_one (ps_expr (pe_bm PySem.F.plainAttrs_list PySem.F.slot_list_append PySem.F.type_list_append mt_append (pv 2) (pa_cons (pe_tup (pa_cons pe_str (pa_cons (pe_call F__law_next (hr.mono (by decide)) (by rfl) g__law_next k__law_next b__law_next .nil pass0 (pa_cons (pv 0) (pa_cons (pv 3) pa_nil))) (pa_cons (pe_call F__law_next (hr.mono (by decide)) (by rfl) g__law_next k__law_next b__law_next .nil pass0 (pa_cons (pv 0) (pa_cons (pv 3) pa_nil))) pa_nil)))) pa_nil)))) (pss_one (ps_if (pt_cmpR (op_eqD hr.units) (pv 4) pe_int (nomark _)) (pss_one (ps_expr (pe_bm PySem.F.plainAttrs_list PySem.F.slot_list_append PySem.F.type_list_append mt_append (pv 2) (pa_cons (pe_tup (pa_cons pe_str (pa_cons (pe_call F__law_next (hr.mono (by decide)) (by rfl) g__law_next k__law_next b__law_next .nil pass0 (pa_cons (pv 0) (pa_cons (pv 3) pa_nil))) pa_nil))) pa_nil)))) (pss_one (ps_expr (pe_bm PySem.F.plainAttrs_list PySem.F.slot_list_append PySem.F.type_list_append mt_append (pv 2) (pa_cons (pe_tup (pa_cons pe_str (pa_cons (pe_call F__law_next (hr.mono (by decide)) (by rfl) g__law_next k__law_next b__law_next .nil pass0 (pa_cons (pv 0) (pa_cons (pv 3) pa_nil))) (pa_cons (pe_call F__law_next (hr.mono (by decide)) (by rfl) g__law_next k__law_next b__law_next .nil pass0 (pa_cons (pv 0) (pa_cons (pv 3) pa_nil))) pa_nil)))) pa_nil))))))))))))
      (pss_one (ps_ret (pe_callTy call_tuple_of (by rfl) Z.tuple_ (by decide +kernel) (pa_cons (pv 2) pa_nil)))))),
    fun n0 => (ds_seq (ds_set (i := 2) (de_lstC da_nil))
      (ds_seq (ds_for (di_rg1 (da_cons (de_var (i := 1)) da_nil)) dg_name (ds_seq (ds_set (i := 4) (de_call (n := 2) (m := m__law_next) (da_cons (de_var (i := 0)) (da_cons (de_c (d := .int 8) (v := .int 8) (fun _ => rfl)) da_nil)) (argN_cons (argN_cons argN_nil))))
      (ds_if (dt_or (dt_test (de_op dr_eq (de_var (i := 3)) (de_c (d := .int 0) (v := .int 0) (fun _ => rfl)))) (dt_test (de_op dr_lt (de_var (i := 4)) (de_c (d := .int 3) (v := .int 3) (fun _ => rfl))))) (ds_drop (de_mt dm_append (de_var (i := 2)) (da_cons (de_op dr_ix (de_lst (da_cons (de_tup (da_cons (de_c (d := .str "none") (v := .str "none") (fun _ => rfl)) da_nil)) (da_cons (de_tup (da_cons (de_c (d := .str "empty") (v := .str "empty") (fun _ => rfl)) da_nil)) (da_cons (de_tup (da_cons (de_c (d := .str "letter") (v := .str "letter") (fun _ => rfl)) (da_cons (de_call (n := 2) (m := m__law_next) (da_cons (de_var (i := 0)) (da_cons (de_c (d := .int 3) (v := .int 3) (fun _ => rfl)) da_nil)) (argN_cons (argN_cons argN_nil))) da_nil))) da_nil)))) (de_call (n := 2) (m := m__law_next) (da_cons (de_var (i := 0)) (da_cons (de_c (d := .int 3) (v := .int 3) (fun _ => rfl)) da_nil)) (argN_cons (argN_cons argN_nil)))) da_nil))) (ds_if (dt_test (de_op dr_lt (de_var (i := 4)) (de_c (d := .int 5) (v := .int 5) (fun _ => rfl)))) (ds_drop (de_mt dm_append (de_var (i := 2)) (da_cons (de_tup (da_cons (de_c (d := .str "behind") (v := .str "behind") (fun _ => rfl)) (da_cons (de_call (n := 2) (m := m__law_next) (da_cons (de_var (i := 0)) (da_cons (de_var (i := 3)) da_nil)) (argN_cons (argN_cons argN_nil))) (da_cons (de_call (n := 2) (m := m__law_next) (da_cons (de_var (i := 0)) (da_cons (de_var (i := 3)) da_nil)) (argN_cons (argN_cons argN_nil))) da_nil)))) da_nil))) (ds_if (dt_test (de_op dr_eq (de_var (i := 4)) (de_c (d := .int 5) (v := .int 5) (fun _ => rfl)))) (ds_drop (de_mt dm_append (de_var (i := 2)) (da_cons (de_tup (da_cons (de_c (d := .str "not") (v := .str "not") (fun _ => rfl)) (da_cons (de_call (n := 2) (m := m__law_next) (da_cons (de_var (i := 0)) (da_cons (de_var (i := 3)) da_nil)) (argN_cons (argN_cons argN_nil))) da_nil))) da_nil))) (ds_drop (de_mt dm_append (de_var (i := 2)) (da_cons (de_tup (da_cons (de_c (d := .str "or") (v := .str "or") (fun _ => rfl)) (da_cons (de_call (n := 2) (m := m__law_next) (da_cons (de_var (i := 0)) (da_cons (de_var (i := 3)) da_nil)) (argN_cons (argN_cons argN_nil))) (da_cons (de_call (n := 2) (m := m__law_next) (da_cons (de_var (i := 0)) (da_cons (de_var (i := 3)) da_nil)) (argN_cons (argN_cons argN_nil))) da_nil)))) da_nil))))))))
      (ds_ret (de_b drn_tuple (da_cons (de_var (i := 2)) da_nil)))))⟩
abbrev s__law_after : Stmt := topS 27
noncomputable def b__law_after (n0 : Nat) : Sv :=
    (sSeq (sSet 5 (eOp oIx (eOp oIx (eOp oIx (eVar 1) (eC (.int 0))) (eOp oIx (eVar 3) (eC (.int 0)))) (eVar 4)))
    (sSeq (sIf (eTest (eOp oEq (eVar 0) (eC (.str "or")))) (sRet (eTup (aCons (eVar 5) (aCons (eOp oIx (eOp oIx (eOp oIx (eVar 2) (eC (.int 0))) (eOp oIx (eVar 3) (eC (.int 1)))) (eVar 4)) aNil)))) sNil)
    (sSeq (sSet 6 (eCompC (iAnyD (eOp oIx (eVar 3) (eC (.int 1)))) (tName 7) eYes (eOp oIx (eOp oIx (eOp oIx (eVar 2) (eC (.int 0))) (eVar 7)) (eVar 4)) [7]))
    (sSeq (sIf (eTru (eOp oIx (eOp oIx (eVar 1) (eC (.int 1))) (eVar 5))) (sDrop (eMt (oAppend n0) (eVar 6) (aCons (eC (.int 0)) aNil))) sNil)
    (sRet (eTup (aCons (eVar 5) (aCons (eB oTuple (aCons (eComp (iRg1 (aCons (eB oLen (aCons (eOp oIx (eVar 2) (eC (.int 1))) aNil)) aNil)) (tName 7) (eTest (eOp oIn (eVar 7) (eVar 6))) (eVar 7) [7]) aNil)) aNil))))))))
noncomputable def m__law_after : Fd := runD 8 b__law_after
theorem sc__law_after : FnScope ["_law_kind", "_law_one", "_law_two", "_law_pair", "_law_letter", "_law_state", "_law_found", "_law_k"] ["_law_kind", "_law_one", "_law_two", "_law_pair", "_law_letter"] (defScope s__law_after) := ⟨rfl, rfl, rfl, by decide +kernel, rfl, by decide +kernel, by decide +kernel⟩
theorem df__law_after (Z : Zs mg) (T : DefAt K mg "_law_after" s__law_after ["_law_kind", "_law_one", "_law_two", "_law_pair", "_law_letter"]) : Df P w K mg base C 1 "_law_after" 5 m__law_after := by
  refine df_of (N := ["_law_kind", "_law_one", "_law_two", "_law_pair", "_law_letter", "_law_state", "_law_found", "_law_k"]) (ps := ["_law_kind", "_law_one", "_law_two", "_law_pair", "_law_letter"]) (n := 5) (k := 0) (body := b__law_after) T sc__law_after rfl (by decide) fun X f A s H E outer cdv hX hr => ?_
  subst hX
  have nd := sc__law_after.nd
  exact ⟨_, (pss_cons (ps_set (i := 5) nd rfl (Or.inl rfl) (pe_ix ix_seq (pe_ix ix_seq (pe_ix ix_seq (pv 1) pe_int (fun _ _ => rfl)) (pe_ix ix_seq (pv 3) pe_int (fun _ _ => rfl)) (fun _ _ => rfl)) (pv 4) (fun _ _ => rfl)))
      (pss_cons (ps_if (pt_cmpR (op_eqD hr.units) (pv 0) pe_str (nomark _)) (pss_one (ps_ret (pe_tup (pa_cons (pv 5) (pa_cons (pe_ix ix_seq (pe_ix ix_seq (pe_ix ix_seq (pv 2) pe_int (fun _ _ => rfl)) (pe_ix ix_seq (pv 3) pe_int (fun _ _ => rfl)) (fun _ _ => rfl)) (pv 4) (fun _ _ => rfl)) pa_nil))))) pss_nil)
      (pss_cons (ps_set (i := 6) nd rfl (Or.inr rfl) (pe_lc (own := ([("_law_k", 7)] : List (Str × Nat))) (g := (gName 7)) (tt := tYes) (te := (tOp (rIx K) (tOp (rIx K) (tOp (rIx K) (tVar 2) (tC (.int 0))) (tVar 7)) (tVar 4))) rfl nd (pi_any (pe_ix ix_seq (pv 3) pe_int (fun _ _ => rfl))) (blkOk_by (by first | decide +kernel | rfl)) (fun _ _ _ _ _ => (pg_name (i := 7) nd rfl (by first | exact Or.inl rfl | exact Or.inr rfl))) (fun _ _ _ _ _ => pts_nil) (fun _ _ _ _ _ => (pe_ix ix_seq (pe_ix ix_seq (pe_ix ix_seq (pv 2) pe_int (fun _ _ => rfl)) (pv 7) (fun _ _ => rfl)) (pv 4) (fun _ _ => rfl)))))
      (pss_cons (ps_if (pt_truth (pe_ix ix_seq (pe_ix ix_seq (pv 1) pe_int (fun _ _ => rfl)) (pv 5) (fun _ _ => rfl)) (by intro _; rfl)) (pss_one (ps_expr (pe_bm PySem.F.plainAttrs_list PySem.F.slot_list_append PySem.F.type_list_append mt_append (pv 6) (pa_cons pe_int pa_nil)))) pss_nil)
      (pss_one (ps_ret (pe_tup (pa_cons (pv 5) (pa_cons (pe_callTy call_tuple_of (by rfl) Z.tuple_ (by decide +kernel) (pa_cons (pe_lc (own := ([("_law_k", 7)] : List (Str × Nat))) (g := (gName 7)) (tt := (tTest (tOp (rInA K) (tVar 7) (tVar 6)))) (te := (tVar 7)) rfl nd (pi_range1 (by rfl) Z.range_ (pa_cons (pe_callB call_lenA (by rfl) Z.len_ (by decide +kernel) (pa_cons (pe_ix ix_seq (pv 2) pe_int (fun _ _ => rfl)) pa_nil)) pa_nil)) (blkOk_by (by first | decide +kernel | rfl)) (fun _ _ _ _ _ => (pg_name (i := 7) nd rfl (by first | exact Or.inl rfl | exact Or.inr rfl))) (fun _ _ _ _ _ => (pts_one (pt_cmpR (op_inA (hu65 hr)) (pv 7) (pv 6) (by rfl)))) (fun _ _ _ _ _ => (pv 7))) pa_nil)) pa_nil))))))))),
    fun n0 => (ds_seq (ds_set (i := 5) (de_op dr_ix (de_op dr_ix (de_op dr_ix (de_var (i := 1)) (de_c (d := .int 0) (v := .int 0) (fun _ => rfl))) (de_op dr_ix (de_var (i := 3)) (de_c (d := .int 0) (v := .int 0) (fun _ => rfl)))) (de_var (i := 4))))
      (ds_seq (ds_if (dt_test (de_op dr_eq (de_var (i := 0)) (de_c (d := .str "or") (v := .str "or") (fun _ => rfl)))) (ds_ret (de_tup (da_cons (de_var (i := 5)) (da_cons (de_op dr_ix (de_op dr_ix (de_op dr_ix (de_var (i := 2)) (de_c (d := .int 0) (v := .int 0) (fun _ => rfl))) (de_op dr_ix (de_var (i := 3)) (de_c (d := .int 1) (v := .int 1) (fun _ => rfl)))) (de_var (i := 4))) da_nil)))) ds_next)
      (ds_seq (ds_set (i := 6) (de_compC (di_any (de_op dr_ix (de_var (i := 3)) (de_c (d := .int 1) (v := .int 1) (fun _ => rfl)))) dg_name own_name mono_name dt_yes (de_op dr_ix (de_op dr_ix (de_op dr_ix (de_var (i := 2)) (de_c (d := .int 0) (v := .int 0) (fun _ => rfl))) (de_var (i := 7))) (de_var (i := 4)))))
      (ds_seq (ds_if (dt_tru (de_op dr_ix (de_op dr_ix (de_var (i := 1)) (de_c (d := .int 1) (v := .int 1) (fun _ => rfl))) (de_var (i := 5)))) (ds_drop (de_mt dm_append (de_var (i := 6)) (da_cons (de_c (d := .int 0) (v := .int 0) (fun _ => rfl)) da_nil))) ds_next)
      (ds_ret (de_tup (da_cons (de_var (i := 5)) (da_cons (de_b drn_tuple (da_cons (de_comp (di_rg1 (da_cons (de_b drn_len (da_cons (de_op dr_ix (de_var (i := 2)) (de_c (d := .int 1) (v := .int 1) (fun _ => rfl))) da_nil)) da_nil)) dg_name own_name mono_name (dt_test (de_op dr_in (de_var (i := 7)) (de_var (i := 6)))) (de_var (i := 7))) da_nil)) da_nil))))))))⟩
abbrev s__law_joined : Stmt := topS 28
noncomputable def b__law_joined (n0 : Nat) : Sv :=
    (sSeq (sSet 4 (eTup (aCons (eC (.int 0)) (aCons (eC (.int 0)) aNil))))
    (sSeq (sIf (eTest (eOp oEq (eVar 0) (eC (.str "behind")))) (sSeq (sSet 4 (eTup (aCons (eC (.int 0)) (aCons (eTup aNil) aNil))))
    (sIf (eTru (eOp oIx (eOp oIx (eVar 1) (eC (.int 1))) (eC (.int 0)))) (sSet 4 (eTup (aCons (eC (.int 0)) (aCons (eTup (aCons (eC (.int 0)) aNil)) aNil)))) sNil)) sNil)
    (sSeq (sSet 5 (eLstC (aCons (eVar 4) aNil)))
    (sSeq (sSet 6 (eDN1 (eVar 4) (eC (.int 0))))
    (sSeq (sSet 7 (eLstC aNil))
    (sSeq (sFor (iRg1 (aCons (eC (.int 101)) aNil)) (tName 8) (sSeq (sIf (eTest (eOp oLt (eVar 8) (eB oLen (aCons (eVar 5) aNil)))) (sSeq (sSet 11 (eLstC aNil))
    (sSeq (sFor (iRg1 (aCons (eVar 3) aNil)) (tName 12) (sSeq (sSet 10 (eCall m__law_after (aCons (eVar 0) (aCons (eVar 1) (aCons (eVar 2) (aCons (eOp oIx (eVar 5) (eVar 8)) (aCons (eVar 12) aNil)))))))
    (sSeq (sIf (eTest (eOp (oDNIn true) (eVar 10) (eVar 6))) (sSeq (sAsg (eB oLen (aCons (eVar 5) aNil)) (tSubN (eVar 6) (eVar 10)))
    (sDrop (eMt (oAppend n0) (eVar 5) (aCons (eVar 10) aNil)))) sNil)
    (sDrop (eMt (oAppend n0) (eVar 11) (aCons (eOp dnget (eVar 6) (eVar 10)) aNil))))))
    (sDrop (eMt (oAppend n0) (eVar 7) (aCons (eFrz (eVar 11)) aNil))))) sNil)
    (sIf (eTest (eOp oGt (eB oLen (aCons (eVar 5) aNil)) (eC (.int 100)))) (sRet (eC .non)) sNil)))
    (sSeq (sSet 9 (eLstC aNil))
    (sSeq (sFor (iAnyD (eVar 5)) (tName 10) (sIf (eTest (eOp oEq (eVar 0) (eC (.str "or")))) (sDrop (eMt (oAppend n0) (eVar 9) (aCons (eOrV (eOp oIx (eOp oIx (eVar 1) (eC (.int 1))) (eOp oIx (eVar 10) (eC (.int 0)))) (eOp oIx (eOp oIx (eVar 2) (eC (.int 1))) (eOp oIx (eVar 10) (eC (.int 1))))) aNil))) (sDrop (eMt (oAppend n0) (eVar 9) (aCons (eOp oGt (eB oLen (aCons (eComp (iAnyD (eOp oIx (eVar 10) (eC (.int 1)))) (tName 13) (eTru (eOp oIx (eOp oIx (eVar 2) (eC (.int 1))) (eVar 13))) (eVar 13) [13]) aNil)) (eC (.int 0))) aNil)))))
    (sRet (eLst (aCons (eFrz (eVar 7)) (aCons (eFrz (eVar 9)) aNil))))))))))))
noncomputable def m__law_joined : Fd := runD 14 b__law_joined
theorem sc__law_joined : FnScope ["_law_kind", "_law_one", "_law_two", "_law_letters", "_law_first", "_law_pairs", "_law_places", "_law_rows", "_law_at", "_law_taken_here", "_law_pair", "_law_row", "_law_letter", "_law_k"] ["_law_kind", "_law_one", "_law_two", "_law_letters"] (defScope s__law_joined) := ⟨rfl, rfl, rfl, by decide +kernel, rfl, by decide +kernel, by decide +kernel⟩
theorem df__law_joined (Z : Zs mg) (T : DefAt K mg "_law_joined" s__law_joined ["_law_kind", "_law_one", "_law_two", "_law_letters"]) (hW : C.wld = w) (D__law_after : Df P w K mg base C 1 "_law_after" 5 m__law_after) : Df P w K mg base C 2 "_law_joined" 4 m__law_joined := by
  obtain ⟨f__law_after, fd__law_after, ps__law_after, F__law_after, g__law_after, k__law_after, b__law_after⟩ := D__law_after.ex
  refine df_of (N := ["_law_kind", "_law_one", "_law_two", "_law_letters", "_law_first", "_law_pairs", "_law_places", "_law_rows", "_law_at", "_law_taken_here", "_law_pair", "_law_row", "_law_letter", "_law_k"]) (ps := ["_law_kind", "_law_one", "_law_two", "_law_letters"]) (n := 4) (k := 1) (body := b__law_joined) T sc__law_joined rfl (by decide) fun X f A s H E outer cdv hX hr => ?_
  subst hX
  have nd := sc__law_joined.nd
  exact ⟨_, (pss_cons (ps_set (i := 4) nd rfl (Or.inl rfl) (pe_tup (pa_cons pe_int (pa_cons pe_int pa_nil))))
      (pss_cons (ps_if (pt_cmpR (op_eqD hr.units) (pv 0) pe_str (nomark _)) (pss_cons (ps_set (i := 4) nd rfl (Or.inl rfl) (pe_tup (pa_cons pe_int (pa_cons (pe_tup pa_nil) pa_nil))))
      (pss_one (ps_if (pt_truth (pe_ix ix_seq (pe_ix ix_seq (pv 1) pe_int (fun _ _ => rfl)) pe_int (fun _ _ => rfl)) (by intro _; rfl)) (pss_one (ps_set (i := 4) nd rfl (Or.inl rfl) (pe_tup (pa_cons pe_int (pa_cons (pe_tup (pa_cons pe_int pa_nil)) pa_nil))))) pss_nil))) pss_nil)
      (pss_cons (ps_set (i := 5) nd rfl (Or.inl rfl) (pe_lst (pa_cons (pv 4) pa_nil)))
      (pss_cons (ps_set (i := 6) nd rfl (Or.inl rfl) (pe_dn1 (hu65 hr) (pv 4) pe_int))
      (pss_cons (ps_set (i := 7) nd rfl (Or.inl rfl) (pe_lst pa_nil))
      (pss_cons (ps_for PassesOwn.never rfl (pi_range1 (by rfl) Z.range_ (pa_cons pe_int pa_nil)) (pg_name (i := 8) nd rfl (by first | exact Or.inl rfl | exact Or.inr rfl)) (pss_cons (ps_if (pt_cmpR op_lt (pv 8) (pe_callB call_lenA (by rfl) Z.len_ (by decide +kernel) (pa_cons (pv 5) pa_nil)) (nomark _)) (pss_cons (ps_set (i := 11) nd rfl (Or.inl rfl) (pe_lst pa_nil))
      (pss_cons (ps_for PassesOwn.never rfl (pi_range1 (by rfl) Z.range_ (pa_cons (pv 3) pa_nil)) (pg_name (i := 12) nd rfl (by first | exact Or.inl rfl | exact Or.inr rfl)) (pss_cons (ps_set (i := 10) nd rfl (Or.inl rfl) (pe_call F__law_after (hr.mono (by decide)) (by rfl) g__law_after k__law_after b__law_after .nil pass0 (pa_cons (pv 0) (pa_cons (pv 1) (pa_cons (pv 2) (pa_cons (pe_ix ix_seq (pv 5) (pv 8) (fun _ _ => rfl)) (pa_cons (pv 12) pa_nil)))))))
      (pss_cons (ps_if (pt_cmpR (op_dnNotIn (hu65 hr)) (pv 10) (pv 6) (by rfl)) (pss_cons (ps_asg (pe_callB call_lenA (by rfl) Z.len_ (by decide +kernel) (pa_cons (pv 5) pa_nil)) (pg_sub (pv 6) (pv 10) (set_dn (hu65 hr))))
      (pss_one (ps_expr (pe_bm PySem.F.plainAttrs_list PySem.F.slot_list_append PySem.F.type_list_append mt_append (pv 5) (pa_cons (pv 10) pa_nil))))) pss_nil)
      (pss_one (ps_expr (pe_bm PySem.F.plainAttrs_list PySem.F.slot_list_append PySem.F.type_list_append mt_append (pv 11) (pa_cons (pe_dnGet (hu65 hr) (pv 6) (pv 10) (fun _ _ => rfl)) pa_nil)))))))
      (pss_one (ps_expr (pe_bm PySem.F.plainAttrs_list PySem.F.slot_list_append PySem.F.type_list_append mt_append (pv 7) (pa_cons (pv 11) pa_nil)))))) pss_nil)
      (pss_one (ps_if (pt_cmpR op_gt (pe_callB call_lenA (by rfl) Z.len_ (by decide +kernel) (pa_cons (pv 5) pa_nil)) pe_int (nomark _)) (pss_one (ps_ret pe_non)) pss_nil))))
      (pss_cons (ps_set (i := 9) nd rfl (Or.inl rfl) (pe_lst pa_nil))
      (pss_cons (ps_for PassesOwn.never rfl (pi_any (pv 5)) (pg_name (i := 10) nd rfl (by first | exact Or.inl rfl | exact Or.inr rfl)) (pss_one (ps_if (pt_cmpR (op_eqD hr.units) (pv 0) pe_str (nomark _)) (pss_one (ps_expr (pe_bm PySem.F.plainAttrs_list PySem.F.slot_list_append PySem.F.type_list_append mt_append (pv 9) (pa_cons (pe_or (pe_ix ix_seq (pe_ix ix_seq (pv 1) pe_int (fun _ _ => rfl)) (pe_ix ix_seq (pv 10) pe_int (fun _ _ => rfl)) (fun _ _ => rfl)) (pe_one (pe_ix ix_seq (pe_ix ix_seq (pv 2) pe_int (fun _ _ => rfl)) (pe_ix ix_seq (pv 10) pe_int (fun _ _ => rfl)) (fun _ _ => rfl)))) pa_nil)))) (pss_one (ps_expr (pe_bm PySem.F.plainAttrs_list PySem.F.slot_list_append PySem.F.type_list_append mt_append (pv 9) (pa_cons (pe_cmpR op_gt (pe_callB call_lenA (by rfl) Z.len_ (by decide +kernel) (pa_cons (pe_lc (own := ([("_law_k", 13)] : List (Str × Nat))) (g := (gName 13)) (tt := (tTru K (tOp (rIx K) (tOp (rIx K) (tVar 2) (tC (.int 1))) (tVar 13)))) (te := (tVar 13)) rfl nd (pi_any (pe_ix ix_seq (pv 10) pe_int (fun _ _ => rfl))) (blkOk_by (by first | decide +kernel | rfl)) (fun _ _ _ _ _ => (pg_name (i := 13) nd rfl (by first | exact Or.inl rfl | exact Or.inr rfl))) (fun _ _ _ _ _ => (pts_one (pt_truth (pe_ix ix_seq (pe_ix ix_seq (pv 2) pe_int (fun _ _ => rfl)) (pv 13) (fun _ _ => rfl)) (by intro _; rfl)))) (fun _ _ _ _ _ => (pv 13))) pa_nil)) pe_int (nomark _)) pa_nil)))))))
      (pss_one (ps_ret (pe_lst (pa_cons (pv 7) (pa_cons (pv 9) pa_nil))))))))))))),
    fun n0 => (ds_seq (ds_set (i := 4) (de_tup (da_cons (de_c (d := .int 0) (v := .int 0) (fun _ => rfl)) (da_cons (de_c (d := .int 0) (v := .int 0) (fun _ => rfl)) da_nil))))
      (ds_seq (ds_if (dt_test (de_op dr_eq (de_var (i := 0)) (de_c (d := .str "behind") (v := .str "behind") (fun _ => rfl)))) (ds_seq (ds_set (i := 4) (de_tup (da_cons (de_c (d := .int 0) (v := .int 0) (fun _ => rfl)) (da_cons (de_tup da_nil) da_nil))))
      (ds_if (dt_tru (de_op dr_ix (de_op dr_ix (de_var (i := 1)) (de_c (d := .int 1) (v := .int 1) (fun _ => rfl))) (de_c (d := .int 0) (v := .int 0) (fun _ => rfl)))) (ds_set (i := 4) (de_tup (da_cons (de_c (d := .int 0) (v := .int 0) (fun _ => rfl)) (da_cons (de_tup (da_cons (de_c (d := .int 0) (v := .int 0) (fun _ => rfl)) da_nil)) da_nil)))) ds_next)) ds_next)
      (ds_seq (ds_set (i := 5) (de_lstC (da_cons (de_var (i := 4)) da_nil)))
      (ds_seq (ds_set (i := 6) (de_dn1 hW (de_var (i := 4)) (de_c (d := .int 0) (v := .int 0) (fun _ => rfl))))
      (ds_seq (ds_set (i := 7) (de_lstC da_nil))
      (ds_seq (ds_for (di_rg1 (da_cons (de_c (d := .int 101) (v := .int 101) (fun _ => rfl)) da_nil)) dg_name (ds_seq (ds_if (dt_test (de_op dr_lt (de_var (i := 8)) (de_b drn_len (da_cons (de_var (i := 5)) da_nil)))) (ds_seq (ds_set (i := 11) (de_lstC da_nil))
      (ds_seq (ds_for (di_rg1 (da_cons (de_var (i := 3)) da_nil)) dg_name (ds_seq (ds_set (i := 10) (de_call (n := 5) (m := m__law_after) (da_cons (de_var (i := 0)) (da_cons (de_var (i := 1)) (da_cons (de_var (i := 2)) (da_cons (de_op dr_ix (de_var (i := 5)) (de_var (i := 8))) (da_cons (de_var (i := 12)) da_nil))))) (argN_cons (argN_cons (argN_cons (argN_cons (argN_cons argN_nil)))))))
      (ds_seq (ds_if (dt_test (de_op (dr_dnIn true hW) (de_var (i := 10)) (de_var (i := 6)))) (ds_seq (ds_asg (de_b drn_len (da_cons (de_var (i := 5)) da_nil)) (dg_subN hW (de_var (i := 6)) (de_var (i := 10))))
      (ds_drop (de_mt dm_append (de_var (i := 5)) (da_cons (de_var (i := 10)) da_nil)))) ds_next)
      (ds_drop (de_mt dm_append (de_var (i := 11)) (da_cons (de_dnGet hW (de_var (i := 6)) (de_var (i := 10))) da_nil))))))
      (ds_drop (de_mt dm_append (de_var (i := 7)) (da_cons (de_frz (de_var (i := 11))) da_nil))))) ds_next)
      (ds_if (dt_test (de_op dr_gt (de_b drn_len (da_cons (de_var (i := 5)) da_nil)) (de_c (d := .int 100) (v := .int 100) (fun _ => rfl)))) (ds_ret (de_c (d := .non) (v := .non) (fun _ => rfl))) ds_next)))
      (ds_seq (ds_set (i := 9) (de_lstC da_nil))
      (ds_seq (ds_for (di_any (de_var (i := 5))) dg_name (ds_if (dt_test (de_op dr_eq (de_var (i := 0)) (de_c (d := .str "or") (v := .str "or") (fun _ => rfl)))) (ds_drop (de_mt dm_append (de_var (i := 9)) (da_cons (de_orV (de_op dr_ix (de_op dr_ix (de_var (i := 1)) (de_c (d := .int 1) (v := .int 1) (fun _ => rfl))) (de_op dr_ix (de_var (i := 10)) (de_c (d := .int 0) (v := .int 0) (fun _ => rfl)))) (de_op dr_ix (de_op dr_ix (de_var (i := 2)) (de_c (d := .int 1) (v := .int 1) (fun _ => rfl))) (de_op dr_ix (de_var (i := 10)) (de_c (d := .int 1) (v := .int 1) (fun _ => rfl))))) da_nil))) (ds_drop (de_mt dm_append (de_var (i := 9)) (da_cons (de_op dr_gt (de_b drn_len (da_cons (de_comp (di_any (de_op dr_ix (de_var (i := 10)) (de_c (d := .int 1) (v := .int 1) (fun _ => rfl)))) dg_name own_name mono_name (dt_tru (de_op dr_ix (de_op dr_ix (de_var (i := 2)) (de_c (d := .int 1) (v := .int 1) (fun _ => rfl))) (de_var (i := 13)))) (de_var (i := 13))) da_nil)) (de_c (d := .int 0) (v := .int 0) (fun _ => rfl))) da_nil)))))
      (ds_ret (de_lst (da_cons (de_frz (de_var (i := 7))) (da_cons (de_frz (de_var (i := 9))) da_nil))))))))))))⟩
abbrev s__law_atom : Stmt := topS 26
noncomputable def b__law_atom (n0 : Nat) : Sv :=
    (sSeq (sIf (eTest (eOp oEq (eOp oIx (eVar 0) (eC (.int 0))) (eC (.str "none")))) (sRet (eLst (aCons (eLst (aCons (eComp (iRg1 (aCons (eVar 1) aNil)) (tName 4) eYes (eC (.int 0)) [4]) aNil)) (aCons (eLst (aCons (eC (.bl false)) aNil)) aNil)))) sNil)
    (sSeq (sIf (eTest (eOp oEq (eOp oIx (eVar 0) (eC (.int 0))) (eC (.str "empty")))) (sSeq (sSet 2 (eCompC (iRg1 (aCons (eVar 1) aNil)) (tName 4) eYes (eC (.int 1)) [4]))
    (sRet (eLst (aCons (eFrzL (eLst (aCons (eVar 2) (aCons (eB oList (aCons (eVar 2) aNil)) aNil)))) (aCons (eLst (aCons (eC (.bl true)) (aCons (eC (.bl false)) aNil))) aNil))))) sNil)
    (sSeq (sSet 2 (eCompC (iRg1 (aCons (eVar 1) aNil)) (tName 4) eYes (eC (.int 2)) [4]))
    (sSeq (sIf (eTest (eOp oLt (eOp oIx (eVar 0) (eC (.int 1))) (eVar 1))) (sAsg (eC (.int 1)) (tSub n0 (eVar 2) (eOp oIx (eVar 0) (eC (.int 1))))) sNil)
    (sSeq (sSet 3 (eComp (iRg1 (aCons (eVar 1) aNil)) (tName 4) eYes (eC (.int 2)) [4]))
    (sRet (eLst (aCons (eLst (aCons (eFrz (eVar 2)) (aCons (eVar 3) (aCons (eB oList (aCons (eVar 3) aNil)) aNil)))) (aCons (eLst (aCons (eC (.bl false)) (aCons (eC (.bl true)) (aCons (eC (.bl false)) aNil)))) aNil)))))))))
noncomputable def m__law_atom : Fd := runD 5 b__law_atom
theorem sc__law_atom : FnScope ["_law_line", "_law_letters", "_law_row", "_law_rest", "_law_k"] ["_law_line", "_law_letters"] (defScope s__law_atom) := ⟨rfl, rfl, rfl, by decide +kernel, rfl, by decide +kernel, by decide +kernel⟩
theorem df__law_atom (Z : Zs mg) (T : DefAt K mg "_law_atom" s__law_atom ["_law_line", "_law_letters"]) : Df P w K mg base C 1 "_law_atom" 2 m__law_atom := by
  refine df_of (N := ["_law_line", "_law_letters", "_law_row", "_law_rest", "_law_k"]) (ps := ["_law_line", "_law_letters"]) (n := 2) (k := 0) (body := b__law_atom) T sc__law_atom rfl (by decide) fun X f A s H E outer cdv hX hr => ?_
  subst hX
  have nd := sc__law_atom.nd
  exact ⟨_, (pss_cons (ps_if (pt_cmpR (op_eqD hr.units) (pe_ix ix_seq (pv 0) pe_int (fun _ _ => rfl)) pe_str (nomark _)) (pss_one (ps_ret (pe_lst (pa_cons (pe_lst (pa_cons (pe_lc (own := ([("_law_k", 4)] : List (Str × Nat))) (g := (gName 4)) (tt := tYes) (te := (tC (.int 0))) rfl nd (pi_range1 (by rfl) Z.range_ (pa_cons (pv 1) pa_nil)) (blkOk_by (by first | decide +kernel | rfl)) (fun _ _ _ _ _ => (pg_name (i := 4) nd rfl (by first | exact Or.inl rfl | exact Or.inr rfl))) (fun _ _ _ _ _ => pts_nil) (fun _ _ _ _ _ => pe_int)) pa_nil)) (pa_cons (pe_lst (pa_cons pe_bl pa_nil)) pa_nil))))) pss_nil)
      (pss_cons (ps_if (pt_cmpR (op_eqD hr.units) (pe_ix ix_seq (pv 0) pe_int (fun _ _ => rfl)) pe_str (nomark _)) (pss_cons (ps_setLc (i := 2) (own := ([("_law_k", 4)] : List (Str × Nat))) (g := (gName 4)) (tt := tYes) (te := (tC (.int 1))) rfl nd rfl rfl (sw_true rfl rfl rfl (by decide +kernel)) (pi_range1 (by rfl) Z.range_ (pa_cons (pv 1) pa_nil)) (blkOk_by (by first | decide +kernel | rfl)) (fun _ _ _ _ _ => (pg_name (i := 4) nd rfl (by first | exact Or.inl rfl | exact Or.inr rfl))) (fun _ _ _ _ _ => pts_nil) (fun _ _ _ _ _ => pe_int))
      (pss_one (ps_ret (pe_lst (pa_cons (pe_lst (pa_cons (pv 2) (pa_cons (pe_callTy call_list_of (by rfl) Z.list_ (by decide +kernel) (pa_cons (pv 2) pa_nil)) pa_nil))) (pa_cons (pe_lst (pa_cons pe_bl (pa_cons pe_bl pa_nil))) pa_nil)))))) pss_nil)
      (pss_cons (ps_setLc (i := 2) (own := ([("_law_k", 4)] : List (Str × Nat))) (g := (gName 4)) (tt := tYes) (te := (tC (.int 2))) rfl nd rfl rfl (sw_true rfl rfl rfl (by decide +kernel)) (pi_range1 (by rfl) Z.range_ (pa_cons (pv 1) pa_nil)) (blkOk_by (by first | decide +kernel | rfl)) (fun _ _ _ _ _ => (pg_name (i := 4) nd rfl (by first | exact Or.inl rfl | exact Or.inr rfl))) (fun _ _ _ _ _ => pts_nil) (fun _ _ _ _ _ => pe_int))
      (pss_cons (ps_if (pt_cmpR op_lt (pe_ix ix_seq (pv 0) pe_int (fun _ _ => rfl)) (pv 1) (nomark _)) (pss_one (ps_asg pe_int (pg_sub (pv 2) (pe_ix ix_seq (pv 0) pe_int (fun _ _ => rfl)) set_list))) pss_nil)
      (pss_cons (ps_setLc (i := 3) (own := ([("_law_k", 4)] : List (Str × Nat))) (g := (gName 4)) (tt := tYes) (te := (tC (.int 2))) rfl nd rfl rfl (sw_true rfl rfl rfl (by decide +kernel)) (pi_range1 (by rfl) Z.range_ (pa_cons (pv 1) pa_nil)) (blkOk_by (by first | decide +kernel | rfl)) (fun _ _ _ _ _ => (pg_name (i := 4) nd rfl (by first | exact Or.inl rfl | exact Or.inr rfl))) (fun _ _ _ _ _ => pts_nil) (fun _ _ _ _ _ => pe_int))
      (pss_one (ps_ret (pe_lst (pa_cons (pe_lst (pa_cons (pv 2) (pa_cons (pv 3) (pa_cons (pe_callTy call_list_of (by rfl) Z.list_ (by decide +kernel) (pa_cons (pv 3) pa_nil)) pa_nil)))) (pa_cons (pe_lst (pa_cons pe_bl (pa_cons pe_bl (pa_cons pe_bl pa_nil)))) pa_nil)))))))))),
    fun n0 => (ds_seq (ds_if (dt_test (de_op dr_eq (de_op dr_ix (de_var (i := 0)) (de_c (d := .int 0) (v := .int 0) (fun _ => rfl))) (de_c (d := .str "none") (v := .str "none") (fun _ => rfl)))) (ds_ret (de_lst (da_cons (de_lst (da_cons (de_comp (di_rg1 (da_cons (de_var (i := 1)) da_nil)) dg_name own_name mono_name dt_yes (de_c (d := .int 0) (v := .int 0) (fun _ => rfl))) da_nil)) (da_cons (de_lst (da_cons (de_c (d := .bl false) (v := .bl false) (fun _ => rfl)) da_nil)) da_nil)))) ds_next)
      (ds_seq (ds_if (dt_test (de_op dr_eq (de_op dr_ix (de_var (i := 0)) (de_c (d := .int 0) (v := .int 0) (fun _ => rfl))) (de_c (d := .str "empty") (v := .str "empty") (fun _ => rfl)))) (ds_seq (ds_set (i := 2) (de_compC (di_rg1 (da_cons (de_var (i := 1)) da_nil)) dg_name own_name mono_name dt_yes (de_c (d := .int 1) (v := .int 1) (fun _ => rfl))))
      (ds_ret (de_lst (da_cons (de_frzL (de_lst (da_cons (de_var (i := 2)) (da_cons (de_b drn_list (da_cons (de_var (i := 2)) da_nil)) da_nil)))) (da_cons (de_lst (da_cons (de_c (d := .bl true) (v := .bl true) (fun _ => rfl)) (da_cons (de_c (d := .bl false) (v := .bl false) (fun _ => rfl)) da_nil))) da_nil))))) ds_next)
      (ds_seq (ds_set (i := 2) (de_compC (di_rg1 (da_cons (de_var (i := 1)) da_nil)) dg_name own_name mono_name dt_yes (de_c (d := .int 2) (v := .int 2) (fun _ => rfl))))
      (ds_seq (ds_if (dt_test (de_op dr_lt (de_op dr_ix (de_var (i := 0)) (de_c (d := .int 1) (v := .int 1) (fun _ => rfl))) (de_var (i := 1)))) (ds_asg (de_c (d := .int 1) (v := .int 1) (fun _ => rfl)) (dg_sub (de_var (i := 2)) (de_op dr_ix (de_var (i := 0)) (de_c (d := .int 1) (v := .int 1) (fun _ => rfl))))) ds_next)
      (ds_seq (ds_set (i := 3) (de_comp (di_rg1 (da_cons (de_var (i := 1)) da_nil)) dg_name own_name mono_name dt_yes (de_c (d := .int 2) (v := .int 2) (fun _ => rfl))))
      (ds_ret (de_lst (da_cons (de_lst (da_cons (de_frz (de_var (i := 2))) (da_cons (de_var (i := 3)) (da_cons (de_b drn_list (da_cons (de_var (i := 3)) da_nil)) da_nil)))) (da_cons (de_lst (da_cons (de_c (d := .bl false) (v := .bl false) (fun _ => rfl)) (da_cons (de_c (d := .bl true) (v := .bl true) (fun _ => rfl)) (da_cons (de_c (d := .bl false) (v := .bl false) (fun _ => rfl)) da_nil)))) da_nil)))))))))⟩
abbrev s__law_reader : Stmt := topS 29
noncomputable def b__law_reader (n0 : Nat) : Sv :=
    (sSeq (sSet 2 (eLstC aNil))
    (sSeq (sFor (iAnyD (eVar 0)) (tName 3) (sSeq (sIf (eTest (eOp oEq (eOp oIx (eVar 3) (eC (.int 0))) (eC (.str "not")))) (sSet 4 (eLst (aCons (eOp oIx (eOp oIx (eVar 2) (eOp oIx (eVar 3) (eC (.int 1)))) (eC (.int 0))) (aCons (eComp (iAnyD (eOp oIx (eOp oIx (eVar 2) (eOp oIx (eVar 3) (eC (.int 1)))) (eC (.int 1)))) (tName 5) eYes (eNotV (eVar 5)) [5]) aNil)))) (sIf (eOr (eTest (eOp oEq (eOp oIx (eVar 3) (eC (.int 0))) (eC (.str "or")))) (eTest (eOp oEq (eOp oIx (eVar 3) (eC (.int 0))) (eC (.str "behind"))))) (sSet 4 (eCall m__law_joined (aCons (eOp oIx (eVar 3) (eC (.int 0))) (aCons (eOp oIx (eVar 2) (eOp oIx (eVar 3) (eC (.int 1)))) (aCons (eOp oIx (eVar 2) (eOp oIx (eVar 3) (eC (.int 2)))) (aCons (eVar 1) aNil)))))) (sSet 4 (eCall m__law_atom (aCons (eVar 3) (aCons (eVar 1) aNil))))))
    (sSeq (sIf (eTest (eOp oIsN (eVar 4) (eC .non))) (sRet (eC .non)) sNil)
    (sDrop (eMt (oAppend n0) (eVar 2) (aCons (eVar 4) aNil))))))
    (sRet (eOp oIx (eVar 2) (eUn oNeg (eC (.int 1)))))))
noncomputable def m__law_reader : Fd := runD 6 b__law_reader
theorem sc__law_reader : FnScope ["_law_lines_here", "_law_letters", "_law_found", "_law_line", "_law_made", "_law_one"] ["_law_lines_here", "_law_letters"] (defScope s__law_reader) := ⟨rfl, rfl, rfl, by decide +kernel, rfl, by decide +kernel, by decide +kernel⟩
theorem df__law_reader (Z : Zs mg) (T : DefAt K mg "_law_reader" s__law_reader ["_law_lines_here", "_law_letters"]) (D__law_joined : Df P w K mg base C 2 "_law_joined" 4 m__law_joined) (D__law_atom : Df P w K mg base C 1 "_law_atom" 2 m__law_atom) : Df P w K mg base C 3 "_law_reader" 2 m__law_reader := by
  obtain ⟨f__law_joined, fd__law_joined, ps__law_joined, F__law_joined, g__law_joined, k__law_joined, b__law_joined⟩ := D__law_joined.ex
  obtain ⟨f__law_atom, fd__law_atom, ps__law_atom, F__law_atom, g__law_atom, k__law_atom, b__law_atom⟩ := D__law_atom.ex
  refine df_of (N := ["_law_lines_here", "_law_letters", "_law_found", "_law_line", "_law_made", "_law_one"]) (ps := ["_law_lines_here", "_law_letters"]) (n := 2) (k := 2) (body := b__law_reader) T sc__law_reader rfl (by decide) fun X f A s H E outer cdv hX hr => ?_
  subst hX
  have nd := sc__law_reader.nd
  exact ⟨_, (pss_cons (ps_set (i := 2) nd rfl (Or.inl rfl) (pe_lst pa_nil))
      (pss_cons (ps_for PassesOwn.never rfl (pi_any (pv 0)) (pg_name (i := 3) nd rfl (by first | exact Or.inl rfl | exact Or.inr rfl)) (pss_cons (ps_if (pt_cmpR (op_eqD hr.units) (pe_ix ix_seq (pv 3) pe_int (fun _ _ => rfl)) pe_str (nomark _)) (pss_one (ps_set (i := 4) nd rfl (Or.inl rfl) (pe_lst (pa_cons (pe_ix ix_seq (pe_ix ix_seq (pv 2) (pe_ix ix_seq (pv 3) pe_int (fun _ _ => rfl)) (fun _ _ => rfl)) pe_int (fun _ _ => rfl)) (pa_cons (pe_lc (own := ([("_law_one", 5)] : List (Str × Nat))) (g := (gName 5)) (tt := tYes) (te := (tNotV (tVar 5))) rfl nd (pi_any (pe_ix ix_seq (pe_ix ix_seq (pv 2) (pe_ix ix_seq (pv 3) pe_int (fun _ _ => rfl)) (fun _ _ => rfl)) pe_int (fun _ _ => rfl))) (blkOk_by (by first | decide +kernel | rfl)) (fun _ _ _ _ _ => (pg_name (i := 5) nd rfl (by first | exact Or.inl rfl | exact Or.inr rfl))) (fun _ _ _ _ _ => pts_nil) (fun _ _ _ _ _ => (pe_not (pv 5)))) pa_nil))))) (pss_one (ps_if (PW.pt (pw_or (pt_cmpR (op_eqD hr.units) (pe_ix ix_seq (pv 3) pe_int (fun _ _ => rfl)) pe_str (nomark _)) (pw_or1 (pt_cmpR (op_eqD hr.units) (pe_ix ix_seq (pv 3) pe_int (fun _ _ => rfl)) pe_str (nomark _))))) (pss_one (ps_set (i := 4) nd rfl (Or.inl rfl) (pe_call F__law_joined (hr.mono (by decide)) (by rfl) g__law_joined k__law_joined b__law_joined .nil pass0 (pa_cons (pe_ix ix_seq (pv 3) pe_int (fun _ _ => rfl)) (pa_cons (pe_ix ix_seq (pv 2) (pe_ix ix_seq (pv 3) pe_int (fun _ _ => rfl)) (fun _ _ => rfl)) (pa_cons (pe_ix ix_seq (pv 2) (pe_ix ix_seq (pv 3) pe_int (fun _ _ => rfl)) (fun _ _ => rfl)) (pa_cons (pv 1) pa_nil))))))) (pss_one (ps_set (i := 4) nd rfl (Or.inl rfl) (pe_call F__law_atom (hr.mono (by decide)) (by rfl) g__law_atom k__law_atom b__law_atom .nil pass0 (pa_cons (pv 3) (pa_cons (pv 1) pa_nil))))))))
      (pss_cons (ps_if (pt_cmpR op_isN (pv 4) pe_non (nomark _)) (pss_one (ps_ret pe_non)) pss_nil)
      (pss_one (ps_expr (pe_bm PySem.F.plainAttrs_list PySem.F.slot_list_append PySem.F.type_list_append mt_append (pv 2) (pa_cons (pv 4) pa_nil)))))))
      (pss_one (ps_ret (pe_ix ix_seq (pv 2) (pe_un un_neg pe_int) (fun _ _ => rfl)))))),
    fun n0 => (ds_seq (ds_set (i := 2) (de_lstC da_nil))
      (ds_seq (ds_for (di_any (de_var (i := 0))) dg_name (ds_seq (ds_if (dt_test (de_op dr_eq (de_op dr_ix (de_var (i := 3)) (de_c (d := .int 0) (v := .int 0) (fun _ => rfl))) (de_c (d := .str "not") (v := .str "not") (fun _ => rfl)))) (ds_set (i := 4) (de_lst (da_cons (de_op dr_ix (de_op dr_ix (de_var (i := 2)) (de_op dr_ix (de_var (i := 3)) (de_c (d := .int 1) (v := .int 1) (fun _ => rfl)))) (de_c (d := .int 0) (v := .int 0) (fun _ => rfl))) (da_cons (de_comp (di_any (de_op dr_ix (de_op dr_ix (de_var (i := 2)) (de_op dr_ix (de_var (i := 3)) (de_c (d := .int 1) (v := .int 1) (fun _ => rfl)))) (de_c (d := .int 1) (v := .int 1) (fun _ => rfl)))) dg_name own_name mono_name dt_yes (de_notV (de_var (i := 5)))) da_nil)))) (ds_if (dt_or (dt_test (de_op dr_eq (de_op dr_ix (de_var (i := 3)) (de_c (d := .int 0) (v := .int 0) (fun _ => rfl))) (de_c (d := .str "or") (v := .str "or") (fun _ => rfl)))) (dt_test (de_op dr_eq (de_op dr_ix (de_var (i := 3)) (de_c (d := .int 0) (v := .int 0) (fun _ => rfl))) (de_c (d := .str "behind") (v := .str "behind") (fun _ => rfl))))) (ds_set (i := 4) (de_call (n := 4) (m := m__law_joined) (da_cons (de_op dr_ix (de_var (i := 3)) (de_c (d := .int 0) (v := .int 0) (fun _ => rfl))) (da_cons (de_op dr_ix (de_var (i := 2)) (de_op dr_ix (de_var (i := 3)) (de_c (d := .int 1) (v := .int 1) (fun _ => rfl)))) (da_cons (de_op dr_ix (de_var (i := 2)) (de_op dr_ix (de_var (i := 3)) (de_c (d := .int 2) (v := .int 2) (fun _ => rfl)))) (da_cons (de_var (i := 1)) da_nil)))) (argN_cons (argN_cons (argN_cons (argN_cons argN_nil)))))) (ds_set (i := 4) (de_call (n := 2) (m := m__law_atom) (da_cons (de_var (i := 3)) (da_cons (de_var (i := 1)) da_nil)) (argN_cons (argN_cons argN_nil))))))
      (ds_seq (ds_if (dt_test (de_op dr_isN (de_var (i := 4)) (de_c (d := .non) (v := .non) (fun _ => rfl)))) (ds_ret (de_c (d := .non) (v := .non) (fun _ => rfl))) ds_next)
      (ds_drop (de_mt dm_append (de_var (i := 2)) (da_cons (de_var (i := 4)) da_nil))))))
      (ds_ret (de_op dr_ix (de_var (i := 2)) (de_un dr_neg (de_c (d := .int 1) (v := .int 1) (fun _ => rfl)))))))⟩
abbrev s_line_is_valid : Stmt := topS 6
noncomputable def b_line_is_valid (n0 : Nat) : Sv :=
    (sSeq (sIf (eTest (eOp oIn (eVar 0) (eLst (aCons (eTup (aCons (eC (.str "none")) aNil)) (aCons (eTup (aCons (eC (.str "empty")) aNil)) aNil))))) (sRet (eC (.bl true))) sNil)
    (sSeq (sIf (eAnd (eTest (eOp oEq (eB oLen (aCons (eVar 0) aNil)) (eC (.int 2)))) (eTest (eOp oEq (eOp oIx (eVar 0) (eC (.int 0))) (eC (.str "letter"))))) (sRet (eChain oLe oLe (eC (.int 0)) (eOp oIx (eVar 0) (eC (.int 1))) (eC (.int 2)))) sNil)
    (sSeq (sIf (eAnd (eTest (eOp oEq (eB oLen (aCons (eVar 0) aNil)) (eC (.int 2)))) (eTest (eOp oEq (eOp oIx (eVar 0) (eC (.int 0))) (eC (.str "not"))))) (sRet (eChain oLe oLt (eC (.int 0)) (eOp oIx (eVar 0) (eC (.int 1))) (eVar 1))) sNil)
    (sSeq (sIf (eAnd (eTest (eOp oEq (eB oLen (aCons (eVar 0) aNil)) (eC (.int 3)))) (eTest (eOp oIn (eOp oIx (eVar 0) (eC (.int 0))) (eLst (aCons (eC (.str "or")) (aCons (eC (.str "behind")) aNil)))))) (sRet (eAndV (eChain oLe oLt (eC (.int 0)) (eOp oIx (eVar 0) (eC (.int 1))) (eVar 1)) (eChain oLe oLt (eC (.int 0)) (eOp oIx (eVar 0) (eC (.int 2))) (eVar 1)))) sNil)
    (sRet (eC (.bl false)))))))
noncomputable def m_line_is_valid : Fd := runD 2 b_line_is_valid
theorem sc_line_is_valid : FnScope ["line", "number"] ["line", "number"] (defScope s_line_is_valid) := ⟨rfl, rfl, rfl, by decide +kernel, rfl, by decide +kernel, by decide +kernel⟩
theorem df_line_is_valid (Z : Zs mg) (T : DefAt K mg "line_is_valid" s_line_is_valid ["line", "number"]) : Df P w K mg base C 1 "line_is_valid" 2 m_line_is_valid := by
  refine df_of (N := ["line", "number"]) (ps := ["line", "number"]) (n := 2) (k := 0) (body := b_line_is_valid) T sc_line_is_valid rfl (by decide) fun X f A s H E outer cdv hX hr => ?_
  subst hX
  have nd := sc_line_is_valid.nd
  exact ⟨_, (pss_cons (ps_if (pt_cmpR (op_inA (hu65 hr)) (pv 0) (pe_lst (pa_cons (pe_tup (pa_cons pe_str pa_nil)) (pa_cons (pe_tup (pa_cons pe_str pa_nil)) pa_nil))) (by rfl)) (pss_one (ps_ret pe_bl)) pss_nil)
      (pss_cons (ps_if (PW.pt (pw_and (pt_cmpR (op_eqD hr.units) (pe_callB call_lenA (by rfl) Z.len_ (by decide +kernel) (pa_cons (pv 0) pa_nil)) pe_int (nomark _)) (pw_and1 (pt_cmpR (op_eqD hr.units) (pe_ix ix_seq (pv 0) pe_int (fun _ _ => rfl)) pe_str (nomark _))))) (pss_one (ps_ret (pe_chain op_le op_le pe_int (pe_ix ix_seq (pv 0) pe_int (fun _ _ => rfl)) pe_int))) pss_nil)
      (pss_cons (ps_if (PW.pt (pw_and (pt_cmpR (op_eqD hr.units) (pe_callB call_lenA (by rfl) Z.len_ (by decide +kernel) (pa_cons (pv 0) pa_nil)) pe_int (nomark _)) (pw_and1 (pt_cmpR (op_eqD hr.units) (pe_ix ix_seq (pv 0) pe_int (fun _ _ => rfl)) pe_str (nomark _))))) (pss_one (ps_ret (pe_chain op_le op_lt pe_int (pe_ix ix_seq (pv 0) pe_int (fun _ _ => rfl)) (pv 1)))) pss_nil)
      (pss_cons (ps_if (PW.pt (pw_and (pt_cmpR (op_eqD hr.units) (pe_callB call_lenA (by rfl) Z.len_ (by decide +kernel) (pa_cons (pv 0) pa_nil)) pe_int (nomark _)) (pw_and1 (pt_cmpR (op_inA (hu65 hr)) (pe_ix ix_seq (pv 0) pe_int (fun _ _ => rfl)) (pe_lst (pa_cons pe_str (pa_cons pe_str pa_nil))) (by rfl))))) (pss_one (ps_ret (pe_and (pe_chain op_le op_lt pe_int (pe_ix ix_seq (pv 0) pe_int (fun _ _ => rfl)) (pv 1)) (pe_one (pe_chain op_le op_lt pe_int (pe_ix ix_seq (pv 0) pe_int (fun _ _ => rfl)) (pv 1)))))) pss_nil)
      (pss_one (ps_ret pe_bl)))))),
    fun n0 => (ds_seq (ds_if (dt_test (de_op dr_in (de_var (i := 0)) (de_lst (da_cons (de_tup (da_cons (de_c (d := .str "none") (v := .str "none") (fun _ => rfl)) da_nil)) (da_cons (de_tup (da_cons (de_c (d := .str "empty") (v := .str "empty") (fun _ => rfl)) da_nil)) da_nil))))) (ds_ret (de_c (d := .bl true) (v := .bl true) (fun _ => rfl))) ds_next)
      (ds_seq (ds_if (dt_and (dt_test (de_op dr_eq (de_b drn_len (da_cons (de_var (i := 0)) da_nil)) (de_c (d := .int 2) (v := .int 2) (fun _ => rfl)))) (dt_test (de_op dr_eq (de_op dr_ix (de_var (i := 0)) (de_c (d := .int 0) (v := .int 0) (fun _ => rfl))) (de_c (d := .str "letter") (v := .str "letter") (fun _ => rfl))))) (ds_ret (de_chain dr_le dr_le (de_c (d := .int 0) (v := .int 0) (fun _ => rfl)) (de_op dr_ix (de_var (i := 0)) (de_c (d := .int 1) (v := .int 1) (fun _ => rfl))) (de_c (d := .int 2) (v := .int 2) (fun _ => rfl)))) ds_next)
      (ds_seq (ds_if (dt_and (dt_test (de_op dr_eq (de_b drn_len (da_cons (de_var (i := 0)) da_nil)) (de_c (d := .int 2) (v := .int 2) (fun _ => rfl)))) (dt_test (de_op dr_eq (de_op dr_ix (de_var (i := 0)) (de_c (d := .int 0) (v := .int 0) (fun _ => rfl))) (de_c (d := .str "not") (v := .str "not") (fun _ => rfl))))) (ds_ret (de_chain dr_le dr_lt (de_c (d := .int 0) (v := .int 0) (fun _ => rfl)) (de_op dr_ix (de_var (i := 0)) (de_c (d := .int 1) (v := .int 1) (fun _ => rfl))) (de_var (i := 1)))) ds_next)
      (ds_seq (ds_if (dt_and (dt_test (de_op dr_eq (de_b drn_len (da_cons (de_var (i := 0)) da_nil)) (de_c (d := .int 3) (v := .int 3) (fun _ => rfl)))) (dt_test (de_op dr_in (de_op dr_ix (de_var (i := 0)) (de_c (d := .int 0) (v := .int 0) (fun _ => rfl))) (de_lst (da_cons (de_c (d := .str "or") (v := .str "or") (fun _ => rfl)) (da_cons (de_c (d := .str "behind") (v := .str "behind") (fun _ => rfl)) da_nil)))))) (ds_ret (de_andV (de_chain dr_le dr_lt (de_c (d := .int 0) (v := .int 0) (fun _ => rfl)) (de_op dr_ix (de_var (i := 0)) (de_c (d := .int 1) (v := .int 1) (fun _ => rfl))) (de_var (i := 1))) (de_chain dr_le dr_lt (de_c (d := .int 0) (v := .int 0) (fun _ => rfl)) (de_op dr_ix (de_var (i := 0)) (de_c (d := .int 2) (v := .int 2) (fun _ => rfl))) (de_var (i := 1))))) ds_next)
      (ds_ret (de_c (d := .bl false) (v := .bl false) (fun _ => rfl)))))))⟩
abbrev s_filter_fault : Stmt := topS 7
noncomputable def b_filter_fault (n0 : Nat) : Sv :=
    (sSeq (sIf (eNot (eTru (eVar 0))) (sRet (eC (.int 0))) sNil)
    (sSeq (sFor (iEnD (aCons (eVar 0) aNil)) (tTupT 2 (tConss (tName 1) (tConss (tName 2) tNils))) (sIf (eOr (eTest (eOp oEq (eVar 1) (eC (.int 300)))) (eNot (eTest (eCall m_line_is_valid (aCons (eVar 2) (aCons (eVar 1) aNil)))))) (sRet (eVar 1)) sNil))
    (sRet (eC .non))))
noncomputable def m_filter_fault : Fd := runD 3 b_filter_fault
theorem sc_filter_fault : FnScope ["lines", "number", "line"] ["lines"] (defScope s_filter_fault) := ⟨rfl, rfl, rfl, by decide +kernel, rfl, by decide +kernel, by decide +kernel⟩
theorem df_filter_fault (Z : Zs mg) (T : DefAt K mg "filter_fault" s_filter_fault ["lines"]) (D_line_is_valid : Df P w K mg base C 1 "line_is_valid" 2 m_line_is_valid) : Df P w K mg base C 2 "filter_fault" 1 m_filter_fault := by
  obtain ⟨f_line_is_valid, fd_line_is_valid, ps_line_is_valid, F_line_is_valid, g_line_is_valid, k_line_is_valid, b_line_is_valid⟩ := D_line_is_valid.ex
  refine df_of (N := ["lines", "number", "line"]) (ps := ["lines"]) (n := 1) (k := 1) (body := b_filter_fault) T sc_filter_fault rfl (by decide) fun X f A s H E outer cdv hX hr => ?_
  subst hX
  have nd := sc_filter_fault.nd
  exact ⟨_, (pss_cons (ps_if (pt_not (pt_truth (pv 0) (by intro _; rfl))) (pss_one (ps_ret pe_int)) pss_nil)
      (pss_cons (ps_for PassesOwn.never rfl (pi_enA (by rfl) Z.enumerate_ (pa_cons (pv 0) pa_nil)) (pg_tup rfl (pgs_cons (pg_name (i := 1) nd rfl (by first | exact Or.inl rfl | exact Or.inr rfl)) (pgs_cons (pg_name (i := 2) nd rfl (by first | exact Or.inl rfl | exact Or.inr rfl)) pgs_nil))) (pss_one (ps_if (PW.pt (pw_or (pt_cmpR (op_eqD hr.units) (pv 1) (pe_gD (v := .int 300) (by rfl) Z.y_MOST_LINES) (nomark _)) (pw_or1 (pt_not (pt_val (pe_call F_line_is_valid (hr.mono (by decide)) (by rfl) g_line_is_valid k_line_is_valid b_line_is_valid .nil pass0 (pa_cons (pv 2) (pa_cons (pv 1) pa_nil)))))))) (pss_one (ps_ret (pv 1))) pss_nil)))
      (pss_one (ps_ret pe_non)))),
    fun n0 => (ds_seq (ds_if (dt_not (dt_tru (de_var (i := 0)))) (ds_ret (de_c (d := .int 0) (v := .int 0) (fun _ => rfl))) ds_next)
      (ds_seq (ds_for (di_enA (da_cons (de_var (i := 0)) da_nil)) (dg_tup (n := 2) (dgs_cons dg_name (dgs_cons dg_name dgs_nil))) (ds_if (dt_or (dt_test (de_op dr_eq (de_var (i := 1)) (de_c (d := .int 300) (v := .int 300) (fun _ => rfl)))) (dt_not (dt_val (de_call (n := 2) (m := m_line_is_valid) (da_cons (de_var (i := 2)) (da_cons (de_var (i := 1)) da_nil)) (argN_cons (argN_cons argN_nil)))))) (ds_ret (de_var (i := 1))) ds_next))
      (ds_ret (de_c (d := .non) (v := .non) (fun _ => rfl)))))⟩
abbrev s_check_filter : Stmt := topS 8
noncomputable def b_check_filter (n0 : Nat) : Sv :=
    (sSeq (sSet 1 (eCall m_filter_fault (aCons (eVar 0) aNil)))
    (sIf (eTest (eOp oNotN (eVar 1) (eC .non))) sNever sNil))
noncomputable def m_check_filter : Fd := runD 2 b_check_filter
theorem sc_check_filter : FnScope ["lines", "fault"] ["lines"] (defScope s_check_filter) := ⟨rfl, rfl, rfl, by decide +kernel, rfl, by decide +kernel, by decide +kernel⟩
theorem df_check_filter (Z : Zs mg) (T : DefAt K mg "check_filter" s_check_filter ["lines"]) (D_filter_fault : Df P w K mg base C 2 "filter_fault" 1 m_filter_fault) : Df P w K mg base C 3 "check_filter" 1 m_check_filter := by
  obtain ⟨f_filter_fault, fd_filter_fault, ps_filter_fault, F_filter_fault, g_filter_fault, k_filter_fault, b_filter_fault⟩ := D_filter_fault.ex
  refine df_of (N := ["lines", "fault"]) (ps := ["lines"]) (n := 1) (k := 2) (body := b_check_filter) T sc_check_filter rfl (by decide) fun X f A s H E outer cdv hX hr => ?_
  subst hX
  have nd := sc_check_filter.nd
  exact ⟨_, (pss_cons (ps_set (i := 1) nd rfl (Or.inl rfl) (pe_call F_filter_fault (hr.mono (by decide)) (by rfl) g_filter_fault k_filter_fault b_filter_fault .nil pass0 (pa_cons (pv 0) pa_nil)))
      (pss_one (ps_if (pt_cmpR op_notN (pv 1) pe_non (nomark _)) (pss_one ps_never) pss_nil))),
    fun n0 => (ds_seq (ds_set (i := 1) (de_call (n := 1) (m := m_filter_fault) (da_cons (de_var (i := 0)) da_nil) (argN_cons argN_nil)))
      (ds_if (dt_test (de_op dr_notN (de_var (i := 1)) (de_c (d := .non) (v := .non) (fun _ => rfl)))) ds_never ds_next))⟩
abbrev s_step_or : Stmt := topS 12
noncomputable def b_step_or (n0 : Nat) : Sv :=
    (sRet (eTup (aCons (eOp oIx (eOp oIx (eOp oIx (eVar 0) (eC (.int 0))) (eOp oIx (eVar 2) (eC (.int 0)))) (eVar 3)) (aCons (eOp oIx (eOp oIx (eOp oIx (eVar 1) (eC (.int 0))) (eOp oIx (eVar 2) (eC (.int 1)))) (eVar 3)) aNil))))
noncomputable def m_step_or : Fd := runD 4 b_step_or
theorem sc_step_or : FnScope ["one", "two", "pair", "letter"] ["one", "two", "pair", "letter"] (defScope s_step_or) := ⟨rfl, rfl, rfl, by decide +kernel, rfl, by decide +kernel, by decide +kernel⟩
theorem df_step_or (Z : Zs mg) (T : DefAt K mg "step_or" s_step_or ["one", "two", "pair", "letter"]) : Df P w K mg base C 1 "step_or" 4 m_step_or := by
  refine df_of (N := ["one", "two", "pair", "letter"]) (ps := ["one", "two", "pair", "letter"]) (n := 4) (k := 0) (body := b_step_or) T sc_step_or rfl (by decide) fun X f A s H E outer cdv hX hr => ?_
  subst hX
  have nd := sc_step_or.nd
  exact ⟨_, (pss_one (ps_ret (pe_tup (pa_cons (pe_ix ix_seq (pe_ix ix_seq (pe_ix ix_seq (pv 0) pe_int (fun _ _ => rfl)) (pe_ix ix_seq (pv 2) pe_int (fun _ _ => rfl)) (fun _ _ => rfl)) (pv 3) (fun _ _ => rfl)) (pa_cons (pe_ix ix_seq (pe_ix ix_seq (pe_ix ix_seq (pv 1) pe_int (fun _ _ => rfl)) (pe_ix ix_seq (pv 2) pe_int (fun _ _ => rfl)) (fun _ _ => rfl)) (pv 3) (fun _ _ => rfl)) pa_nil))))),
    fun n0 => (ds_ret (de_tup (da_cons (de_op dr_ix (de_op dr_ix (de_op dr_ix (de_var (i := 0)) (de_c (d := .int 0) (v := .int 0) (fun _ => rfl))) (de_op dr_ix (de_var (i := 2)) (de_c (d := .int 0) (v := .int 0) (fun _ => rfl)))) (de_var (i := 3))) (da_cons (de_op dr_ix (de_op dr_ix (de_op dr_ix (de_var (i := 1)) (de_c (d := .int 0) (v := .int 0) (fun _ => rfl))) (de_op dr_ix (de_var (i := 2)) (de_c (d := .int 1) (v := .int 1) (fun _ => rfl)))) (de_var (i := 3))) da_nil))))⟩
abbrev s_step_behind : Stmt := topS 13
noncomputable def b_step_behind (n0 : Nat) : Sv :=
    (sSeq (sSet 4 (eOp oIx (eOp oIx (eOp oIx (eVar 0) (eC (.int 0))) (eOp oIx (eVar 2) (eC (.int 0)))) (eVar 3)))
    (sSeq (sSet 5 (eSetC (iAnyD (eOp oIx (eVar 2) (eC (.int 1)))) (tName 6) eYes (body1 (eOp oIx (eOp oIx (eOp oIx (eVar 1) (eC (.int 0))) (eVar 6)) (eVar 3))) [6]))
    (sSeq (sIf (eTru (eOp oIx (eOp oIx (eVar 0) (eC (.int 1))) (eVar 4))) (sDrop (eSAdd (eVar 5) (aCons (eC (.int 0)) aNil))) sNil)
    (sRet (eTup (aCons (eVar 4) (aCons (eB oTuple (aCons (eSrtV (eVar 5)) aNil)) aNil)))))))
noncomputable def m_step_behind : Fd := runD 7 b_step_behind
theorem sc_step_behind : FnScope ["one", "two", "pair", "letter", "state", "states", "k"] ["one", "two", "pair", "letter"] (defScope s_step_behind) := ⟨rfl, rfl, rfl, by decide +kernel, rfl, by decide +kernel, by decide +kernel⟩
theorem df_step_behind (Z : Zs mg) (T : DefAt K mg "step_behind" s_step_behind ["one", "two", "pair", "letter"]) (hW : C.wld = w) : Df P w K mg base C 1 "step_behind" 4 m_step_behind := by
  refine df_of (N := ["one", "two", "pair", "letter", "state", "states", "k"]) (ps := ["one", "two", "pair", "letter"]) (n := 4) (k := 0) (body := b_step_behind) T sc_step_behind rfl (by decide) fun X f A s H E outer cdv hX hr => ?_
  subst hX
  have nd := sc_step_behind.nd
  exact ⟨_, (pss_cons (ps_set (i := 4) nd rfl (Or.inl rfl) (pe_ix ix_seq (pe_ix ix_seq (pe_ix ix_seq (pv 0) pe_int (fun _ _ => rfl)) (pe_ix ix_seq (pv 2) pe_int (fun _ _ => rfl)) (fun _ _ => rfl)) (pv 3) (fun _ _ => rfl)))
      (pss_cons (ps_setSc (i := 5) (own := ([("k", 6)] : List (Str × Nat))) (g := (gName 6)) (tt := tYes) (te := (tOp (rIx K) (tOp (rIx K) (tOp (rIx K) (tVar 1) (tC (.int 0))) (tVar 6)) (tVar 3))) rfl nd rfl rfl (sw_trueS rfl rfl rfl (by decide +kernel)) (pi_any (pe_ix ix_seq (pv 2) pe_int (fun _ _ => rfl))) (blkOk_by (by first | decide +kernel | rfl)) (fun _ _ _ _ _ => (pg_name (i := 6) nd rfl (by first | exact Or.inl rfl | exact Or.inr rfl))) (fun _ _ _ _ _ => pts_nil) (fun _ _ _ _ _ => (pe_ix ix_seq (pe_ix ix_seq (pe_ix ix_seq (pv 1) pe_int (fun _ _ => rfl)) (pv 6) (fun _ _ => rfl)) (pv 3) (fun _ _ => rfl))))
      (pss_cons (ps_if (pt_truth (pe_ix ix_seq (pe_ix ix_seq (pv 0) pe_int (fun _ _ => rfl)) (pv 4) (fun _ _ => rfl)) (by intro _; rfl)) (pss_one (ps_expr (pe_sadd (pv 5) (pa_cons pe_int pa_nil)))) pss_nil)
      (pss_one (ps_ret (pe_tup (pa_cons (pv 4) (pa_cons (pe_callTy call_tuple_of (by rfl) Z.tuple_ (by decide +kernel) (pa_cons (pe_callB (cr_sortedSetB rfl) (by rfl) Z.sorted_ (by decide +kernel) (pa_cons (pv 5) pa_nil)) pa_nil)) pa_nil)))))))),
    fun n0 => (ds_seq (ds_set (i := 4) (de_op dr_ix (de_op dr_ix (de_op dr_ix (de_var (i := 0)) (de_c (d := .int 0) (v := .int 0) (fun _ => rfl))) (de_op dr_ix (de_var (i := 2)) (de_c (d := .int 0) (v := .int 0) (fun _ => rfl)))) (de_var (i := 3))))
      (ds_seq (ds_set (i := 5) (de_setC hW (di_any (de_op dr_ix (de_var (i := 2)) (de_c (d := .int 1) (v := .int 1) (fun _ => rfl)))) dg_name own_name mono_name dt_yes (dact_S (de_op dr_ix (de_op dr_ix (de_op dr_ix (de_var (i := 1)) (de_c (d := .int 0) (v := .int 0) (fun _ => rfl))) (de_var (i := 6))) (de_var (i := 3))))))
      (ds_seq (ds_if (dt_tru (de_op dr_ix (de_op dr_ix (de_var (i := 0)) (de_c (d := .int 1) (v := .int 1) (fun _ => rfl))) (de_var (i := 4)))) (ds_drop (de_sadd hW (de_var (i := 5)) (da_cons (de_c (d := .int 0) (v := .int 0) (fun _ => rfl)) da_nil))) ds_next)
      (ds_ret (de_tup (da_cons (de_var (i := 4)) (da_cons (de_b drn_tuple (da_cons (de_srtV hW (de_var (i := 5))) da_nil)) da_nil)))))))⟩
abbrev s_joined : Stmt := topS 14
noncomputable def b_joined (n0 : Nat) : Sv :=
    (sSeq (sIf (eTest (eOp oEq (eVar 0) (eC (.str "or")))) (sSet 5 (eLstC (aCons (eTup (aCons (eC (.int 0)) (aCons (eC (.int 0)) aNil))) aNil))) (sSet 5 (eLstC (aCons (eTup (aCons (eC (.int 0)) (aCons (eIf (eTru (eOp oIx (eOp oIx (eVar 1) (eC (.int 1))) (eC (.int 0)))) (eTup (aCons (eC (.int 0)) aNil)) (eTup aNil)) aNil))) aNil))))
    (sSeq (sSet 4 (eLstC aNil))
    (sSeq (loopW (eTest (eOp oLt (eB oLen (aCons (eVar 4) aNil)) (eB oLen (aCons (eVar 5) aNil)))) (sSeq (sSet 6 (eOp oIx (eVar 5) (eB oLen (aCons (eVar 4) aNil))))
    (sSeq (sSet 7 (eLstC aNil))
    (sSeq (sFor (iRg1 (aCons (eVar 3) aNil)) (tName 8) (sSeq (sSet 9 (eIf (eTest (eOp oEq (eVar 0) (eC (.str "or")))) (eCall m_step_or (aCons (eVar 1) (aCons (eVar 2) (aCons (eVar 6) (aCons (eVar 8) aNil))))) (eCall m_step_behind (aCons (eVar 1) (aCons (eVar 2) (aCons (eVar 6) (aCons (eVar 8) aNil)))))))
    (sSeq (sIf (eTest (eOp oNotIn (eVar 9) (eVar 5))) (sDrop (eMt (oAppend n0) (eVar 5) (aCons (eVar 9) aNil))) sNil)
    (sDrop (eMt (oAppend n0) (eVar 7) (aCons (eIdx (eVar 5) (aCons (eVar 9) aNil)) aNil))))))
    (sSeq (sDrop (eMt (oAppend n0) (eVar 4) (aCons (eFrz (eVar 7)) aNil)))
    (sIf (eTest (eOp oGt (eB oLen (aCons (eVar 5) aNil)) (eC (.int 100)))) (sRaise "TooManyStates") sNil))))) fuel)
    (sSeq (sIf (eTest (eOp oEq (eVar 0) (eC (.str "or")))) (sRet (eTup (aCons (eFrz (eVar 4)) (aCons (eComp (iAnyD (eVar 5)) (tTupT 2 (tConss (tName 12) (tConss (tName 13) tNils))) eYes (eOrV (eOp oIx (eOp oIx (eVar 1) (eC (.int 1))) (eVar 12)) (eOp oIx (eOp oIx (eVar 2) (eC (.int 1))) (eVar 13))) [12, 13]) aNil)))) sNil)
    (sRet (eTup (aCons (eFrz (eVar 4)) (aCons (eComp (iAnyD (eVar 5)) (tTupT 2 (tConss (tName 10) (tConss (tName 11) tNils))) eYes (eGen (iAnyD (eVar 11)) (tName 14) eYes (bY true (eOp oIx (eOp oIx (eVar 2) (eC (.int 1))) (eVar 14))) [14] true) [10, 11]) aNil))))))))
noncomputable def m_joined : Fd := runD 15 b_joined
theorem sc_joined : FnScope ["kind", "one", "two", "letters", "rows", "pairs", "pair", "row", "letter", "new", "_", "states", "a", "b", "k"] ["kind", "one", "two", "letters"] (defScope s_joined) := ⟨rfl, rfl, rfl, by decide +kernel, rfl, by decide +kernel, by decide +kernel⟩
theorem df_joined {a_TooManyStates : Addr} {cT PT : Addr} (Z : Zs mg) (T : DefAtC K mg "joined" s_joined ["kind", "one", "two", "letters"] cT) (TB : GxR.TabB base mg cT PT) (hP : C.tabs PT) (Q : Es P w K mg base C a_TooManyStates) (D_step_or : Df P w K mg base C 1 "step_or" 4 m_step_or) (D_step_behind : Df P w K mg base C 1 "step_behind" 4 m_step_behind) : DfX P w K mg base C 2 "joined" 4 m_joined := by
  obtain ⟨f_step_or, fd_step_or, ps_step_or, F_step_or, g_step_or, k_step_or, b_step_or⟩ := D_step_or.ex
  obtain ⟨f_step_behind, fd_step_behind, ps_step_behind, F_step_behind, g_step_behind, k_step_behind, b_step_behind⟩ := D_step_behind.ex
  refine df_ofCX (N := ["kind", "one", "two", "letters", "rows", "pairs", "pair", "row", "letter", "new", "_", "states", "a", "b", "k"]) (ps := ["kind", "one", "two", "letters"]) (n := 4) (k := 1) (body := b_joined) T sc_joined rfl (by decide) fun X f A s H E outer cdv hX hr tk po => ?_
  subst hX
  have nd := sc_joined.nd
  exact ⟨_, (pss_cons (ps_if (pt_cmpR (op_eqD hr.units) (pv 0) pe_str (nomark _)) (pss_one (ps_set (i := 5) nd rfl (Or.inl rfl) (pe_lst (pa_cons (pe_tup (pa_cons pe_int (pa_cons pe_int pa_nil))) pa_nil)))) (pss_one (ps_set (i := 5) nd rfl (Or.inl rfl) (pe_lst (pa_cons (pe_tup (pa_cons pe_int (pa_cons (pe_ifExp (pt_truth (pe_ix ix_seq (pe_ix ix_seq (pv 1) pe_int (fun _ _ => rfl)) pe_int (fun _ _ => rfl)) (by intro _; rfl)) (pe_tup (pa_cons pe_int pa_nil)) (pe_tup pa_nil)) pa_nil))) pa_nil)))))
      (pss_cons (ps_set (i := 4) nd rfl (Or.inl rfl) (pe_lst pa_nil))
      (pss_cons (ps_while po (pt_cmpR op_lt (pe_callB call_lenA (by rfl) Z.len_ (by decide +kernel) (pa_cons (pv 4) pa_nil)) (pe_callB call_lenA (by rfl) Z.len_ (by decide +kernel) (pa_cons (pv 5) pa_nil)) (nomark _)) (pss_cons (ps_set (i := 6) nd rfl (Or.inl rfl) (pe_ix ix_seq (pv 5) (pe_callB call_lenA (by rfl) Z.len_ (by decide +kernel) (pa_cons (pv 4) pa_nil)) (fun _ _ => rfl)))
      (pss_cons (ps_set (i := 7) nd rfl (Or.inl rfl) (pe_lst pa_nil))
      (pss_cons (ps_for po rfl (pi_range1 (by rfl) Z.range_ (pa_cons (pv 3) pa_nil)) (pg_name (i := 8) nd rfl (by first | exact Or.inl rfl | exact Or.inr rfl)) (pss_cons (ps_set (i := 9) nd rfl (Or.inl rfl) (pe_ifExp (pt_cmpR (op_eqD hr.units) (pv 0) pe_str (nomark _)) (pe_call F_step_or (hr.mono (by decide)) (by rfl) g_step_or k_step_or b_step_or .nil pass0 (pa_cons (pv 1) (pa_cons (pv 2) (pa_cons (pv 6) (pa_cons (pv 8) pa_nil))))) (pe_call F_step_behind (hr.mono (by decide)) (by rfl) g_step_behind k_step_behind b_step_behind .nil pass0 (pa_cons (pv 1) (pa_cons (pv 2) (pa_cons (pv 6) (pa_cons (pv 8) pa_nil)))))))
      (pss_cons (ps_if (pt_cmpR (op_notInA (hu65 hr)) (pv 9) (pv 5) (by rfl)) (pss_one (ps_expr (pe_bm PySem.F.plainAttrs_list PySem.F.slot_list_append PySem.F.type_list_append mt_append (pv 5) (pa_cons (pv 9) pa_nil)))) pss_nil)
      (pss_one (ps_expr (pe_bm PySem.F.plainAttrs_list PySem.F.slot_list_append PySem.F.type_list_append mt_append (pv 7) (pa_cons (pe_bm PySem.F.plainAttrs_list PySem.F.slot_list_index PySem.F.type_list_index (mt_indexD (hu65 hr)) (pv 5) (pa_cons (pv 9) pa_nil)) pa_nil)))))))
      (pss_cons (ps_expr (pe_bm PySem.F.plainAttrs_list PySem.F.slot_list_append PySem.F.type_list_append mt_append (pv 4) (pa_cons (pv 7) pa_nil)))
      (pss_one (ps_if (pt_cmpR op_gt (pe_callB call_lenA (by rfl) Z.len_ (by decide +kernel) (pa_cons (pv 5) pa_nil)) (pe_gD (v := .int 100) (by rfl) Z.y_MOST_STATES) (nomark _)) (pss_one (ps_raiseT rfl tk Q.t_TooManyStates (by rfl))) pss_nil)))))))
      (pss_cons (ps_if (pt_cmpR (op_eqD hr.units) (pv 0) pe_str (nomark _)) (pss_one (ps_ret (pe_tup (pa_cons (pv 4) (pa_cons (pe_lc (own := ([("a", 12), ("b", 13)] : List (Str × Nat))) (g := (gTup K 2 (gCons (gName 12) (gCons (gName 13) gNil)))) (tt := tYes) (te := (tOrV (tOp (rIx K) (tOp (rIx K) (tVar 1) (tC (.int 1))) (tVar 12)) (tOp (rIx K) (tOp (rIx K) (tVar 2) (tC (.int 1))) (tVar 13)))) rfl nd (pi_any (pv 5)) (blkOk_by (by first | decide +kernel | rfl)) (fun _ _ _ _ _ => (pg_tup rfl (pgs_cons (pg_name (i := 12) nd rfl (by first | exact Or.inl rfl | exact Or.inr rfl)) (pgs_cons (pg_name (i := 13) nd rfl (by first | exact Or.inl rfl | exact Or.inr rfl)) pgs_nil)))) (fun _ _ _ _ _ => pts_nil) (fun _ _ _ _ _ => (pe_or (pe_ix ix_seq (pe_ix ix_seq (pv 1) pe_int (fun _ _ => rfl)) (pv 12) (fun _ _ => rfl)) (pe_one (pe_ix ix_seq (pe_ix ix_seq (pv 2) pe_int (fun _ _ => rfl)) (pv 13) (fun _ _ => rfl)))))) pa_nil))))) pss_nil)
      (pss_one (ps_ret (pe_tup (pa_cons (pv 4) (pa_cons (pe_lc (own := ([("_", 10), ("states", 11)] : List (Str × Nat))) (g := (gTup K 2 (gCons (gName 10) (gCons (gName 11) gNil)))) (tt := tYes) (te := (tGen PT (iAny K (tVar 11)) (gName 14) tYes (fun F => (gYield (tOp (rIx K) (tOp (rIx K) (tVar 2) (tC (.int 1))) (tVar 14)) (ylB true F))) true [14])) rfl nd (pi_any (pv 5)) (blkOk_by (by first | decide +kernel | rfl)) (fun _ _ _ _ _ => (pg_tup rfl (pgs_cons (pg_name (i := 10) nd rfl (by first | exact Or.inl rfl | exact Or.inr rfl)) (pgs_cons (pg_name (i := 11) nd rfl (by first | exact Or.inl rfl | exact Or.inr rfl)) pgs_nil)))) (fun _ _ _ _ _ => pts_nil) (fun _ _ _ _ _ => (pe_anyG (k := 0) (own := ([("k", 14)] : List (Str × Nat))) (g := (gName 14)) (tt := tYes) (by rfl) Z.any_ (fun _ _ => gt1 ..) (hr.mono (by decide)) rfl nd TB rfl rfl (by rfl) (pi_any (pv 11)) (blkOk_by (by first | decide +kernel | rfl)) (fun _ _ _ _ _ _ hr => (pg_name (i := 14) nd rfl (by first | exact Or.inl rfl | exact Or.inr rfl))) (fun _ _ _ _ _ _ hr => pts_nil) (ga_1 rfl (fun _ _ _ _ _ _ hr => (pe_ix ix_seq (pe_ix ix_seq (pv 2) pe_int (fun _ _ => rfl)) (pv 14) (fun _ _ => rfl)))) (fun _ => rfl)))) pa_nil))))))))),
    fun n0 => (ds_seq (ds_if (dt_test (de_op dr_eq (de_var (i := 0)) (de_c (d := .str "or") (v := .str "or") (fun _ => rfl)))) (ds_set (i := 5) (de_lstC (da_cons (de_tup (da_cons (de_c (d := .int 0) (v := .int 0) (fun _ => rfl)) (da_cons (de_c (d := .int 0) (v := .int 0) (fun _ => rfl)) da_nil))) da_nil))) (ds_set (i := 5) (de_lstC (da_cons (de_tup (da_cons (de_c (d := .int 0) (v := .int 0) (fun _ => rfl)) (da_cons (de_if (dt_tru (de_op dr_ix (de_op dr_ix (de_var (i := 1)) (de_c (d := .int 1) (v := .int 1) (fun _ => rfl))) (de_c (d := .int 0) (v := .int 0) (fun _ => rfl)))) (de_tup (da_cons (de_c (d := .int 0) (v := .int 0) (fun _ => rfl)) da_nil)) (de_tup da_nil)) da_nil))) da_nil))))
      (ds_seq (ds_set (i := 4) (de_lstC da_nil))
      (ds_seq (ds_while fuel (dt_test (de_op dr_lt (de_b drn_len (da_cons (de_var (i := 4)) da_nil)) (de_b drn_len (da_cons (de_var (i := 5)) da_nil)))) (ds_seq (ds_set (i := 6) (de_op dr_ix (de_var (i := 5)) (de_b drn_len (da_cons (de_var (i := 4)) da_nil))))
      (ds_seq (ds_set (i := 7) (de_lstC da_nil))
      (ds_seq (ds_for (di_rg1 (da_cons (de_var (i := 3)) da_nil)) dg_name (ds_seq (ds_set (i := 9) (de_if (dt_test (de_op dr_eq (de_var (i := 0)) (de_c (d := .str "or") (v := .str "or") (fun _ => rfl)))) (de_call (n := 4) (m := m_step_or) (da_cons (de_var (i := 1)) (da_cons (de_var (i := 2)) (da_cons (de_var (i := 6)) (da_cons (de_var (i := 8)) da_nil)))) (argN_cons (argN_cons (argN_cons (argN_cons argN_nil))))) (de_call (n := 4) (m := m_step_behind) (da_cons (de_var (i := 1)) (da_cons (de_var (i := 2)) (da_cons (de_var (i := 6)) (da_cons (de_var (i := 8)) da_nil)))) (argN_cons (argN_cons (argN_cons (argN_cons argN_nil)))))))
      (ds_seq (ds_if (dt_test (de_op dr_notIn (de_var (i := 9)) (de_var (i := 5)))) (ds_drop (de_mt dm_append (de_var (i := 5)) (da_cons (de_var (i := 9)) da_nil))) ds_next)
      (ds_drop (de_mt dm_append (de_var (i := 7)) (da_cons (de_idx (de_var (i := 5)) (da_cons (de_var (i := 9)) da_nil)) da_nil))))))
      (ds_seq (ds_drop (de_mt dm_append (de_var (i := 4)) (da_cons (de_frz (de_var (i := 7))) da_nil)))
      (ds_if (dt_test (de_op dr_gt (de_b drn_len (da_cons (de_var (i := 5)) da_nil)) (de_c (d := .int 100) (v := .int 100) (fun _ => rfl)))) ds_raise ds_next))))))
      (ds_seq (ds_if (dt_test (de_op dr_eq (de_var (i := 0)) (de_c (d := .str "or") (v := .str "or") (fun _ => rfl)))) (ds_ret (de_tup (da_cons (de_frz (de_var (i := 4))) (da_cons (de_comp (di_any (de_var (i := 5))) (dg_tup (n := 2) (dgs_cons dg_name (dgs_cons dg_name dgs_nil))) (own_tup (G := ⟨K, C⟩) (owns_cons own_name (owns_cons own_name owns_nil mono_name mono_nil) mono_name (mono_cons mono_name mono_nil))) (mono_tup (G := ⟨K, C⟩) (mono_cons mono_name (mono_cons mono_name mono_nil))) dt_yes (de_orV (de_op dr_ix (de_op dr_ix (de_var (i := 1)) (de_c (d := .int 1) (v := .int 1) (fun _ => rfl))) (de_var (i := 12))) (de_op dr_ix (de_op dr_ix (de_var (i := 2)) (de_c (d := .int 1) (v := .int 1) (fun _ => rfl))) (de_var (i := 13))))) da_nil)))) ds_next)
      (ds_ret (de_tup (da_cons (de_frz (de_var (i := 4))) (da_cons (de_comp (di_any (de_var (i := 5))) (dg_tup (n := 2) (dgs_cons dg_name (dgs_cons dg_name dgs_nil))) (own_tup (G := ⟨K, C⟩) (owns_cons own_name (owns_cons own_name owns_nil mono_name mono_nil) mono_name (mono_cons mono_name mono_nil))) (mono_tup (G := ⟨K, C⟩) (mono_cons mono_name (mono_cons mono_name mono_nil))) dt_yes (de_gen hP (di_any (de_var (i := 11))) dg_name own_name mono_name dt_yes (dga_Y (de_op dr_ix (de_op dr_ix (de_var (i := 2)) (de_c (d := .int 1) (v := .int 1) (fun _ => rfl))) (de_var (i := 14)))))) da_nil))))))))⟩
abbrev s_simple_reader : Stmt := topS 11
noncomputable def b_simple_reader (n0 : Nat) : Sv :=
    (sSeq (sIf (eTest (eOp oEq (eOp oIx (eVar 0) (eC (.int 0))) (eC (.str "none")))) (sRet (eTup (aCons (eLst (aCons (eOp oRep (eLst (aCons (eC (.int 0)) aNil)) (eVar 1)) aNil)) (aCons (eLst (aCons (eC (.bl false)) aNil)) aNil)))) sNil)
    (sSeq (sIf (eTest (eOp oEq (eOp oIx (eVar 0) (eC (.int 0))) (eC (.str "empty")))) (sRet (eTup (aCons (eLst (aCons (eOp oRep (eLst (aCons (eC (.int 1)) aNil)) (eVar 1)) (aCons (eOp oRep (eLst (aCons (eC (.int 1)) aNil)) (eVar 1)) aNil))) (aCons (eLst (aCons (eC (.bl true)) (aCons (eC (.bl false)) aNil))) aNil)))) sNil)
    (sRet (eTup (aCons (eLst (aCons (eComp (iRg1 (aCons (eVar 1) aNil)) (tName 2) eYes (eIf (eTest (eOp oEq (eVar 2) (eOp oIx (eVar 0) (eC (.int 1))))) (eC (.int 1)) (eC (.int 2))) [2]) (aCons (eOp oRep (eLst (aCons (eC (.int 2)) aNil)) (eVar 1)) (aCons (eOp oRep (eLst (aCons (eC (.int 2)) aNil)) (eVar 1)) aNil)))) (aCons (eLst (aCons (eC (.bl false)) (aCons (eC (.bl true)) (aCons (eC (.bl false)) aNil)))) aNil))))))
noncomputable def m_simple_reader : Fd := runD 3 b_simple_reader
theorem sc_simple_reader : FnScope ["line", "letters", "k"] ["line", "letters"] (defScope s_simple_reader) := ⟨rfl, rfl, rfl, by decide +kernel, rfl, by decide +kernel, by decide +kernel⟩
theorem df_simple_reader (Z : Zs mg) (T : DefAt K mg "simple_reader" s_simple_reader ["line", "letters"]) : Df P w K mg base C 1 "simple_reader" 2 m_simple_reader := by
  refine df_of (N := ["line", "letters", "k"]) (ps := ["line", "letters"]) (n := 2) (k := 0) (body := b_simple_reader) T sc_simple_reader rfl (by decide) fun X f A s H E outer cdv hX hr => ?_
  subst hX
  have nd := sc_simple_reader.nd
  exact ⟨_, (pss_cons (ps_if (pt_cmpR (op_eqD hr.units) (pe_ix ix_seq (pv 0) pe_int (fun _ _ => rfl)) pe_str (nomark _)) (pss_one (ps_ret (pe_tup (pa_cons (pe_lst (pa_cons (pe_op op_rep (pe_lst (pa_cons pe_int pa_nil)) (pv 1)) pa_nil)) (pa_cons (pe_lst (pa_cons pe_bl pa_nil)) pa_nil))))) pss_nil)
      (pss_cons (ps_if (pt_cmpR (op_eqD hr.units) (pe_ix ix_seq (pv 0) pe_int (fun _ _ => rfl)) pe_str (nomark _)) (pss_one (ps_ret (pe_tup (pa_cons (pe_lst (pa_cons (pe_op op_rep (pe_lst (pa_cons pe_int pa_nil)) (pv 1)) (pa_cons (pe_op op_rep (pe_lst (pa_cons pe_int pa_nil)) (pv 1)) pa_nil))) (pa_cons (pe_lst (pa_cons pe_bl (pa_cons pe_bl pa_nil))) pa_nil))))) pss_nil)
      (pss_one (ps_ret (pe_tup (pa_cons (pe_lst (pa_cons (pe_lc (own := ([("k", 2)] : List (Str × Nat))) (g := (gName 2)) (tt := tYes) (te := (tIf (tTest (tOp (rEqD K) (tVar 2) (tOp (rIx K) (tVar 0) (tC (.int 1))))) (tC (.int 1)) (tC (.int 2)))) rfl nd (pi_range1 (by rfl) Z.range_ (pa_cons (pv 1) pa_nil)) (blkOk_by (by first | decide +kernel | rfl)) (fun _ _ _ _ _ => (pg_name (i := 2) nd rfl (by first | exact Or.inl rfl | exact Or.inr rfl))) (fun _ _ _ _ _ => pts_nil) (fun _ _ _ _ _ => (pe_ifExp (pt_cmpR (op_eqD hr.units) (pv 2) (pe_ix ix_seq (pv 0) pe_int (fun _ _ => rfl)) (nomark _)) pe_int pe_int))) (pa_cons (pe_op op_rep (pe_lst (pa_cons pe_int pa_nil)) (pv 1)) (pa_cons (pe_op op_rep (pe_lst (pa_cons pe_int pa_nil)) (pv 1)) pa_nil)))) (pa_cons (pe_lst (pa_cons pe_bl (pa_cons pe_bl (pa_cons pe_bl pa_nil)))) pa_nil))))))),
    fun n0 => (ds_seq (ds_if (dt_test (de_op dr_eq (de_op dr_ix (de_var (i := 0)) (de_c (d := .int 0) (v := .int 0) (fun _ => rfl))) (de_c (d := .str "none") (v := .str "none") (fun _ => rfl)))) (ds_ret (de_tup (da_cons (de_lst (da_cons (de_op dr_rep (de_lst (da_cons (de_c (d := .int 0) (v := .int 0) (fun _ => rfl)) da_nil)) (de_var (i := 1))) da_nil)) (da_cons (de_lst (da_cons (de_c (d := .bl false) (v := .bl false) (fun _ => rfl)) da_nil)) da_nil)))) ds_next)
      (ds_seq (ds_if (dt_test (de_op dr_eq (de_op dr_ix (de_var (i := 0)) (de_c (d := .int 0) (v := .int 0) (fun _ => rfl))) (de_c (d := .str "empty") (v := .str "empty") (fun _ => rfl)))) (ds_ret (de_tup (da_cons (de_lst (da_cons (de_op dr_rep (de_lst (da_cons (de_c (d := .int 1) (v := .int 1) (fun _ => rfl)) da_nil)) (de_var (i := 1))) (da_cons (de_op dr_rep (de_lst (da_cons (de_c (d := .int 1) (v := .int 1) (fun _ => rfl)) da_nil)) (de_var (i := 1))) da_nil))) (da_cons (de_lst (da_cons (de_c (d := .bl true) (v := .bl true) (fun _ => rfl)) (da_cons (de_c (d := .bl false) (v := .bl false) (fun _ => rfl)) da_nil))) da_nil)))) ds_next)
      (ds_ret (de_tup (da_cons (de_lst (da_cons (de_comp (di_rg1 (da_cons (de_var (i := 1)) da_nil)) dg_name own_name mono_name dt_yes (de_if (dt_test (de_op dr_eq (de_var (i := 2)) (de_op dr_ix (de_var (i := 0)) (de_c (d := .int 1) (v := .int 1) (fun _ => rfl))))) (de_c (d := .int 1) (v := .int 1) (fun _ => rfl)) (de_c (d := .int 2) (v := .int 2) (fun _ => rfl)))) (da_cons (de_op dr_rep (de_lst (da_cons (de_c (d := .int 2) (v := .int 2) (fun _ => rfl)) da_nil)) (de_var (i := 1))) (da_cons (de_op dr_rep (de_lst (da_cons (de_c (d := .int 2) (v := .int 2) (fun _ => rfl)) da_nil)) (de_var (i := 1))) da_nil)))) (da_cons (de_lst (da_cons (de_c (d := .bl false) (v := .bl false) (fun _ => rfl)) (da_cons (de_c (d := .bl true) (v := .bl true) (fun _ => rfl)) (da_cons (de_c (d := .bl false) (v := .bl false) (fun _ => rfl)) da_nil)))) da_nil))))))⟩
abbrev s_readers_of : Stmt := topS 15
noncomputable def b_readers_of (n0 : Nat) : Sv :=
    (sSeq (sSet 2 (eLstC aNil))
    (sSeq (sFor (iAnyD (eVar 0)) (tName 3) (sIf (eTest (eOp oEq (eOp oIx (eVar 3) (eC (.int 0))) (eC (.str "not")))) (sSeq (sAsg (eOp oIx (eVar 2) (eOp oIx (eVar 3) (eC (.int 1)))) (tTupT 2 (tConss (tName 4) (tConss (tName 5) tNils))))
    (sDrop (eMt (oAppend n0) (eVar 2) (aCons (eTup (aCons (eVar 4) (aCons (eComp (iAnyD (eVar 5)) (tName 6) eYes (eNotV (eVar 6)) [6]) aNil))) aNil)))) (sIf (eTest (eOp oIn (eOp oIx (eVar 3) (eC (.int 0))) (eLst (aCons (eC (.str "or")) (aCons (eC (.str "behind")) aNil))))) (sDrop (eMt (oAppend n0) (eVar 2) (aCons (eCallX m_joined (aCons (eOp oIx (eVar 3) (eC (.int 0))) (aCons (eOp oIx (eVar 2) (eOp oIx (eVar 3) (eC (.int 1)))) (aCons (eOp oIx (eVar 2) (eOp oIx (eVar 3) (eC (.int 2)))) (aCons (eVar 1) aNil))))) aNil))) (sDrop (eMt (oAppend n0) (eVar 2) (aCons (eCall m_simple_reader (aCons (eVar 3) (aCons (eVar 1) aNil))) aNil))))))
    (sRet (eFrz (eVar 2)))))
noncomputable def m_readers_of : Fd := runD 7 b_readers_of
theorem sc_readers_of : FnScope ["lines", "letters", "found", "line", "rows", "taken", "one"] ["lines", "letters"] (defScope s_readers_of) := ⟨rfl, rfl, rfl, by decide +kernel, rfl, by decide +kernel, by decide +kernel⟩
theorem df_readers_of (Z : Zs mg) (T : DefAt K mg "readers_of" s_readers_of ["lines", "letters"]) (D_joined : DfX P w K mg base C 2 "joined" 4 m_joined) (D_simple_reader : Df P w K mg base C 1 "simple_reader" 2 m_simple_reader) : DfX P w K mg base C 3 "readers_of" 2 m_readers_of := by
  obtain ⟨f_joined, fd_joined, ps_joined, F_joined, g_joined, k_joined, b_joined⟩ := D_joined.ex
  obtain ⟨f_simple_reader, fd_simple_reader, ps_simple_reader, F_simple_reader, g_simple_reader, k_simple_reader, b_simple_reader⟩ := D_simple_reader.ex
  refine df_ofX (N := ["lines", "letters", "found", "line", "rows", "taken", "one"]) (ps := ["lines", "letters"]) (n := 2) (k := 2) (body := b_readers_of) T sc_readers_of rfl (by decide) fun X f A s H E outer cdv hX hr tk po => ?_
  subst hX
  have nd := sc_readers_of.nd
  exact ⟨_, (pss_cons (ps_set (i := 2) nd rfl (Or.inl rfl) (pe_lst pa_nil))
      (pss_cons (ps_for po rfl (pi_any (pv 0)) (pg_name (i := 3) nd rfl (by first | exact Or.inl rfl | exact Or.inr rfl)) (pss_one (ps_if (pt_cmpR (op_eqD hr.units) (pe_ix ix_seq (pv 3) pe_int (fun _ _ => rfl)) pe_str (nomark _)) (pss_cons (ps_asg (pe_ix ix_seq (pv 2) (pe_ix ix_seq (pv 3) pe_int (fun _ _ => rfl)) (fun _ _ => rfl)) (pg_tup rfl (pgs_cons (pg_name (i := 4) nd rfl (by first | exact Or.inl rfl | exact Or.inr rfl)) (pgs_cons (pg_name (i := 5) nd rfl (by first | exact Or.inl rfl | exact Or.inr rfl)) pgs_nil))))
      (pss_one (ps_expr (pe_bm PySem.F.plainAttrs_list PySem.F.slot_list_append PySem.F.type_list_append mt_append (pv 2) (pa_cons (pe_tup (pa_cons (pv 4) (pa_cons (pe_lc (own := ([("one", 6)] : List (Str × Nat))) (g := (gName 6)) (tt := tYes) (te := (tNotV (tVar 6))) rfl nd (pi_any (pv 5)) (blkOk_by (by first | decide +kernel | rfl)) (fun _ _ _ _ _ => (pg_name (i := 6) nd rfl (by first | exact Or.inl rfl | exact Or.inr rfl))) (fun _ _ _ _ _ => pts_nil) (fun _ _ _ _ _ => (pe_not (pv 6)))) pa_nil))) pa_nil))))) (pss_one (ps_if (pt_cmpR (op_inA (hu65 hr)) (pe_ix ix_seq (pv 3) pe_int (fun _ _ => rfl)) (pe_lst (pa_cons pe_str (pa_cons pe_str pa_nil))) (by rfl)) (pss_one (ps_expr (pe_bm PySem.F.plainAttrs_list PySem.F.slot_list_append PySem.F.type_list_append mt_append (pv 2) (pa_cons (pe_callSD F_joined (hr.mono (by decide)) (by rfl) g_joined k_joined b_joined .nil (fun σ => passAt tk σ) (pa_cons (pe_ix ix_seq (pv 3) pe_int (fun _ _ => rfl)) (pa_cons (pe_ix ix_seq (pv 2) (pe_ix ix_seq (pv 3) pe_int (fun _ _ => rfl)) (fun _ _ => rfl)) (pa_cons (pe_ix ix_seq (pv 2) (pe_ix ix_seq (pv 3) pe_int (fun _ _ => rfl)) (fun _ _ => rfl)) (pa_cons (pv 1) pa_nil))))) pa_nil)))) (pss_one (ps_expr (pe_bm PySem.F.plainAttrs_list PySem.F.slot_list_append PySem.F.type_list_append mt_append (pv 2) (pa_cons (pe_call F_simple_reader (hr.mono (by decide)) (by rfl) g_simple_reader k_simple_reader b_simple_reader .nil pass0 (pa_cons (pv 3) (pa_cons (pv 1) pa_nil))) pa_nil)))))))))
      (pss_one (ps_ret (pv 2))))),
    fun n0 => (ds_seq (ds_set (i := 2) (de_lstC da_nil))
      (ds_seq (ds_for (di_any (de_var (i := 0))) dg_name (ds_if (dt_test (de_op dr_eq (de_op dr_ix (de_var (i := 3)) (de_c (d := .int 0) (v := .int 0) (fun _ => rfl))) (de_c (d := .str "not") (v := .str "not") (fun _ => rfl)))) (ds_seq (ds_asg (de_op dr_ix (de_var (i := 2)) (de_op dr_ix (de_var (i := 3)) (de_c (d := .int 1) (v := .int 1) (fun _ => rfl)))) (dg_tup (n := 2) (dgs_cons dg_name (dgs_cons dg_name dgs_nil))))
      (ds_drop (de_mt dm_append (de_var (i := 2)) (da_cons (de_tup (da_cons (de_var (i := 4)) (da_cons (de_comp (di_any (de_var (i := 5))) dg_name own_name mono_name dt_yes (de_notV (de_var (i := 6)))) da_nil))) da_nil)))) (ds_if (dt_test (de_op dr_in (de_op dr_ix (de_var (i := 3)) (de_c (d := .int 0) (v := .int 0) (fun _ => rfl))) (de_lst (da_cons (de_c (d := .str "or") (v := .str "or") (fun _ => rfl)) (da_cons (de_c (d := .str "behind") (v := .str "behind") (fun _ => rfl)) da_nil))))) (ds_drop (de_mt dm_append (de_var (i := 2)) (da_cons (de_callX (n := 4) (m := m_joined) (da_cons (de_op dr_ix (de_var (i := 3)) (de_c (d := .int 0) (v := .int 0) (fun _ => rfl))) (da_cons (de_op dr_ix (de_var (i := 2)) (de_op dr_ix (de_var (i := 3)) (de_c (d := .int 1) (v := .int 1) (fun _ => rfl)))) (da_cons (de_op dr_ix (de_var (i := 2)) (de_op dr_ix (de_var (i := 3)) (de_c (d := .int 2) (v := .int 2) (fun _ => rfl)))) (da_cons (de_var (i := 1)) da_nil)))) (argN_cons (argN_cons (argN_cons (argN_cons argN_nil))))) da_nil))) (ds_drop (de_mt dm_append (de_var (i := 2)) (da_cons (de_call (n := 2) (m := m_simple_reader) (da_cons (de_var (i := 3)) (da_cons (de_var (i := 1)) da_nil)) (argN_cons (argN_cons argN_nil))) da_nil))))))
      (ds_ret (de_frz (de_var (i := 2))))))⟩
abbrev s_reader_of : Stmt := topS 16
noncomputable def b_reader_of (n0 : Nat) : Sv :=
    (sSeq (sDrop (eCall m_check_filter (aCons (eVar 0) aNil)))
    (sRet (eOp oIx (eCallX m_readers_of (aCons (eVar 0) (aCons (eVar 1) aNil))) (eUn oNeg (eC (.int 1))))))
noncomputable def m_reader_of : Fd := runD 2 b_reader_of
theorem sc_reader_of : FnScope ["lines", "letters"] ["lines", "letters"] (defScope s_reader_of) := ⟨rfl, rfl, rfl, by decide +kernel, rfl, by decide +kernel, by decide +kernel⟩
theorem df_reader_of (Z : Zs mg) (T : DefAt K mg "reader_of" s_reader_of ["lines", "letters"]) (D_check_filter : Df P w K mg base C 3 "check_filter" 1 m_check_filter) (D_readers_of : DfX P w K mg base C 3 "readers_of" 2 m_readers_of) : DfX P w K mg base C 4 "reader_of" 2 m_reader_of := by
  obtain ⟨f_check_filter, fd_check_filter, ps_check_filter, F_check_filter, g_check_filter, k_check_filter, b_check_filter⟩ := D_check_filter.ex
  obtain ⟨f_readers_of, fd_readers_of, ps_readers_of, F_readers_of, g_readers_of, k_readers_of, b_readers_of⟩ := D_readers_of.ex
  refine df_ofX (N := ["lines", "letters"]) (ps := ["lines", "letters"]) (n := 2) (k := 3) (body := b_reader_of) T sc_reader_of rfl (by decide) fun X f A s H E outer cdv hX hr tk po => ?_
  subst hX
  have nd := sc_reader_of.nd
  exact ⟨_, (pss_cons (ps_expr (pe_call F_check_filter (hr.mono (by decide)) (by rfl) g_check_filter k_check_filter b_check_filter .nil pass0 (pa_cons (pv 0) pa_nil)))
      (pss_one (ps_ret (pe_ix ix_seq (pe_callSD F_readers_of (hr.mono (by decide)) (by rfl) g_readers_of k_readers_of b_readers_of .nil (fun σ => passAt tk σ) (pa_cons (pv 0) (pa_cons (pv 1) pa_nil))) (pe_un un_neg pe_int) (fun _ _ => rfl))))),
    fun n0 => (ds_seq (ds_drop (de_call (n := 1) (m := m_check_filter) (da_cons (de_var (i := 0)) da_nil) (argN_cons argN_nil)))
      (ds_ret (de_op dr_ix (de_callX (n := 2) (m := m_readers_of) (da_cons (de_var (i := 0)) (da_cons (de_var (i := 1)) da_nil)) (argN_cons (argN_cons argN_nil))) (de_un dr_neg (de_c (d := .int 1) (v := .int 1) (fun _ => rfl))))))⟩
abbrev s_count_taken : Stmt := topS 18
noncomputable def b_count_taken (n0 : Nat) : Sv :=
    (sSeq (sAsg (eCallX m_reader_of (aCons (eVar 0) (aCons (eVar 1) aNil))) (tTupT 2 (tConss (tName 5) (tConss (tName 6) tNils))))
    (sSeq (sSet 3 (eComp (iAnyD (eVar 6)) (tName 7) eYes (eIf (eTru (eVar 7)) (eC (.int 1)) (eC (.int 0))) [7]))
    (sSeq (sFor (iRg1 (aCons (eVar 2) aNil)) (tName 4) (sSet 3 (eComp (iAnyD (eVar 5)) (tName 8) eYes (eSumG (iAnyD (eVar 8)) (tName 9) (eOp oIx (eVar 3) (eVar 9)) [9]) [8])))
    (sRet (eOp oIx (eVar 3) (eC (.int 0)))))))
noncomputable def m_count_taken : Fd := runD 10 b_count_taken
theorem sc_count_taken : FnScope ["lines", "letters", "size", "counts", "_", "rows", "taken", "one", "row", "state"] ["lines", "letters", "size"] (defScope s_count_taken) := ⟨rfl, rfl, rfl, by decide +kernel, rfl, by decide +kernel, by decide +kernel⟩
theorem df_count_taken {cT PT : Addr} (Z : Zs mg) (T : DefAtC K mg "count_taken" s_count_taken ["lines", "letters", "size"] cT) (TB : GxR.TabB base mg cT PT) (hP : C.tabs PT) (D_reader_of : DfX P w K mg base C 4 "reader_of" 2 m_reader_of) : DfX P w K mg base C 5 "count_taken" 3 m_count_taken := by
  obtain ⟨f_reader_of, fd_reader_of, ps_reader_of, F_reader_of, g_reader_of, k_reader_of, b_reader_of⟩ := D_reader_of.ex
  refine df_ofCX (N := ["lines", "letters", "size", "counts", "_", "rows", "taken", "one", "row", "state"]) (ps := ["lines", "letters", "size"]) (n := 3) (k := 4) (body := b_count_taken) T sc_count_taken rfl (by decide) fun X f A s H E outer cdv hX hr tk po => ?_
  subst hX
  have nd := sc_count_taken.nd
  exact ⟨_, (pss_cons (ps_asg (pe_callSD F_reader_of (hr.mono (by decide)) (by rfl) g_reader_of k_reader_of b_reader_of .nil (fun σ => passAt tk σ) (pa_cons (pv 0) (pa_cons (pv 1) pa_nil))) (pg_tup rfl (pgs_cons (pg_name (i := 5) nd rfl (by first | exact Or.inl rfl | exact Or.inr rfl)) (pgs_cons (pg_name (i := 6) nd rfl (by first | exact Or.inl rfl | exact Or.inr rfl)) pgs_nil))))
      (pss_cons (ps_set (i := 3) nd rfl (Or.inr rfl) (pe_lc (own := ([("one", 7)] : List (Str × Nat))) (g := (gName 7)) (tt := tYes) (te := (tIf (tTru K (tVar 7)) (tC (.int 1)) (tC (.int 0)))) rfl nd (pi_any (pv 6)) (blkOk_by (by first | decide +kernel | rfl)) (fun _ _ _ _ _ => (pg_name (i := 7) nd rfl (by first | exact Or.inl rfl | exact Or.inr rfl))) (fun _ _ _ _ _ => pts_nil) (fun _ _ _ _ _ => (pe_ifExp (pt_truth (pv 7) (by intro _; rfl)) pe_int pe_int))))
      (pss_cons (ps_for po rfl (pi_range1 (by rfl) Z.range_ (pa_cons (pv 2) pa_nil)) (pg_name (i := 4) nd rfl (by first | exact Or.inl rfl | exact Or.inr rfl)) (pss_one (ps_set (i := 3) nd rfl (Or.inr rfl) (pe_lc (own := ([("row", 8)] : List (Str × Nat))) (g := (gName 8)) (tt := tYes) (te := (tGenS PT (iAny K (tVar 8)) (gName 9) tYes (tOp (rIx K) (tVar 3) (tVar 9)) [9])) rfl nd (pi_any (pv 5)) (blkOk_by (by first | decide +kernel | rfl)) (fun _ _ _ _ _ => (pg_name (i := 8) nd rfl (by first | exact Or.inl rfl | exact Or.inr rfl))) (fun _ _ _ _ _ => pts_nil) (fun _ _ _ _ _ => (pe_sumG (k := 0) (own := ([("state", 9)] : List (Str × Nat))) (g := (gName 9)) (tt := tYes) (by rfl) Z.sum_ (fun _ _ => gt1 ..) (hr.mono (by decide)) rfl nd TB rfl rfl (by rfl) (pi_any (pv 8)) (blkOk_by (by first | decide +kernel | rfl)) (fun _ _ _ _ _ _ hr => (pg_name (i := 9) nd rfl (by first | exact Or.inl rfl | exact Or.inr rfl))) (fun _ _ _ _ _ _ hr => pts_nil) (fun _ _ _ _ _ _ hr => (pe_ix ix_seq (pv 3) (pv 9) (fun _ _ => rfl))) (fun _ => rfl)))))))
      (pss_one (ps_ret (pe_ix ix_seq (pv 3) pe_int (fun _ _ => rfl))))))),
    fun n0 => (ds_seq (ds_asg (de_callX (n := 2) (m := m_reader_of) (da_cons (de_var (i := 0)) (da_cons (de_var (i := 1)) da_nil)) (argN_cons (argN_cons argN_nil))) (dg_tup (n := 2) (dgs_cons dg_name (dgs_cons dg_name dgs_nil))))
      (ds_seq (ds_set (i := 3) (de_comp (di_any (de_var (i := 6))) dg_name own_name mono_name dt_yes (de_if (dt_tru (de_var (i := 7))) (de_c (d := .int 1) (v := .int 1) (fun _ => rfl)) (de_c (d := .int 0) (v := .int 0) (fun _ => rfl)))))
      (ds_seq (ds_for (di_rg1 (da_cons (de_var (i := 2)) da_nil)) dg_name (ds_set (i := 3) (de_comp (di_any (de_var (i := 5))) dg_name own_name mono_name dt_yes (de_sumG hP (di_any (de_var (i := 8))) dg_name own_name mono_name (de_op dr_ix (de_var (i := 3)) (de_var (i := 9)))))))
      (ds_ret (de_op dr_ix (de_var (i := 3)) (de_c (d := .int 0) (v := .int 0) (fun _ => rfl)))))))⟩
abbrev s__law_count : Stmt := topS 30
noncomputable def b__law_count (n0 : Nat) : Sv :=
    (sTryO ["TooManyStates"] (sRet (eLst (aCons (eC (.str "told")) (aCons (eCallX m_count_taken (aCons (eVar 0) (aCons (eVar 1) (aCons (eVar 2) aNil)))) aNil)))) (fun _ => (sRet (eLst (aCons (eC (.str "refused")) aNil)))))
noncomputable def m__law_count : Fd := runD 3 b__law_count
theorem sc__law_count : FnScope ["_law_lines_here", "_law_letters", "_law_size"] ["_law_lines_here", "_law_letters", "_law_size"] (defScope s__law_count) := ⟨rfl, rfl, rfl, by decide +kernel, rfl, by decide +kernel, by decide +kernel⟩
theorem df__law_count {a_TooManyStates : Addr} (Z : Zs mg) (T : DefAt K mg "_law_count" s__law_count ["_law_lines_here", "_law_letters", "_law_size"]) (Q : Es P w K mg base C a_TooManyStates) (D_count_taken : DfX P w K mg base C 5 "count_taken" 3 m_count_taken) : Df P w K mg base C 6 "_law_count" 3 m__law_count := by
  obtain ⟨f_count_taken, fd_count_taken, ps_count_taken, F_count_taken, g_count_taken, k_count_taken, b_count_taken⟩ := D_count_taken.ex
  refine df_of (N := ["_law_lines_here", "_law_letters", "_law_size"]) (ps := ["_law_lines_here", "_law_letters", "_law_size"]) (n := 3) (k := 5) (body := b__law_count) T sc__law_count rfl (by decide) fun X f A s H E outer cdv hX hr => ?_
  subst hX
  have nd := sc__law_count.nd
  exact ⟨_, (pss_one (ps_try_only rfl rfl ⟨rfl, by decide, .inl Q.t_TooManyStates.g⟩ takes0 (fun W pn xe tk po => (pss_one (ps_ret (pe_lst (pa_cons pe_str (pa_cons (pe_callSD F_count_taken (hr.mono (by decide)) (by rfl) g_count_taken k_count_taken b_count_taken .nil (fun σ => passAt tk σ) (pa_cons (pv 0) (pa_cons (pv 1) (pa_cons (pv 2) pa_nil)))) pa_nil)))))) (fun a oe cls d pn hz hf => (pss_one (ps_ret (pe_lst (pa_cons pe_str pa_nil))))))),
    fun n0 => (ds_try_only ["TooManyStates"] (fun W' => (ds_ret (de_lst (da_cons (de_c (d := .str "told") (v := .str "told") (fun _ => rfl)) (da_cons (de_callX (n := 3) (m := m_count_taken) (da_cons (de_var (i := 0)) (da_cons (de_var (i := 1)) (da_cons (de_var (i := 2)) da_nil))) (argN_cons (argN_cons (argN_cons argN_nil)))) da_nil))))) (fun c hc => by obtain rfl := List.mem_singleton.mp hc; rw [show (Gx.C ⟨K, C⟩).cls "TooManyStates" = _ from Q.t_TooManyStates.cls]; exact PySem.W.exm_ref Q.t_TooManyStates.b Q.t_TooManyStates.e.hd Q.t_TooManyStates.t Q.s_TooManyStates_TooManyStates) (fun c hc a => by obtain rfl := List.mem_singleton.mp hc; exact (ds_ret (de_lst (da_cons (de_c (d := .str "refused") (v := .str "refused") (fun _ => rfl)) da_nil)))))⟩
abbrev s__law_due : Stmt := topS 31
noncomputable def b__law_due (n0 : Nat) : Sv :=
    (sSeq (sSet 2 (eLstC aNil))
    (sSeq (sFor (iAnyD (eOp oIxA (eVar 0) (eC (.int 1)))) (tName 3) (sDrop (eMt (oAppend n0) (eVar 2) (aCons (eOp oIxA (eLst (aCons (eC (.int 0)) (aCons (eC (.int 1)) aNil))) (eVar 3)) aNil))))
    (sSeq (sFor (iRg1 (aCons (eVar 1) aNil)) (tName 4) (sSet 2 (eCompC (iAnyD (eOp oIxA (eVar 0) (eC (.int 0)))) (tName 5) eYes (eB oSumL (aCons (eComp (iAnyD (eVar 5)) (tName 6) eYes (eOp oIxA (eVar 2) (eVar 6)) [6]) aNil)) [5])))
    (sRet (eOp oIxA (eVar 2) (eC (.int 0)))))))
noncomputable def m__law_due : Fd := runD 7 b__law_due
theorem sc__law_due : FnScope ["_law_reader_here", "_law_size", "_law_counts", "_law_one", "_law_k", "_law_row", "_law_state"] ["_law_reader_here", "_law_size"] (defScope s__law_due) := ⟨rfl, rfl, rfl, by decide +kernel, rfl, by decide +kernel, by decide +kernel⟩
theorem df__law_due (Z : Zs mg) (T : DefAt K mg "_law_due" s__law_due ["_law_reader_here", "_law_size"]) : Df P w K mg base C 1 "_law_due" 2 m__law_due := by
  refine df_of (N := ["_law_reader_here", "_law_size", "_law_counts", "_law_one", "_law_k", "_law_row", "_law_state"]) (ps := ["_law_reader_here", "_law_size"]) (n := 2) (k := 0) (body := b__law_due) T sc__law_due rfl (by decide) fun X f A s H E outer cdv hX hr => ?_
  subst hX
  have nd := sc__law_due.nd
  exact ⟨_, (pss_cons (ps_set (i := 2) nd rfl (Or.inr rfl) (pe_lst pa_nil))
      (pss_cons (ps_for PassesOwn.never rfl (pi_any (pe_ix ix_seqA (pv 0) pe_int (fun _ _ => rfl))) (pg_name (i := 3) nd rfl (by first | exact Or.inl rfl | exact Or.inr rfl)) (pss_one (ps_expr (pe_bm PySem.F.plainAttrs_list PySem.F.slot_list_append PySem.F.type_list_append mt_append (pv 2) (pa_cons (pe_ix ix_seqA (pe_lst (pa_cons pe_int (pa_cons pe_int pa_nil))) (pv 3) (fun _ _ => rfl)) pa_nil)))))
      (pss_cons (ps_for PassesOwn.never rfl (pi_range1 (by rfl) Z.range_ (pa_cons (pv 1) pa_nil)) (pg_name (i := 4) nd rfl (by first | exact Or.inl rfl | exact Or.inr rfl)) (pss_one (ps_set (i := 2) nd rfl (Or.inr rfl) (pe_lc (own := ([("_law_row", 5)] : List (Str × Nat))) (g := (gName 5)) (tt := tYes) (te := (tCB (rSumL K) (tCons (tLc (iAny K (tVar 5)) (gName 6) tYes (tOp (rIxA K) (tVar 2) (tVar 6)) [6]) tNil))) rfl nd (pi_any (pe_ix ix_seqA (pv 0) pe_int (fun _ _ => rfl))) (blkOk_by (by first | decide +kernel | rfl)) (fun _ _ _ _ _ => (pg_name (i := 5) nd rfl (by first | exact Or.inl rfl | exact Or.inr rfl))) (fun _ _ _ _ _ => pts_nil) (fun _ _ _ _ _ => (pe_callB (cr_sumL rfl) (by rfl) Z.sum_ (by decide +kernel) (pa_cons (pe_lc (own := ([("_law_state", 6)] : List (Str × Nat))) (g := (gName 6)) (tt := tYes) (te := (tOp (rIxA K) (tVar 2) (tVar 6))) rfl nd (pi_any (pv 5)) (blkOk_by (by first | decide +kernel | rfl)) (fun _ _ _ _ _ => (pg_name (i := 6) nd rfl (by first | exact Or.inl rfl | exact Or.inr rfl))) (fun _ _ _ _ _ => pts_nil) (fun _ _ _ _ _ => (pe_ix ix_seqA (pv 2) (pv 6) (fun _ _ => rfl)))) pa_nil)))))))
      (pss_one (ps_ret (pe_ix ix_seqA (pv 2) pe_int (fun _ _ => rfl))))))),
    fun n0 => (ds_seq (ds_set (i := 2) (de_lstC da_nil))
      (ds_seq (ds_for (di_any (de_op dr_ixA (de_var (i := 0)) (de_c (d := .int 1) (v := .int 1) (fun _ => rfl)))) dg_name (ds_drop (de_mt dm_append (de_var (i := 2)) (da_cons (de_op dr_ixA (de_lst (da_cons (de_c (d := .int 0) (v := .int 0) (fun _ => rfl)) (da_cons (de_c (d := .int 1) (v := .int 1) (fun _ => rfl)) da_nil))) (de_var (i := 3))) da_nil))))
      (ds_seq (ds_for (di_rg1 (da_cons (de_var (i := 1)) da_nil)) dg_name (ds_set (i := 2) (de_compC (di_any (de_op dr_ixA (de_var (i := 0)) (de_c (d := .int 0) (v := .int 0) (fun _ => rfl)))) dg_name own_name mono_name dt_yes (de_b drn_sumL (da_cons (de_comp (di_any (de_var (i := 5))) dg_name own_name mono_name dt_yes (de_op dr_ixA (de_var (i := 2)) (de_var (i := 6)))) da_nil)))))
      (ds_ret (de_op dr_ixA (de_var (i := 2)) (de_c (d := .int 0) (v := .int 0) (fun _ => rfl)))))))⟩
abbrev s__law_spans : Stmt := topS 24
noncomputable def b__law_spans (n0 : Nat) : Sv :=
    (sSeq (sSet 2 (eLstC aNil))
    (sSeq (sSet 3 (eOp oPlus (eB oLen (aCons (eVar 1) aNil)) (eC (.int 1))))
    (sSeq (sFor (iAnyD (eVar 0)) (tName 4) (sSeq (sSet 5 (eCompC (iRg1 (aCons (eVar 3) aNil)) (tName 6) eYes (eCompC (iRg1 (aCons (eVar 3) aNil)) (tName 7) eYes (eC (.bl false)) [7]) [6]))
    (sSeq (sFor (iRg1 (aCons (eVar 3) aNil)) (tName 6) (sFor (iRg2 (aCons (eVar 6) (aCons (eVar 3) aNil))) (tName 7) (sSeq (sSet 8 (eC (.bl false)))
    (sSeq (sIf (eTest (eOp oEq (eOp oIx (eVar 4) (eC (.int 0))) (eC (.str "empty")))) (sSet 8 (eOp oEq (eVar 6) (eVar 7))) (sIf (eTest (eOp oEq (eOp oIx (eVar 4) (eC (.int 0))) (eC (.str "letter")))) (sSet 8 (eAndV (eOp oEq (eVar 7) (eOp oPlus (eVar 6) (eC (.int 1)))) (eOp oEq (eOp oIx (eVar 1) (eVar 6)) (eOp oIx (eVar 4) (eC (.int 1)))))) (sIf (eTest (eOp oEq (eOp oIx (eVar 4) (eC (.int 0))) (eC (.str "not")))) (sSet 8 (eNotV (eOp oIx (eOp oIx (eOp oIx (eVar 2) (eOp oIx (eVar 4) (eC (.int 1)))) (eVar 6)) (eVar 7)))) (sIf (eTest (eOp oEq (eOp oIx (eVar 4) (eC (.int 0))) (eC (.str "or")))) (sSet 8 (eOrV (eOp oIx (eOp oIx (eOp oIx (eVar 2) (eOp oIx (eVar 4) (eC (.int 1)))) (eVar 6)) (eVar 7)) (eOp oIx (eOp oIx (eOp oIx (eVar 2) (eOp oIx (eVar 4) (eC (.int 2)))) (eVar 6)) (eVar 7)))) (sIf (eTest (eOp oEq (eOp oIx (eVar 4) (eC (.int 0))) (eC (.str "behind")))) (sFor (iRg2 (aCons (eVar 6) (aCons (eOp oPlus (eVar 7) (eC (.int 1))) aNil))) (tName 9) (sIf (eAnd (eTru (eOp oIx (eOp oIx (eOp oIx (eVar 2) (eOp oIx (eVar 4) (eC (.int 1)))) (eVar 6)) (eVar 9))) (eTru (eOp oIx (eOp oIx (eOp oIx (eVar 2) (eOp oIx (eVar 4) (eC (.int 2)))) (eVar 9)) (eVar 7)))) (sSet 8 (eC (.bl true))) sNil)) sNil)))))
    (sAsg (eVar 8) (tSub n0 (eOp oIx (eVar 5) (eVar 6)) (eVar 7)))))))
    (sDrop (eMt (oAppend n0) (eVar 2) (aCons (eFrz (eVar 5)) aNil))))))
    (sRet (eFrz (eVar 2))))))
noncomputable def m__law_spans : Fd := runD 10 b__law_spans
theorem sc__law_spans : FnScope ["_law_lines_here", "_law_word", "_law_found", "_law_size", "_law_line", "_law_rows", "_law_start", "_law_end", "_law_taken_here", "_law_middle"] ["_law_lines_here", "_law_word"] (defScope s__law_spans) := ⟨rfl, rfl, rfl, by decide +kernel, rfl, by decide +kernel, by decide +kernel⟩
theorem df__law_spans (Z : Zs mg) (T : DefAt K mg "_law_spans" s__law_spans ["_law_lines_here", "_law_word"]) : Df P w K mg base C 1 "_law_spans" 2 m__law_spans := by
  refine df_of (N := ["_law_lines_here", "_law_word", "_law_found", "_law_size", "_law_line", "_law_rows", "_law_start", "_law_end", "_law_taken_here", "_law_middle"]) (ps := ["_law_lines_here", "_law_word"]) (n := 2) (k := 0) (body := b__law_spans) T sc__law_spans rfl (by decide) fun X f A s H E outer cdv hX hr => ?_
  subst hX
  have nd := sc__law_spans.nd
  exact ⟨_, (pss_cons (ps_set (i := 2) nd rfl (Or.inl rfl) (pe_lst pa_nil))
      (pss_cons (ps_set (i := 3) nd rfl (Or.inr rfl) (pe_op op_plus (pe_callB call_lenA (by rfl) Z.len_ (by decide +kernel) (pa_cons (pv 1) pa_nil)) pe_int))
      (pss_cons (ps_for PassesOwn.never rfl (pi_any (pv 0)) (pg_name (i := 4) nd rfl (by first | exact Or.inl rfl | exact Or.inr rfl)) (pss_cons (ps_setLc (i := 5) (own := ([("_law_start", 6)] : List (Str × Nat))) (g := (gName 6)) (tt := tYes) (te := (tLc (iRng1 (tCons (tVar 3) tNil)) (gName 7) tYes (tC (.bl false)) [7])) rfl nd rfl rfl (sw_true rfl rfl rfl (by decide +kernel)) (pi_range1 (by rfl) Z.range_ (pa_cons (pv 3) pa_nil)) (blkOk_by (by first | decide +kernel | rfl)) (fun _ _ _ _ _ => (pg_name (i := 6) nd rfl (by first | exact Or.inl rfl | exact Or.inr rfl))) (fun _ _ _ _ _ => pts_nil) (fun _ _ _ _ _ => (pe_lc (own := ([("_law_end", 7)] : List (Str × Nat))) (g := (gName 7)) (tt := tYes) (te := (tC (.bl false))) rfl nd (pi_range1 (by rfl) Z.range_ (pa_cons (pv 3) pa_nil)) (blkOk_by (by first | decide +kernel | rfl)) (fun _ _ _ _ _ => (pg_name (i := 7) nd rfl (by first | exact Or.inl rfl | exact Or.inr rfl))) (fun _ _ _ _ _ => pts_nil) (fun _ _ _ _ _ => pe_bl))))
      (pss_cons (ps_for PassesOwn.never rfl (pi_range1 (by rfl) Z.range_ (pa_cons (pv 3) pa_nil)) (pg_name (i := 6) nd rfl (by first | exact Or.inl rfl | exact Or.inr rfl)) (pss_one (ps_for PassesOwn.never rfl (pi_range2 (by rfl) Z.range_ (pa_cons (pv 6) (pa_cons (pv 3) pa_nil))) (pg_name (i := 7) nd rfl (by first | exact Or.inl rfl | exact Or.inr rfl)) (pss_cons (ps_set (i := 8) nd rfl (Or.inl rfl) pe_bl)
      (pss_cons (ps_if (pt_cmpR (op_eqD hr.units) (pe_ix ix_seq (pv 4) pe_int (fun _ _ => rfl)) pe_str (nomark _)) (pss_one (ps_set (i := 8) nd rfl (Or.inl rfl) (pe_cmpR (op_eqD hr.units) (pv 6) (pv 7) (nomark _)))) (pss_one (ps_if (pt_cmpR (op_eqD hr.units) (pe_ix ix_seq (pv 4) pe_int (fun _ _ => rfl)) pe_str (nomark _)) (pss_one (ps_set (i := 8) nd rfl (Or.inl rfl) (pe_and (pe_cmpR (op_eqD hr.units) (pv 7) (pe_op op_plus (pv 6) pe_int) (nomark _)) (pe_one (pe_cmpR (op_eqD hr.units) (pe_ix ix_seq (pv 1) (pv 6) (fun _ _ => rfl)) (pe_ix ix_seq (pv 4) pe_int (fun _ _ => rfl)) (nomark _)))))) (pss_one (ps_if (pt_cmpR (op_eqD hr.units) (pe_ix ix_seq (pv 4) pe_int (fun _ _ => rfl)) pe_str (nomark _)) (pss_one (ps_set (i := 8) nd rfl (Or.inl rfl) (pe_not (pe_ix ix_seq (pe_ix ix_seq (pe_ix ix_seq (pv 2) (pe_ix ix_seq (pv 4) pe_int (fun _ _ => rfl)) (fun _ _ => rfl)) (pv 6) (fun _ _ => rfl)) (pv 7) (fun _ _ => rfl))))) (pss_one (ps_if (pt_cmpR (op_eqD hr.units) (pe_ix ix_seq (pv 4) pe_int (fun _ _ => rfl)) pe_str (nomark _)) (pss_one (ps_set (i := 8) nd rfl (Or.inl rfl) (pe_or (pe_ix ix_seq (pe_ix ix_seq (pe_ix ix_seq (pv 2) (pe_ix ix_seq (pv 4) pe_int (fun _ _ => rfl)) (fun _ _ => rfl)) (pv 6) (fun _ _ => rfl)) (pv 7) (fun _ _ => rfl)) (pe_one (pe_ix ix_seq (pe_ix ix_seq (pe_ix ix_seq (pv 2) (pe_ix ix_seq (pv 4) pe_int (fun _ _ => rfl)) (fun _ _ => rfl)) (pv 6) (fun _ _ => rfl)) (pv 7) (fun _ _ => rfl)))))) (pss_one (ps_if (pt_cmpR (op_eqD hr.units) (pe_ix ix_seq (pv 4) pe_int (fun _ _ => rfl)) pe_str (nomark _)) (pss_one (ps_for PassesOwn.never rfl (pi_range2 (by rfl) Z.range_ (pa_cons (pv 6) (pa_cons (pe_op op_plus (pv 7) pe_int) pa_nil))) (pg_name (i := 9) nd rfl (by first | exact Or.inl rfl | exact Or.inr rfl)) (pss_one (ps_if (PW.pt (pw_and (pt_truth (pe_ix ix_seq (pe_ix ix_seq (pe_ix ix_seq (pv 2) (pe_ix ix_seq (pv 4) pe_int (fun _ _ => rfl)) (fun _ _ => rfl)) (pv 6) (fun _ _ => rfl)) (pv 9) (fun _ _ => rfl)) (by intro _; rfl)) (pw_and1 (pt_truth (pe_ix ix_seq (pe_ix ix_seq (pe_ix ix_seq (pv 2) (pe_ix ix_seq (pv 4) pe_int (fun _ _ => rfl)) (fun _ _ => rfl)) (pv 9) (fun _ _ => rfl)) (pv 7) (fun _ _ => rfl)) (by intro _; rfl))))) (pss_one (ps_set (i := 8) nd rfl (Or.inl rfl) pe_bl)) pss_nil)))) pss_nil)))))))))
      (pss_one (ps_asg (pv 8) (pg_sub (pe_ix ix_seq (pv 5) (pv 6) (fun _ _ => rfl)) (pv 7) set_list))))))))
      (pss_one (ps_expr (pe_bm PySem.F.plainAttrs_list PySem.F.slot_list_append PySem.F.type_list_append mt_append (pv 2) (pa_cons (pv 5) pa_nil)))))))
      (pss_one (ps_ret (pv 2)))))),
    fun n0 => (ds_seq (ds_set (i := 2) (de_lstC da_nil))
      (ds_seq (ds_set (i := 3) (de_op dr_plus (de_b drn_len (da_cons (de_var (i := 1)) da_nil)) (de_c (d := .int 1) (v := .int 1) (fun _ => rfl))))
      (ds_seq (ds_for (di_any (de_var (i := 0))) dg_name (ds_seq (ds_set (i := 5) (de_compC (di_rg1 (da_cons (de_var (i := 3)) da_nil)) dg_name own_name mono_name dt_yes (de_compC (di_rg1 (da_cons (de_var (i := 3)) da_nil)) dg_name own_name mono_name dt_yes (de_c (d := .bl false) (v := .bl false) (fun _ => rfl)))))
      (ds_seq (ds_for (di_rg1 (da_cons (de_var (i := 3)) da_nil)) dg_name (ds_for (di_rg2 (da_cons (de_var (i := 6)) (da_cons (de_var (i := 3)) da_nil))) dg_name (ds_seq (ds_set (i := 8) (de_c (d := .bl false) (v := .bl false) (fun _ => rfl)))
      (ds_seq (ds_if (dt_test (de_op dr_eq (de_op dr_ix (de_var (i := 4)) (de_c (d := .int 0) (v := .int 0) (fun _ => rfl))) (de_c (d := .str "empty") (v := .str "empty") (fun _ => rfl)))) (ds_set (i := 8) (de_op dr_eq (de_var (i := 6)) (de_var (i := 7)))) (ds_if (dt_test (de_op dr_eq (de_op dr_ix (de_var (i := 4)) (de_c (d := .int 0) (v := .int 0) (fun _ => rfl))) (de_c (d := .str "letter") (v := .str "letter") (fun _ => rfl)))) (ds_set (i := 8) (de_andV (de_op dr_eq (de_var (i := 7)) (de_op dr_plus (de_var (i := 6)) (de_c (d := .int 1) (v := .int 1) (fun _ => rfl)))) (de_op dr_eq (de_op dr_ix (de_var (i := 1)) (de_var (i := 6))) (de_op dr_ix (de_var (i := 4)) (de_c (d := .int 1) (v := .int 1) (fun _ => rfl)))))) (ds_if (dt_test (de_op dr_eq (de_op dr_ix (de_var (i := 4)) (de_c (d := .int 0) (v := .int 0) (fun _ => rfl))) (de_c (d := .str "not") (v := .str "not") (fun _ => rfl)))) (ds_set (i := 8) (de_notV (de_op dr_ix (de_op dr_ix (de_op dr_ix (de_var (i := 2)) (de_op dr_ix (de_var (i := 4)) (de_c (d := .int 1) (v := .int 1) (fun _ => rfl)))) (de_var (i := 6))) (de_var (i := 7))))) (ds_if (dt_test (de_op dr_eq (de_op dr_ix (de_var (i := 4)) (de_c (d := .int 0) (v := .int 0) (fun _ => rfl))) (de_c (d := .str "or") (v := .str "or") (fun _ => rfl)))) (ds_set (i := 8) (de_orV (de_op dr_ix (de_op dr_ix (de_op dr_ix (de_var (i := 2)) (de_op dr_ix (de_var (i := 4)) (de_c (d := .int 1) (v := .int 1) (fun _ => rfl)))) (de_var (i := 6))) (de_var (i := 7))) (de_op dr_ix (de_op dr_ix (de_op dr_ix (de_var (i := 2)) (de_op dr_ix (de_var (i := 4)) (de_c (d := .int 2) (v := .int 2) (fun _ => rfl)))) (de_var (i := 6))) (de_var (i := 7))))) (ds_if (dt_test (de_op dr_eq (de_op dr_ix (de_var (i := 4)) (de_c (d := .int 0) (v := .int 0) (fun _ => rfl))) (de_c (d := .str "behind") (v := .str "behind") (fun _ => rfl)))) (ds_for (di_rg2 (da_cons (de_var (i := 6)) (da_cons (de_op dr_plus (de_var (i := 7)) (de_c (d := .int 1) (v := .int 1) (fun _ => rfl))) da_nil))) dg_name (ds_if (dt_and (dt_tru (de_op dr_ix (de_op dr_ix (de_op dr_ix (de_var (i := 2)) (de_op dr_ix (de_var (i := 4)) (de_c (d := .int 1) (v := .int 1) (fun _ => rfl)))) (de_var (i := 6))) (de_var (i := 9)))) (dt_tru (de_op dr_ix (de_op dr_ix (de_op dr_ix (de_var (i := 2)) (de_op dr_ix (de_var (i := 4)) (de_c (d := .int 2) (v := .int 2) (fun _ => rfl)))) (de_var (i := 9))) (de_var (i := 7))))) (ds_set (i := 8) (de_c (d := .bl true) (v := .bl true) (fun _ => rfl))) ds_next)) ds_next)))))
      (ds_asg (de_var (i := 8)) (dg_sub (de_op dr_ix (de_var (i := 5)) (de_var (i := 6))) (de_var (i := 7))))))))
      (ds_drop (de_mt dm_append (de_var (i := 2)) (da_cons (de_frz (de_var (i := 5))) da_nil))))))
      (ds_ret (de_frz (de_var (i := 2)))))))⟩
abbrev s__law_taken : Stmt := topS 25
noncomputable def b__law_taken (n0 : Nat) : Sv :=
    (sRet (eOp oIx (eOp oIx (eOp oIx (eCall m__law_spans (aCons (eVar 0) (aCons (eVar 1) aNil))) (eUn oNeg (eC (.int 1)))) (eC (.int 0))) (eB oLen (aCons (eVar 1) aNil))))
noncomputable def m__law_taken : Fd := runD 2 b__law_taken
theorem sc__law_taken : FnScope ["_law_lines_here", "_law_word"] ["_law_lines_here", "_law_word"] (defScope s__law_taken) := ⟨rfl, rfl, rfl, by decide +kernel, rfl, by decide +kernel, by decide +kernel⟩
theorem df__law_taken (Z : Zs mg) (T : DefAt K mg "_law_taken" s__law_taken ["_law_lines_here", "_law_word"]) (D__law_spans : Df P w K mg base C 1 "_law_spans" 2 m__law_spans) : Df P w K mg base C 2 "_law_taken" 2 m__law_taken := by
  obtain ⟨f__law_spans, fd__law_spans, ps__law_spans, F__law_spans, g__law_spans, k__law_spans, b__law_spans⟩ := D__law_spans.ex
  refine df_of (N := ["_law_lines_here", "_law_word"]) (ps := ["_law_lines_here", "_law_word"]) (n := 2) (k := 1) (body := b__law_taken) T sc__law_taken rfl (by decide) fun X f A s H E outer cdv hX hr => ?_
  subst hX
  have nd := sc__law_taken.nd
  exact ⟨_, (pss_one (ps_ret (pe_ix ix_seq (pe_ix ix_seq (pe_ix ix_seq (pe_call F__law_spans (hr.mono (by decide)) (by rfl) g__law_spans k__law_spans b__law_spans .nil pass0 (pa_cons (pv 0) (pa_cons (pv 1) pa_nil))) (pe_un un_neg pe_int) (fun _ _ => rfl)) pe_int (fun _ _ => rfl)) (pe_callB call_lenA (by rfl) Z.len_ (by decide +kernel) (pa_cons (pv 1) pa_nil)) (fun _ _ => rfl)))),
    fun n0 => (ds_ret (de_op dr_ix (de_op dr_ix (de_op dr_ix (de_call (n := 2) (m := m__law_spans) (da_cons (de_var (i := 0)) (da_cons (de_var (i := 1)) da_nil)) (argN_cons (argN_cons argN_nil))) (de_un dr_neg (de_c (d := .int 1) (v := .int 1) (fun _ => rfl)))) (de_c (d := .int 0) (v := .int 0) (fun _ => rfl))) (de_b drn_len (da_cons (de_var (i := 1)) da_nil))))⟩
abbrev s_law : Stmt := topS 32
noncomputable def b_law (n0 : Nat) : Sv :=
    (sSeq (sSet 1 (eCall m__law_box (aCons (eVar 0) aNil)))
    (sSeq (sSet 2 (eCall m__law_lines (aCons (eVar 1) (aCons (eOp oPlus (eC (.int 1)) (eCall m__law_next (aCons (eVar 1) (aCons (eC (.int 6)) aNil)))) aNil))))
    (sSeq (sSet 3 (eOp oPlus (eC (.int 1)) (eCall m__law_next (aCons (eVar 1) (aCons (eC (.int 3)) aNil)))))
    (sSeq (sSet 4 (eCall m__law_reader (aCons (eVar 2) (aCons (eVar 3) aNil))))
    (sSeq (sIf (eTest (eOp oIsN (eVar 4) (eC .non))) (sRet (eOp oEq (eCall m__law_count (aCons (eVar 2) (aCons (eVar 3) (aCons (eC (.int 2)) aNil)))) (eLst (aCons (eC (.str "refused")) aNil)))) sNil)
    (sSeq (sSet 5 (eCall m__law_next (aCons (eVar 1) (aCons (eC (.int 4)) aNil))))
    (sSeq (sSet 6 (eLst (aCons (eLst aNil) aNil)))
    (sSeq (sFor (iRg1 (aCons (eVar 5) aNil)) (tName 7) (sSeq (sSet 10 (eLstC aNil))
    (sSeq (sFor (iAnyD (eVar 6)) (tName 11) (sFor (iRg1 (aCons (eVar 3) aNil)) (tName 12) (sDrop (eMt (oAppend n0) (eVar 10) (aCons (eOp oPlus (eVar 11) (eLst (aCons (eVar 12) aNil))) aNil)))))
    (sSet 6 (eFrz (eVar 10))))))
    (sSeq (sSet 8 (eB oLen (aCons (eComp (iAnyD (eVar 6)) (tName 11) (eTest (eCall m__law_taken (aCons (eVar 2) (aCons (eVar 11) aNil)))) (eVar 11) [11]) aNil)))
    (sSeq (sIf (eOr (eTest (eOp oNe (eCall m__law_count (aCons (eVar 2) (aCons (eVar 3) (aCons (eVar 5) aNil)))) (eLst (aCons (eC (.str "told")) (aCons (eVar 8) aNil))))) (eTest (eOp oNe (eCall m__law_due (aCons (eVar 4) (aCons (eVar 5) aNil))) (eVar 8)))) (sRet (eC (.bl false))) sNil)
    (sSeq (sSet 5 (eCall m__law_next (aCons (eVar 1) (aCons (eC (.int 31)) aNil))))
    (sSeq (sSet 9 (eCall m__law_count (aCons (eVar 2) (aCons (eVar 3) (aCons (eVar 5) aNil)))))
    (sSeq (sIf (eTest (eOp oNe (eVar 9) (eLst (aCons (eC (.str "told")) (aCons (eCall m__law_due (aCons (eVar 4) (aCons (eVar 5) aNil))) aNil))))) (sRet (eC (.bl false))) sNil)
    (sRet (eAndV (eIsi "int" (eOp oIx (eVar 9) (eC (.int 1)))) (eNotV (eIsi "bool" (eOp oIx (eVar 9) (eC (.int 1))))))))))))))))))))
noncomputable def m_law : Fd := runD 13 b_law
theorem sc_law : FnScope ["_law_script", "_law_box_here", "_law_lines_here", "_law_letters", "_law_reader_here", "_law_size", "_law_row", "_law_k", "_law_due_here", "_law_told", "_law_longer", "_law_word", "_law_letter"] ["_law_script"] (defScope s_law) := ⟨rfl, rfl, rfl, by decide +kernel, rfl, by decide +kernel, by decide +kernel⟩
theorem df_law {f : Addr} {fd : FuncData} (Z : Zs mg) (T : Fun K "law" "law" s_law f fd) (D__law_box : Df P w K mg base C 2 "_law_box" 1 m__law_box) (D__law_lines : Df P w K mg base C 2 "_law_lines" 2 m__law_lines) (D__law_next : Df P w K mg base C 1 "_law_next" 2 m__law_next) (D__law_reader : Df P w K mg base C 3 "_law_reader" 2 m__law_reader) (D__law_count : Df P w K mg base C 6 "_law_count" 3 m__law_count) (D__law_taken : Df P w K mg base C 2 "_law_taken" 2 m__law_taken) (D__law_due : Df P w K mg base C 1 "_law_due" 2 m__law_due) : FnOk P w K mg base CX0 7 f fd ["_law_script"] (spD ⟨K, C⟩ 1 m_law) := by
  obtain ⟨f__law_box, fd__law_box, ps__law_box, F__law_box, g__law_box, k__law_box, b__law_box⟩ := D__law_box.ex
  obtain ⟨f__law_lines, fd__law_lines, ps__law_lines, F__law_lines, g__law_lines, k__law_lines, b__law_lines⟩ := D__law_lines.ex
  obtain ⟨f__law_next, fd__law_next, ps__law_next, F__law_next, g__law_next, k__law_next, b__law_next⟩ := D__law_next.ex
  obtain ⟨f__law_reader, fd__law_reader, ps__law_reader, F__law_reader, g__law_reader, k__law_reader, b__law_reader⟩ := D__law_reader.ex
  obtain ⟨f__law_count, fd__law_count, ps__law_count, F__law_count, g__law_count, k__law_count, b__law_count⟩ := D__law_count.ex
  obtain ⟨f__law_taken, fd__law_taken, ps__law_taken, F__law_taken, g__law_taken, k__law_taken, b__law_taken⟩ := D__law_taken.ex
  obtain ⟨f__law_due, fd__law_due, ps__law_due, F__law_due, g__law_due, k__law_due, b__law_due⟩ := D__law_due.ex
  refine fnD_of (N := ["_law_script", "_law_box_here", "_law_lines_here", "_law_letters", "_law_reader_here", "_law_size", "_law_row", "_law_k", "_law_due_here", "_law_told", "_law_longer", "_law_word", "_law_letter"]) (ps := ["_law_script"]) (n := 1) (k := 6) (body := b_law) T sc_law rfl (by decide) fun X A s H E outer cdv hX hr => ?_
  subst hX
  have nd := sc_law.nd
  exact ⟨_, (pss_cons (ps_set (i := 1) nd rfl (Or.inl rfl) (pe_call F__law_box (hr.mono (by decide)) (by rfl) g__law_box k__law_box b__law_box .nil pass0 (pa_cons (pv 0) pa_nil)))
      (pss_cons (ps_set (i := 2) nd rfl (Or.inr rfl) (pe_call F__law_lines (hr.mono (by decide)) (by rfl) g__law_lines k__law_lines b__law_lines .nil pass0 (pa_cons (pv 1) (pa_cons (pe_op op_plus pe_int (pe_call F__law_next (hr.mono (by decide)) (by rfl) g__law_next k__law_next b__law_next .nil pass0 (pa_cons (pv 1) (pa_cons pe_int pa_nil)))) pa_nil))))
      (pss_cons (ps_set (i := 3) nd rfl (Or.inl rfl) (pe_op op_plus pe_int (pe_call F__law_next (hr.mono (by decide)) (by rfl) g__law_next k__law_next b__law_next .nil pass0 (pa_cons (pv 1) (pa_cons pe_int pa_nil)))))
      (pss_cons (ps_set (i := 4) nd rfl (Or.inl rfl) (pe_call F__law_reader (hr.mono (by decide)) (by rfl) g__law_reader k__law_reader b__law_reader .nil pass0 (pa_cons (pv 2) (pa_cons (pv 3) pa_nil))))
      (pss_cons (ps_if (pt_cmpR op_isN (pv 4) pe_non (nomark _)) (pss_one (ps_ret (pe_cmpR (op_eqD hr.units) (pe_call F__law_count (hr.mono (by decide)) (by rfl) g__law_count k__law_count b__law_count .nil pass0 (pa_cons (pv 2) (pa_cons (pv 3) (pa_cons pe_int pa_nil)))) (pe_lst (pa_cons pe_str pa_nil)) (nomark _)))) pss_nil)
      (pss_cons (ps_set (i := 5) nd rfl (Or.inl rfl) (pe_call F__law_next (hr.mono (by decide)) (by rfl) g__law_next k__law_next b__law_next .nil pass0 (pa_cons (pv 1) (pa_cons pe_int pa_nil))))
      (pss_cons (ps_set (i := 6) nd rfl (Or.inl rfl) (pe_lst (pa_cons (pe_lst pa_nil) pa_nil)))
      (pss_cons (ps_for PassesOwn.never rfl (pi_range1 (by rfl) Z.range_ (pa_cons (pv 5) pa_nil)) (pg_name (i := 7) nd rfl (by first | exact Or.inl rfl | exact Or.inr rfl)) (pss_cons (ps_set (i := 10) nd rfl (Or.inl rfl) (pe_lst pa_nil))
      (pss_cons (ps_for PassesOwn.never rfl (pi_any (pv 6)) (pg_name (i := 11) nd rfl (by first | exact Or.inl rfl | exact Or.inr rfl)) (pss_one (ps_for PassesOwn.never rfl (pi_range1 (by rfl) Z.range_ (pa_cons (pv 3) pa_nil)) (pg_name (i := 12) nd rfl (by first | exact Or.inl rfl | exact Or.inr rfl)) (pss_one (ps_expr (pe_bm PySem.F.plainAttrs_list PySem.F.slot_list_append PySem.F.type_list_append mt_append (pv 10) (pa_cons (pe_op op_plus (pv 11) (pe_lst (pa_cons (pv 12) pa_nil))) pa_nil)))))))
      (pss_one (ps_set (i := 6) nd rfl (Or.inl rfl) (pv 10))))))
      (pss_cons (ps_set (i := 8) nd rfl (Or.inl rfl) (pe_callB call_lenA (by rfl) Z.len_ (by decide +kernel) (pa_cons (pe_lc (own := ([("_law_word", 11)] : List (Str × Nat))) (g := (gName 11)) (tt := (tB (tCall (spD ⟨K, C⟩ 2 m__law_taken) [] E0 (tCons (tVar 2) (tCons (tVar 11) tNil))))) (te := (tVar 11)) rfl nd (pi_any (pv 6)) (blkOk_by (by first | decide +kernel | rfl)) (fun _ _ _ _ _ => (pg_name (i := 11) nd rfl (by first | exact Or.inl rfl | exact Or.inr rfl))) (fun _ _ _ _ _ => (pts_one (pt_val (pe_call F__law_taken (hr.mono (by decide)) (by rfl) g__law_taken k__law_taken b__law_taken .nil pass0 (pa_cons (pv 2) (pa_cons (pv 11) pa_nil)))))) (fun _ _ _ _ _ => (pv 11))) pa_nil)))
      (pss_cons (ps_if (PW.pt (pw_or (pt_cmpR (op_neD hr.units) (pe_call F__law_count (hr.mono (by decide)) (by rfl) g__law_count k__law_count b__law_count .nil pass0 (pa_cons (pv 2) (pa_cons (pv 3) (pa_cons (pv 5) pa_nil)))) (pe_lst (pa_cons pe_str (pa_cons (pv 8) pa_nil))) (nomark _)) (pw_or1 (pt_cmpR (op_neD hr.units) (pe_call F__law_due (hr.mono (by decide)) (by rfl) g__law_due k__law_due b__law_due .nil pass0 (pa_cons (pv 4) (pa_cons (pv 5) pa_nil))) (pv 8) (nomark _))))) (pss_one (ps_ret pe_bl)) pss_nil)
      (pss_cons (ps_set (i := 5) nd rfl (Or.inl rfl) (pe_call F__law_next (hr.mono (by decide)) (by rfl) g__law_next k__law_next b__law_next .nil pass0 (pa_cons (pv 1) (pa_cons pe_int pa_nil))))
      (pss_cons (ps_set (i := 9) nd rfl (Or.inl rfl) (pe_call F__law_count (hr.mono (by decide)) (by rfl) g__law_count k__law_count b__law_count .nil pass0 (pa_cons (pv 2) (pa_cons (pv 3) (pa_cons (pv 5) pa_nil)))))
      (pss_cons (ps_if (pt_cmpR (op_neD hr.units) (pv 9) (pe_lst (pa_cons pe_str (pa_cons (pe_call F__law_due (hr.mono (by decide)) (by rfl) g__law_due k__law_due b__law_due .nil pass0 (pa_cons (pv 4) (pa_cons (pv 5) pa_nil))) pa_nil))) (nomark _)) (pss_one (ps_ret pe_bl)) pss_nil)
      (pss_one (ps_ret (pe_and (pe_callB call_isi (by rfl) Z.isinstance_ (by decide +kernel) (pa_cons (pe_ix ix_seq (pv 9) pe_int (fun _ _ => rfl)) (pa_cons (pe_bltn (v := .ty "int") (by rfl) Z.int_ (by decide +kernel) rfl) pa_nil))) (pe_one (pe_not (pe_callB call_isi (by rfl) Z.isinstance_ (by decide +kernel) (pa_cons (pe_ix ix_seq (pv 9) pe_int (fun _ _ => rfl)) (pa_cons (pe_bltn (v := .ty "bool") (by rfl) Z.bool_ (by decide +kernel) rfl) pa_nil))))))))))))))))))))),
    fun n0 => (ds_seq (ds_set (i := 1) (de_call (n := 1) (m := m__law_box) (da_cons (de_var (i := 0)) da_nil) (argN_cons argN_nil)))
      (ds_seq (ds_set (i := 2) (de_call (n := 2) (m := m__law_lines) (da_cons (de_var (i := 1)) (da_cons (de_op dr_plus (de_c (d := .int 1) (v := .int 1) (fun _ => rfl)) (de_call (n := 2) (m := m__law_next) (da_cons (de_var (i := 1)) (da_cons (de_c (d := .int 6) (v := .int 6) (fun _ => rfl)) da_nil)) (argN_cons (argN_cons argN_nil)))) da_nil)) (argN_cons (argN_cons argN_nil))))
      (ds_seq (ds_set (i := 3) (de_op dr_plus (de_c (d := .int 1) (v := .int 1) (fun _ => rfl)) (de_call (n := 2) (m := m__law_next) (da_cons (de_var (i := 1)) (da_cons (de_c (d := .int 3) (v := .int 3) (fun _ => rfl)) da_nil)) (argN_cons (argN_cons argN_nil)))))
      (ds_seq (ds_set (i := 4) (de_call (n := 2) (m := m__law_reader) (da_cons (de_var (i := 2)) (da_cons (de_var (i := 3)) da_nil)) (argN_cons (argN_cons argN_nil))))
      (ds_seq (ds_if (dt_test (de_op dr_isN (de_var (i := 4)) (de_c (d := .non) (v := .non) (fun _ => rfl)))) (ds_ret (de_op dr_eq (de_call (n := 3) (m := m__law_count) (da_cons (de_var (i := 2)) (da_cons (de_var (i := 3)) (da_cons (de_c (d := .int 2) (v := .int 2) (fun _ => rfl)) da_nil))) (argN_cons (argN_cons (argN_cons argN_nil)))) (de_lst (da_cons (de_c (d := .str "refused") (v := .str "refused") (fun _ => rfl)) da_nil)))) ds_next)
      (ds_seq (ds_set (i := 5) (de_call (n := 2) (m := m__law_next) (da_cons (de_var (i := 1)) (da_cons (de_c (d := .int 4) (v := .int 4) (fun _ => rfl)) da_nil)) (argN_cons (argN_cons argN_nil))))
      (ds_seq (ds_set (i := 6) (de_lst (da_cons (de_lst da_nil) da_nil)))
      (ds_seq (ds_for (di_rg1 (da_cons (de_var (i := 5)) da_nil)) dg_name (ds_seq (ds_set (i := 10) (de_lstC da_nil))
      (ds_seq (ds_for (di_any (de_var (i := 6))) dg_name (ds_for (di_rg1 (da_cons (de_var (i := 3)) da_nil)) dg_name (ds_drop (de_mt dm_append (de_var (i := 10)) (da_cons (de_op dr_plus (de_var (i := 11)) (de_lst (da_cons (de_var (i := 12)) da_nil))) da_nil)))))
      (ds_set (i := 6) (de_frz (de_var (i := 10)))))))
      (ds_seq (ds_set (i := 8) (de_b drn_len (da_cons (de_comp (di_any (de_var (i := 6))) dg_name own_name mono_name (dt_val (de_call (n := 2) (m := m__law_taken) (da_cons (de_var (i := 2)) (da_cons (de_var (i := 11)) da_nil)) (argN_cons (argN_cons argN_nil)))) (de_var (i := 11))) da_nil)))
      (ds_seq (ds_if (dt_or (dt_test (de_op dr_ne (de_call (n := 3) (m := m__law_count) (da_cons (de_var (i := 2)) (da_cons (de_var (i := 3)) (da_cons (de_var (i := 5)) da_nil))) (argN_cons (argN_cons (argN_cons argN_nil)))) (de_lst (da_cons (de_c (d := .str "told") (v := .str "told") (fun _ => rfl)) (da_cons (de_var (i := 8)) da_nil))))) (dt_test (de_op dr_ne (de_call (n := 2) (m := m__law_due) (da_cons (de_var (i := 4)) (da_cons (de_var (i := 5)) da_nil)) (argN_cons (argN_cons argN_nil))) (de_var (i := 8))))) (ds_ret (de_c (d := .bl false) (v := .bl false) (fun _ => rfl))) ds_next)
      (ds_seq (ds_set (i := 5) (de_call (n := 2) (m := m__law_next) (da_cons (de_var (i := 1)) (da_cons (de_c (d := .int 31) (v := .int 31) (fun _ => rfl)) da_nil)) (argN_cons (argN_cons argN_nil))))
      (ds_seq (ds_set (i := 9) (de_call (n := 3) (m := m__law_count) (da_cons (de_var (i := 2)) (da_cons (de_var (i := 3)) (da_cons (de_var (i := 5)) da_nil))) (argN_cons (argN_cons (argN_cons argN_nil)))))
      (ds_seq (ds_if (dt_test (de_op dr_ne (de_var (i := 9)) (de_lst (da_cons (de_c (d := .str "told") (v := .str "told") (fun _ => rfl)) (da_cons (de_call (n := 2) (m := m__law_due) (da_cons (de_var (i := 4)) (da_cons (de_var (i := 5)) da_nil)) (argN_cons (argN_cons argN_nil))) da_nil))))) (ds_ret (de_c (d := .bl false) (v := .bl false) (fun _ => rfl))) ds_next)
      (ds_ret (de_andV (de_isi (T := "int") (de_op dr_ix (de_var (i := 9)) (de_c (d := .int 1) (v := .int 1) (fun _ => rfl)))) (de_notV (de_isi (T := "bool") (de_op dr_ix (de_var (i := 9)) (de_c (d := .int 1) (v := .int 1) (fun _ => rfl))))))))))))))))))))⟩
end
theorem all_mk {l : PySem.W.OpenLaw} {w : World} {K : PySem.W.Frag} {h : Heap} {mg : Str → Option Value} {fa : Addr} (math : ∀ ns : List Int, ns.length ≤ 63 → ∃ μ, m_law [.scr (ns.map D.int)] [] = some (.ok (.bl true) μ)) (X : K.In h) (G : h.Ns mainGlobals mg) (hfa : mg "law" = some (.ref fa))
    (tabs : ∀ x ∈ (["joined", "count_taken"] : List Str), ∀ c P, PySem.W.tabIn K x = some (c, P) → PySem.W.CodeHd h c P ∧ h.get? P = some { cls := .none, data := .fields #[] })
    {f0 : Addr} {od0 an0 : Option Addr} {sl0 : Array (Option Value)} {oc0 kV0 dc0 pm0 ct0 : Value} {cd0 : Value}
    {f1 : Addr} {od1 an1 : Option Addr} {sl1 : Array (Option Value)} {oc1 kV1 dc1 pm1 ct1 : Value} {cd1 : Value}
    {f2 : Addr} {od2 an2 : Option Addr} {sl2 : Array (Option Value)} {oc2 kV2 dc2 pm2 ct2 : Value} {cd2 : Value}
    {f3 : Addr} {od3 an3 : Option Addr} {sl3 : Array (Option Value)} {oc3 kV3 dc3 pm3 ct3 : Value} {cd3 : Value}
    {f4 : Addr} {od4 an4 : Option Addr} {sl4 : Array (Option Value)} {oc4 kV4 dc4 pm4 ct4 : Value} {cd4 : Value}
    {f5 : Addr} {od5 an5 : Option Addr} {sl5 : Array (Option Value)} {oc5 kV5 dc5 pm5 ct5 : Value} {cd5 : Value}
    {f6 : Addr} {od6 an6 : Option Addr} {sl6 : Array (Option Value)} {oc6 kV6 dc6 pm6 ct6 : Value} {cd6 : Value}
    {f7 : Addr} {od7 an7 : Option Addr} {sl7 : Array (Option Value)} {oc7 kV7 dc7 pm7 ct7 : Value} {cd7 : Value}
    {f8 : Addr} {od8 an8 : Option Addr} {sl8 : Array (Option Value)} {oc8 kV8 dc8 pm8 ct8 : Value} {cd8 : Value}
    {f9 : Addr} {od9 an9 : Option Addr} {sl9 : Array (Option Value)} {oc9 kV9 dc9 pm9 ct9 : Value} {cd9 : Value}
    {f10 : Addr} {od10 an10 : Option Addr} {sl10 : Array (Option Value)} {oc10 kV10 dc10 pm10 ct10 : Value} {cd10 : Value}
    {f11 : Addr} {od11 an11 : Option Addr} {sl11 : Array (Option Value)} {oc11 kV11 dc11 pm11 ct11 : Value} {cd11 : Value}
    {f12 : Addr} {od12 an12 : Option Addr} {sl12 : Array (Option Value)} {oc12 kV12 dc12 pm12 ct12 : Value} {cd12 : Value}
    {f13 : Addr} {od13 an13 : Option Addr} {sl13 : Array (Option Value)} {oc13 kV13 dc13 pm13 ct13 : Value} {cc13 P13 : Addr} {ec13 : Value} {dd13 : Option Addr} {vs13 : Array Value} {sm13 : Array (Option Value)}
    {f14 : Addr} {od14 an14 : Option Addr} {sl14 : Array (Option Value)} {oc14 kV14 dc14 pm14 ct14 : Value} {cd14 : Value}
    {f15 : Addr} {od15 an15 : Option Addr} {sl15 : Array (Option Value)} {oc15 kV15 dc15 pm15 ct15 : Value} {cd15 : Value}
    {f16 : Addr} {od16 an16 : Option Addr} {sl16 : Array (Option Value)} {oc16 kV16 dc16 pm16 ct16 : Value} {cd16 : Value}
    {f17 : Addr} {od17 an17 : Option Addr} {sl17 : Array (Option Value)} {oc17 kV17 dc17 pm17 ct17 : Value} {cc17 P17 : Addr} {ec17 : Value} {dd17 : Option Addr} {vs17 : Array Value} {sm17 : Array (Option Value)}
    {f18 : Addr} {od18 an18 : Option Addr} {sl18 : Array (Option Value)} {oc18 kV18 dc18 pm18 ct18 : Value} {cd18 : Value}
    {f19 : Addr} {od19 an19 : Option Addr} {sl19 : Array (Option Value)} {oc19 kV19 dc19 pm19 ct19 : Value} {cd19 : Value}
    {f20 : Addr} {od20 an20 : Option Addr} {sl20 : Array (Option Value)} {oc20 kV20 dc20 pm20 ct20 : Value} {cd20 : Value}
    {f21 : Addr} {od21 an21 : Option Addr} {sl21 : Array (Option Value)} {oc21 kV21 dc21 pm21 ct21 : Value} {cd21 : Value}
    {f22 : Addr} {od22 an22 : Option Addr} {sl22 : Array (Option Value)} {oc22 kV22 dc22 pm22 ct22 : Value} {cd22 : Value}
    {a_TooManyStates : Addr}
    (a0 : PySem.W.nsIn K mainGlobals "_law_draws" = some (some (.ref f0))) (l0 : K.lookup f0 = some ⟨oc0, od0, .func (PySem.W.fnOf "_law_draws" "_law_draws" (defArgs s__law_draws) (defBody s__law_draws) (defScope s__law_draws) .none kV0 dc0 pm0 an0 cd0 ct0), sl0⟩) (c0 : PySem.W.codeIn K cd0 "_law_draws" = true) (k0 : PySem.W.keepIn K (.ref f0) = true)
    (a1 : PySem.W.nsIn K mainGlobals "_law_box" = some (some (.ref f1))) (l1 : K.lookup f1 = some ⟨oc1, od1, .func (PySem.W.fnOf "_law_box" "_law_box" (defArgs s__law_box) (defBody s__law_box) (defScope s__law_box) .none kV1 dc1 pm1 an1 cd1 ct1), sl1⟩) (c1 : PySem.W.codeIn K cd1 "_law_box" = true) (k1 : PySem.W.keepIn K (.ref f1) = true)
    (a2 : PySem.W.nsIn K mainGlobals "_law_next" = some (some (.ref f2))) (l2 : K.lookup f2 = some ⟨oc2, od2, .func (PySem.W.fnOf "_law_next" "_law_next" (defArgs s__law_next) (defBody s__law_next) (defScope s__law_next) .none kV2 dc2 pm2 an2 cd2 ct2), sl2⟩) (c2 : PySem.W.codeIn K cd2 "_law_next" = true) (k2 : PySem.W.keepIn K (.ref f2) = true)
    (a3 : PySem.W.nsIn K mainGlobals "_law_lines" = some (some (.ref f3))) (l3 : K.lookup f3 = some ⟨oc3, od3, .func (PySem.W.fnOf "_law_lines" "_law_lines" (defArgs s__law_lines) (defBody s__law_lines) (defScope s__law_lines) .none kV3 dc3 pm3 an3 cd3 ct3), sl3⟩) (c3 : PySem.W.codeIn K cd3 "_law_lines" = true) (k3 : PySem.W.keepIn K (.ref f3) = true)
    (a4 : PySem.W.nsIn K mainGlobals "_law_after" = some (some (.ref f4))) (l4 : K.lookup f4 = some ⟨oc4, od4, .func (PySem.W.fnOf "_law_after" "_law_after" (defArgs s__law_after) (defBody s__law_after) (defScope s__law_after) .none kV4 dc4 pm4 an4 cd4 ct4), sl4⟩) (c4 : PySem.W.codeIn K cd4 "_law_after" = true) (k4 : PySem.W.keepIn K (.ref f4) = true)
    (a5 : PySem.W.nsIn K mainGlobals "_law_joined" = some (some (.ref f5))) (l5 : K.lookup f5 = some ⟨oc5, od5, .func (PySem.W.fnOf "_law_joined" "_law_joined" (defArgs s__law_joined) (defBody s__law_joined) (defScope s__law_joined) .none kV5 dc5 pm5 an5 cd5 ct5), sl5⟩) (c5 : PySem.W.codeIn K cd5 "_law_joined" = true) (k5 : PySem.W.keepIn K (.ref f5) = true)
    (a6 : PySem.W.nsIn K mainGlobals "_law_atom" = some (some (.ref f6))) (l6 : K.lookup f6 = some ⟨oc6, od6, .func (PySem.W.fnOf "_law_atom" "_law_atom" (defArgs s__law_atom) (defBody s__law_atom) (defScope s__law_atom) .none kV6 dc6 pm6 an6 cd6 ct6), sl6⟩) (c6 : PySem.W.codeIn K cd6 "_law_atom" = true) (k6 : PySem.W.keepIn K (.ref f6) = true)
    (a7 : PySem.W.nsIn K mainGlobals "_law_reader" = some (some (.ref f7))) (l7 : K.lookup f7 = some ⟨oc7, od7, .func (PySem.W.fnOf "_law_reader" "_law_reader" (defArgs s__law_reader) (defBody s__law_reader) (defScope s__law_reader) .none kV7 dc7 pm7 an7 cd7 ct7), sl7⟩) (c7 : PySem.W.codeIn K cd7 "_law_reader" = true) (k7 : PySem.W.keepIn K (.ref f7) = true)
    (a8 : PySem.W.nsIn K mainGlobals "line_is_valid" = some (some (.ref f8))) (l8 : K.lookup f8 = some ⟨oc8, od8, .func (PySem.W.fnOf "line_is_valid" "line_is_valid" (defArgs s_line_is_valid) (defBody s_line_is_valid) (defScope s_line_is_valid) .none kV8 dc8 pm8 an8 cd8 ct8), sl8⟩) (c8 : PySem.W.codeIn K cd8 "line_is_valid" = true) (k8 : PySem.W.keepIn K (.ref f8) = true)
    (a9 : PySem.W.nsIn K mainGlobals "filter_fault" = some (some (.ref f9))) (l9 : K.lookup f9 = some ⟨oc9, od9, .func (PySem.W.fnOf "filter_fault" "filter_fault" (defArgs s_filter_fault) (defBody s_filter_fault) (defScope s_filter_fault) .none kV9 dc9 pm9 an9 cd9 ct9), sl9⟩) (c9 : PySem.W.codeIn K cd9 "filter_fault" = true) (k9 : PySem.W.keepIn K (.ref f9) = true)
    (a10 : PySem.W.nsIn K mainGlobals "check_filter" = some (some (.ref f10))) (l10 : K.lookup f10 = some ⟨oc10, od10, .func (PySem.W.fnOf "check_filter" "check_filter" (defArgs s_check_filter) (defBody s_check_filter) (defScope s_check_filter) .none kV10 dc10 pm10 an10 cd10 ct10), sl10⟩) (c10 : PySem.W.codeIn K cd10 "check_filter" = true) (k10 : PySem.W.keepIn K (.ref f10) = true)
    (a11 : PySem.W.nsIn K mainGlobals "step_or" = some (some (.ref f11))) (l11 : K.lookup f11 = some ⟨oc11, od11, .func (PySem.W.fnOf "step_or" "step_or" (defArgs s_step_or) (defBody s_step_or) (defScope s_step_or) .none kV11 dc11 pm11 an11 cd11 ct11), sl11⟩) (c11 : PySem.W.codeIn K cd11 "step_or" = true) (k11 : PySem.W.keepIn K (.ref f11) = true)
    (a12 : PySem.W.nsIn K mainGlobals "step_behind" = some (some (.ref f12))) (l12 : K.lookup f12 = some ⟨oc12, od12, .func (PySem.W.fnOf "step_behind" "step_behind" (defArgs s_step_behind) (defBody s_step_behind) (defScope s_step_behind) .none kV12 dc12 pm12 an12 cd12 ct12), sl12⟩) (c12 : PySem.W.codeIn K cd12 "step_behind" = true) (k12 : PySem.W.keepIn K (.ref f12) = true)
    (a13 : PySem.W.nsIn K mainGlobals "joined" = some (some (.ref f13))) (l13 : K.lookup f13 = some ⟨oc13, od13, .func (PySem.W.fnOf "joined" "joined" (defArgs s_joined) (defBody s_joined) (defScope s_joined) .none kV13 dc13 pm13 an13 (.ref cc13) ct13), sl13⟩) (c13 : PySem.W.codeIn K (.ref cc13) "joined" = true) (k13 : PySem.W.keepIn K (.ref f13) = true) (q13 : K.lookup cc13 = some ⟨ec13, dd13, .fields vs13, sm13⟩) (p13 : vs13[11]? = some (.ref P13)) (r13 : K.lookup P13 = none)
    (a14 : PySem.W.nsIn K mainGlobals "simple_reader" = some (some (.ref f14))) (l14 : K.lookup f14 = some ⟨oc14, od14, .func (PySem.W.fnOf "simple_reader" "simple_reader" (defArgs s_simple_reader) (defBody s_simple_reader) (defScope s_simple_reader) .none kV14 dc14 pm14 an14 cd14 ct14), sl14⟩) (c14 : PySem.W.codeIn K cd14 "simple_reader" = true) (k14 : PySem.W.keepIn K (.ref f14) = true)
    (a15 : PySem.W.nsIn K mainGlobals "readers_of" = some (some (.ref f15))) (l15 : K.lookup f15 = some ⟨oc15, od15, .func (PySem.W.fnOf "readers_of" "readers_of" (defArgs s_readers_of) (defBody s_readers_of) (defScope s_readers_of) .none kV15 dc15 pm15 an15 cd15 ct15), sl15⟩) (c15 : PySem.W.codeIn K cd15 "readers_of" = true) (k15 : PySem.W.keepIn K (.ref f15) = true)
    (a16 : PySem.W.nsIn K mainGlobals "reader_of" = some (some (.ref f16))) (l16 : K.lookup f16 = some ⟨oc16, od16, .func (PySem.W.fnOf "reader_of" "reader_of" (defArgs s_reader_of) (defBody s_reader_of) (defScope s_reader_of) .none kV16 dc16 pm16 an16 cd16 ct16), sl16⟩) (c16 : PySem.W.codeIn K cd16 "reader_of" = true) (k16 : PySem.W.keepIn K (.ref f16) = true)
    (a17 : PySem.W.nsIn K mainGlobals "count_taken" = some (some (.ref f17))) (l17 : K.lookup f17 = some ⟨oc17, od17, .func (PySem.W.fnOf "count_taken" "count_taken" (defArgs s_count_taken) (defBody s_count_taken) (defScope s_count_taken) .none kV17 dc17 pm17 an17 (.ref cc17) ct17), sl17⟩) (c17 : PySem.W.codeIn K (.ref cc17) "count_taken" = true) (k17 : PySem.W.keepIn K (.ref f17) = true) (q17 : K.lookup cc17 = some ⟨ec17, dd17, .fields vs17, sm17⟩) (p17 : vs17[11]? = some (.ref P17)) (r17 : K.lookup P17 = none)
    (a18 : PySem.W.nsIn K mainGlobals "_law_count" = some (some (.ref f18))) (l18 : K.lookup f18 = some ⟨oc18, od18, .func (PySem.W.fnOf "_law_count" "_law_count" (defArgs s__law_count) (defBody s__law_count) (defScope s__law_count) .none kV18 dc18 pm18 an18 cd18 ct18), sl18⟩) (c18 : PySem.W.codeIn K cd18 "_law_count" = true) (k18 : PySem.W.keepIn K (.ref f18) = true)
    (a19 : PySem.W.nsIn K mainGlobals "_law_due" = some (some (.ref f19))) (l19 : K.lookup f19 = some ⟨oc19, od19, .func (PySem.W.fnOf "_law_due" "_law_due" (defArgs s__law_due) (defBody s__law_due) (defScope s__law_due) .none kV19 dc19 pm19 an19 cd19 ct19), sl19⟩) (c19 : PySem.W.codeIn K cd19 "_law_due" = true) (k19 : PySem.W.keepIn K (.ref f19) = true)
    (a20 : PySem.W.nsIn K mainGlobals "_law_spans" = some (some (.ref f20))) (l20 : K.lookup f20 = some ⟨oc20, od20, .func (PySem.W.fnOf "_law_spans" "_law_spans" (defArgs s__law_spans) (defBody s__law_spans) (defScope s__law_spans) .none kV20 dc20 pm20 an20 cd20 ct20), sl20⟩) (c20 : PySem.W.codeIn K cd20 "_law_spans" = true) (k20 : PySem.W.keepIn K (.ref f20) = true)
    (a21 : PySem.W.nsIn K mainGlobals "_law_taken" = some (some (.ref f21))) (l21 : K.lookup f21 = some ⟨oc21, od21, .func (PySem.W.fnOf "_law_taken" "_law_taken" (defArgs s__law_taken) (defBody s__law_taken) (defScope s__law_taken) .none kV21 dc21 pm21 an21 cd21 ct21), sl21⟩) (c21 : PySem.W.codeIn K cd21 "_law_taken" = true) (k21 : PySem.W.keepIn K (.ref f21) = true)
    (a22 : PySem.W.nsIn K mainGlobals "law" = some (some (.ref f22))) (l22 : K.lookup f22 = some ⟨oc22, od22, .func (PySem.W.fnOf "law" "law" (defArgs s_law) (defBody s_law) (defScope s_law) .none kV22 dc22 pm22 an22 cd22 ct22), sl22⟩) (c22 : PySem.W.codeIn K cd22 "law" = true) (k22 : PySem.W.keepIn K (.ref f22) = true)
    (xa_TooManyStates : PySem.W.nsIn K mainGlobals "TooManyStates" = some (some (.ref a_TooManyStates)))
    (xx_TooManyStates : PySem.W.excIn K a_TooManyStates [.type "ValueError", .type "Exception", .type "BaseException", .type "object"] "ValueError.__new__" = true)
    (xk_TooManyStates : PySem.W.keepIn K (.ref a_TooManyStates) = true)
    (xe1_TooManyStates : PySem.W.findIn K (.ref a_TooManyStates) "__getattribute__" = some (some (.builtin "BaseException.__getattribute__")))
    (xe2_TooManyStates : PySem.W.findIn K (.ref a_TooManyStates) "__getattr__" = some none)
    (xe5_TooManyStates : PySem.W.findIn K (.ref a_TooManyStates) "__class__" = some (some (.builtin "object.__class__")))
    (xe8_TooManyStates : PySem.W.mroIn K a_TooManyStates (.type "object") = some true)
    (xb_TooManyStates : PySem.W.subIn K (.ref a_TooManyStates) (.type "BaseException") = some true)
    (xt_TooManyStates : PySem.W.typeIn K (.ref a_TooManyStates) = some (.type "type"))
    (xe4_TooManyStates : PySem.W.hasDictIn K a_TooManyStates = true)
    (xe6 : PySem.W.specialIn K (.builtin "object.__class__") "__get__" = some (some (.builtin "getset_descriptor.__get__")))
    (xe7 : PySem.W.takesIn K (.builtin "object.__class__") = some true)
    (xs_TooManyStates_TooManyStates : PySem.W.subIn K (.ref a_TooManyStates) (.ref a_TooManyStates) = some true)
    (z_any : PySem.W.nsIn K mainGlobals "any" = some none) (z_bool : PySem.W.nsIn K mainGlobals "bool" = some none) (z_enumerate : PySem.W.nsIn K mainGlobals "enumerate" = some none) (z_int : PySem.W.nsIn K mainGlobals "int" = some none) (z_isinstance : PySem.W.nsIn K mainGlobals "isinstance" = some none) (z_len : PySem.W.nsIn K mainGlobals "len" = some none) (z_list : PySem.W.nsIn K mainGlobals "list" = some none) (z_range : PySem.W.nsIn K mainGlobals "range" = some none) (z_sorted : PySem.W.nsIn K mainGlobals "sorted" = some none) (z_sum : PySem.W.nsIn K mainGlobals "sum" = some none) (z_tuple : PySem.W.nsIn K mainGlobals "tuple" = some none)
    {t_MOST_LINES : Tok} (y_MOST_LINES : PySem.W.nsIn K mainGlobals "MOST_LINES" = some (some (.int 300 t_MOST_LINES))) {t_MOST_STATES : Tok} (y_MOST_STATES : PySem.W.nsIn K mainGlobals "MOST_STATES" = some (some (.int 100 t_MOST_STATES))) :
    LamX.LawAtS l w K CX0 7 63 "_law_script" mg fa h := by
  have Z : Zs mg := ⟨PySem.W.mg_none_of X G z_any, PySem.W.mg_none_of X G z_bool, PySem.W.mg_none_of X G z_enumerate, PySem.W.mg_none_of X G z_int, PySem.W.mg_none_of X G z_isinstance, PySem.W.mg_none_of X G z_len, PySem.W.mg_none_of X G z_list, PySem.W.mg_none_of X G z_range, PySem.W.mg_none_of X G z_sorted, PySem.W.mg_none_of X G z_sum, PySem.W.mg_none_of X G z_tuple, ⟨_, PySem.W.mg_of X G y_MOST_LINES, _, rfl⟩, ⟨_, PySem.W.mg_of X G y_MOST_STATES, _, rfl⟩⟩
  have F0 := fun_mk (st := s__law_draws) l0 c0 k0
  have B0 := F0.binds (ps := ["_law_cell", "_law_modulus", "_law_count_here"]) fun _ _ _ _ _ _ us hl => match us, hl with | [_, _, _], _ => rfl
  have T0 : DefAt K mg "_law_draws" s__law_draws ["_law_cell", "_law_modulus", "_law_count_here"] := ⟨_, _, F0, PySem.W.mg_of X G a0, B0⟩
  have F1 := fun_mk (st := s__law_box) l1 c1 k1
  have B1 := F1.binds (ps := ["_law_script"]) fun _ _ _ _ _ _ us hl => match us, hl with | [_], _ => rfl
  have T1 : DefAt K mg "_law_box" s__law_box ["_law_script"] := ⟨_, _, F1, PySem.W.mg_of X G a1, B1⟩
  have F2 := fun_mk (st := s__law_next) l2 c2 k2
  have B2 := F2.binds (ps := ["_law_box_here", "_law_modulus"]) fun _ _ _ _ _ _ us hl => match us, hl with | [_, _], _ => rfl
  have T2 : DefAt K mg "_law_next" s__law_next ["_law_box_here", "_law_modulus"] := ⟨_, _, F2, PySem.W.mg_of X G a2, B2⟩
  have F3 := fun_mk (st := s__law_lines) l3 c3 k3
  have B3 := F3.binds (ps := ["_law_box_here", "_law_size"]) fun _ _ _ _ _ _ us hl => match us, hl with | [_, _], _ => rfl
  have T3 : DefAt K mg "_law_lines" s__law_lines ["_law_box_here", "_law_size"] := ⟨_, _, F3, PySem.W.mg_of X G a3, B3⟩
  have F4 := fun_mk (st := s__law_after) l4 c4 k4
  have B4 := F4.binds (ps := ["_law_kind", "_law_one", "_law_two", "_law_pair", "_law_letter"]) fun _ _ _ _ _ _ us hl => match us, hl with | [_, _, _, _, _], _ => rfl
  have T4 : DefAt K mg "_law_after" s__law_after ["_law_kind", "_law_one", "_law_two", "_law_pair", "_law_letter"] := ⟨_, _, F4, PySem.W.mg_of X G a4, B4⟩
  have F5 := fun_mk (st := s__law_joined) l5 c5 k5
  have B5 := F5.binds (ps := ["_law_kind", "_law_one", "_law_two", "_law_letters"]) fun _ _ _ _ _ _ us hl => match us, hl with | [_, _, _, _], _ => rfl
  have T5 : DefAt K mg "_law_joined" s__law_joined ["_law_kind", "_law_one", "_law_two", "_law_letters"] := ⟨_, _, F5, PySem.W.mg_of X G a5, B5⟩
  have F6 := fun_mk (st := s__law_atom) l6 c6 k6
  have B6 := F6.binds (ps := ["_law_line", "_law_letters"]) fun _ _ _ _ _ _ us hl => match us, hl with | [_, _], _ => rfl
  have T6 : DefAt K mg "_law_atom" s__law_atom ["_law_line", "_law_letters"] := ⟨_, _, F6, PySem.W.mg_of X G a6, B6⟩
  have F7 := fun_mk (st := s__law_reader) l7 c7 k7
  have B7 := F7.binds (ps := ["_law_lines_here", "_law_letters"]) fun _ _ _ _ _ _ us hl => match us, hl with | [_, _], _ => rfl
  have T7 : DefAt K mg "_law_reader" s__law_reader ["_law_lines_here", "_law_letters"] := ⟨_, _, F7, PySem.W.mg_of X G a7, B7⟩
  have F8 := fun_mk (st := s_line_is_valid) l8 c8 k8
  have B8 := F8.binds (ps := ["line", "number"]) fun _ _ _ _ _ _ us hl => match us, hl with | [_, _], _ => rfl
  have T8 : DefAt K mg "line_is_valid" s_line_is_valid ["line", "number"] := ⟨_, _, F8, PySem.W.mg_of X G a8, B8⟩
  have F9 := fun_mk (st := s_filter_fault) l9 c9 k9
  have B9 := F9.binds (ps := ["lines"]) fun _ _ _ _ _ _ us hl => match us, hl with | [_], _ => rfl
  have T9 : DefAt K mg "filter_fault" s_filter_fault ["lines"] := ⟨_, _, F9, PySem.W.mg_of X G a9, B9⟩
  have F10 := fun_mk (st := s_check_filter) l10 c10 k10
  have B10 := F10.binds (ps := ["lines"]) fun _ _ _ _ _ _ us hl => match us, hl with | [_], _ => rfl
  have T10 : DefAt K mg "check_filter" s_check_filter ["lines"] := ⟨_, _, F10, PySem.W.mg_of X G a10, B10⟩
  have F11 := fun_mk (st := s_step_or) l11 c11 k11
  have B11 := F11.binds (ps := ["one", "two", "pair", "letter"]) fun _ _ _ _ _ _ us hl => match us, hl with | [_, _, _, _], _ => rfl
  have T11 : DefAt K mg "step_or" s_step_or ["one", "two", "pair", "letter"] := ⟨_, _, F11, PySem.W.mg_of X G a11, B11⟩
  have F12 := fun_mk (st := s_step_behind) l12 c12 k12
  have B12 := F12.binds (ps := ["one", "two", "pair", "letter"]) fun _ _ _ _ _ _ us hl => match us, hl with | [_, _, _, _], _ => rfl
  have T12 : DefAt K mg "step_behind" s_step_behind ["one", "two", "pair", "letter"] := ⟨_, _, F12, PySem.W.mg_of X G a12, B12⟩
  have F13 := fun_mk (st := s_joined) l13 c13 k13
  have B13 := F13.binds (ps := ["kind", "one", "two", "letters"]) fun _ _ _ _ _ _ us hl => match us, hl with | [_, _, _, _], _ => rfl
  have T13 : DefAtC K mg "joined" s_joined ["kind", "one", "two", "letters"] cc13 := ⟨_, _, _, _, _, _, _, _, _, l13, c13, k13, PySem.W.mg_of X G a13, B13⟩
  have H13 := tabs "joined" (by simp) cc13 P13 (tabIn_mk a13 l13 rfl q13 p13)
  have F14 := fun_mk (st := s_simple_reader) l14 c14 k14
  have B14 := F14.binds (ps := ["line", "letters"]) fun _ _ _ _ _ _ us hl => match us, hl with | [_, _], _ => rfl
  have T14 : DefAt K mg "simple_reader" s_simple_reader ["line", "letters"] := ⟨_, _, F14, PySem.W.mg_of X G a14, B14⟩
  have F15 := fun_mk (st := s_readers_of) l15 c15 k15
  have B15 := F15.binds (ps := ["lines", "letters"]) fun _ _ _ _ _ _ us hl => match us, hl with | [_, _], _ => rfl
  have T15 : DefAt K mg "readers_of" s_readers_of ["lines", "letters"] := ⟨_, _, F15, PySem.W.mg_of X G a15, B15⟩
  have F16 := fun_mk (st := s_reader_of) l16 c16 k16
  have B16 := F16.binds (ps := ["lines", "letters"]) fun _ _ _ _ _ _ us hl => match us, hl with | [_, _], _ => rfl
  have T16 : DefAt K mg "reader_of" s_reader_of ["lines", "letters"] := ⟨_, _, F16, PySem.W.mg_of X G a16, B16⟩
  have F17 := fun_mk (st := s_count_taken) l17 c17 k17
  have B17 := F17.binds (ps := ["lines", "letters", "size"]) fun _ _ _ _ _ _ us hl => match us, hl with | [_, _, _], _ => rfl
  have T17 : DefAtC K mg "count_taken" s_count_taken ["lines", "letters", "size"] cc17 := ⟨_, _, _, _, _, _, _, _, _, l17, c17, k17, PySem.W.mg_of X G a17, B17⟩
  have H17 := tabs "count_taken" (by simp) cc17 P17 (tabIn_mk a17 l17 rfl q17 p17)
  have F18 := fun_mk (st := s__law_count) l18 c18 k18
  have B18 := F18.binds (ps := ["_law_lines_here", "_law_letters", "_law_size"]) fun _ _ _ _ _ _ us hl => match us, hl with | [_, _, _], _ => rfl
  have T18 : DefAt K mg "_law_count" s__law_count ["_law_lines_here", "_law_letters", "_law_size"] := ⟨_, _, F18, PySem.W.mg_of X G a18, B18⟩
  have F19 := fun_mk (st := s__law_due) l19 c19 k19
  have B19 := F19.binds (ps := ["_law_reader_here", "_law_size"]) fun _ _ _ _ _ _ us hl => match us, hl with | [_, _], _ => rfl
  have T19 : DefAt K mg "_law_due" s__law_due ["_law_reader_here", "_law_size"] := ⟨_, _, F19, PySem.W.mg_of X G a19, B19⟩
  have F20 := fun_mk (st := s__law_spans) l20 c20 k20
  have B20 := F20.binds (ps := ["_law_lines_here", "_law_word"]) fun _ _ _ _ _ _ us hl => match us, hl with | [_, _], _ => rfl
  have T20 : DefAt K mg "_law_spans" s__law_spans ["_law_lines_here", "_law_word"] := ⟨_, _, F20, PySem.W.mg_of X G a20, B20⟩
  have F21 := fun_mk (st := s__law_taken) l21 c21 k21
  have B21 := F21.binds (ps := ["_law_lines_here", "_law_word"]) fun _ _ _ _ _ _ us hl => match us, hl with | [_, _], _ => rfl
  have T21 : DefAt K mg "_law_taken" s__law_taken ["_law_lines_here", "_law_word"] := ⟨_, _, F21, PySem.W.mg_of X G a21, B21⟩
  have F22 := fun_mk (st := s_law) l22 c22 k22
  have B22 := F22.binds (ps := ["_law_script"]) fun _ _ _ _ _ _ us hl => match us, hl with | [_], _ => rfl
  have T22 : DefAt K mg "law" s_law ["_law_script"] := ⟨_, _, F22, PySem.W.mg_of X G a22, B22⟩
  have e := hfa.symm.trans (PySem.W.mg_of X G a22)
  cases e
  refine ⟨PySem.W.fnOf "law" "law" (defArgs s_law) (defBody s_law) (defScope s_law) .none kV22 dc22 pm22 an22 cd22 ct22, [(cc13, P13), (cc17, P17)], spLaw K (fun P => ∃ p ∈ ([(cc13, P13), (cc17, P17)] : List (Addr × Addr)), p.2 = P), (List.forall_mem_cons.mpr ⟨H13.2, (List.forall_mem_cons.mpr ⟨H17.2, (List.forall_mem_nil _)⟩)⟩), (List.forall_mem_cons.mpr ⟨r13, (List.forall_mem_cons.mpr ⟨r17, (List.forall_mem_nil _)⟩)⟩), (List.forall_mem_cons.mpr ⟨H13.1, (List.forall_mem_cons.mpr ⟨H17.1, (List.forall_mem_nil _)⟩)⟩), fun s v => .of_eq rfl, fun H a ns hl _ hH hS => ⟨a, ns, rfl, hS, hl, fun P ⟨p, hp, e⟩ => e ▸ hH p hp, fun _ => rfl⟩, fun base hb hn hTB => ?_⟩
  have Q : Es l.prog w K mg base ⟨clsOf [("TooManyStates", .ref a_TooManyStates)], fun P => ∃ p ∈ ([(cc13, P13), (cc17, P17)] : List (Addr × Addr)), p.2 = P, w, fun _ _ => False, fun _ _ => False⟩ a_TooManyStates := ⟨⟨by first | rfl | simp [clsOf], PySem.W.mg_of X G xa_TooManyStates, xx_TooManyStates, xk_TooManyStates, xb_TooManyStates, xt_TooManyStates, ⟨xe1_TooManyStates, xe2_TooManyStates, xb_TooManyStates, xe4_TooManyStates, xe5_TooManyStates, xe6, xe7, xe8_TooManyStates⟩⟩, xs_TooManyStates_TooManyStates⟩
  have D__law_draws : Df l.prog w K mg base ⟨clsOf [("TooManyStates", .ref a_TooManyStates)], fun P => ∃ p ∈ ([(cc13, P13), (cc17, P17)] : List (Addr × Addr)), p.2 = P, w, fun _ _ => False, fun _ _ => False⟩ 1 "_law_draws" 3 m__law_draws := df__law_draws Z T0
  have D__law_box : Df l.prog w K mg base ⟨clsOf [("TooManyStates", .ref a_TooManyStates)], fun P => ∃ p ∈ ([(cc13, P13), (cc17, P17)] : List (Addr × Addr)), p.2 = P, w, fun _ _ => False, fun _ _ => False⟩ 2 "_law_box" 1 m__law_box := df__law_box Z T1 D__law_draws
  have D__law_next : Df l.prog w K mg base ⟨clsOf [("TooManyStates", .ref a_TooManyStates)], fun P => ∃ p ∈ ([(cc13, P13), (cc17, P17)] : List (Addr × Addr)), p.2 = P, w, fun _ _ => False, fun _ _ => False⟩ 1 "_law_next" 2 m__law_next := df__law_next Z T2
  have D__law_lines : Df l.prog w K mg base ⟨clsOf [("TooManyStates", .ref a_TooManyStates)], fun P => ∃ p ∈ ([(cc13, P13), (cc17, P17)] : List (Addr × Addr)), p.2 = P, w, fun _ _ => False, fun _ _ => False⟩ 2 "_law_lines" 2 m__law_lines := df__law_lines Z T3 D__law_next
  have D__law_after : Df l.prog w K mg base ⟨clsOf [("TooManyStates", .ref a_TooManyStates)], fun P => ∃ p ∈ ([(cc13, P13), (cc17, P17)] : List (Addr × Addr)), p.2 = P, w, fun _ _ => False, fun _ _ => False⟩ 1 "_law_after" 5 m__law_after := df__law_after Z T4
  have D__law_joined : Df l.prog w K mg base ⟨clsOf [("TooManyStates", .ref a_TooManyStates)], fun P => ∃ p ∈ ([(cc13, P13), (cc17, P17)] : List (Addr × Addr)), p.2 = P, w, fun _ _ => False, fun _ _ => False⟩ 2 "_law_joined" 4 m__law_joined := df__law_joined Z T5 rfl D__law_after
  have D__law_atom : Df l.prog w K mg base ⟨clsOf [("TooManyStates", .ref a_TooManyStates)], fun P => ∃ p ∈ ([(cc13, P13), (cc17, P17)] : List (Addr × Addr)), p.2 = P, w, fun _ _ => False, fun _ _ => False⟩ 1 "_law_atom" 2 m__law_atom := df__law_atom Z T6
  have D__law_reader : Df l.prog w K mg base ⟨clsOf [("TooManyStates", .ref a_TooManyStates)], fun P => ∃ p ∈ ([(cc13, P13), (cc17, P17)] : List (Addr × Addr)), p.2 = P, w, fun _ _ => False, fun _ _ => False⟩ 3 "_law_reader" 2 m__law_reader := df__law_reader Z T7 D__law_joined D__law_atom
  have D_line_is_valid : Df l.prog w K mg base ⟨clsOf [("TooManyStates", .ref a_TooManyStates)], fun P => ∃ p ∈ ([(cc13, P13), (cc17, P17)] : List (Addr × Addr)), p.2 = P, w, fun _ _ => False, fun _ _ => False⟩ 1 "line_is_valid" 2 m_line_is_valid := df_line_is_valid Z T8
  have D_filter_fault : Df l.prog w K mg base ⟨clsOf [("TooManyStates", .ref a_TooManyStates)], fun P => ∃ p ∈ ([(cc13, P13), (cc17, P17)] : List (Addr × Addr)), p.2 = P, w, fun _ _ => False, fun _ _ => False⟩ 2 "filter_fault" 1 m_filter_fault := df_filter_fault Z T9 D_line_is_valid
  have D_check_filter : Df l.prog w K mg base ⟨clsOf [("TooManyStates", .ref a_TooManyStates)], fun P => ∃ p ∈ ([(cc13, P13), (cc17, P17)] : List (Addr × Addr)), p.2 = P, w, fun _ _ => False, fun _ _ => False⟩ 3 "check_filter" 1 m_check_filter := df_check_filter Z T10 D_filter_fault
  have D_step_or : Df l.prog w K mg base ⟨clsOf [("TooManyStates", .ref a_TooManyStates)], fun P => ∃ p ∈ ([(cc13, P13), (cc17, P17)] : List (Addr × Addr)), p.2 = P, w, fun _ _ => False, fun _ _ => False⟩ 1 "step_or" 4 m_step_or := df_step_or Z T11
  have D_step_behind : Df l.prog w K mg base ⟨clsOf [("TooManyStates", .ref a_TooManyStates)], fun P => ∃ p ∈ ([(cc13, P13), (cc17, P17)] : List (Addr × Addr)), p.2 = P, w, fun _ _ => False, fun _ _ => False⟩ 1 "step_behind" 4 m_step_behind := df_step_behind Z T12 rfl
  have D_joined : DfX l.prog w K mg base ⟨clsOf [("TooManyStates", .ref a_TooManyStates)], fun P => ∃ p ∈ ([(cc13, P13), (cc17, P17)] : List (Addr × Addr)), p.2 = P, w, fun _ _ => False, fun _ _ => False⟩ 2 "joined" 4 m_joined := df_joined Z T13 (tabB_of (hTB (cc13, P13) (by simp))) ⟨(cc13, P13), by simp, rfl⟩ Q D_step_or D_step_behind
  have D_simple_reader : Df l.prog w K mg base ⟨clsOf [("TooManyStates", .ref a_TooManyStates)], fun P => ∃ p ∈ ([(cc13, P13), (cc17, P17)] : List (Addr × Addr)), p.2 = P, w, fun _ _ => False, fun _ _ => False⟩ 1 "simple_reader" 2 m_simple_reader := df_simple_reader Z T14
  have D_readers_of : DfX l.prog w K mg base ⟨clsOf [("TooManyStates", .ref a_TooManyStates)], fun P => ∃ p ∈ ([(cc13, P13), (cc17, P17)] : List (Addr × Addr)), p.2 = P, w, fun _ _ => False, fun _ _ => False⟩ 3 "readers_of" 2 m_readers_of := df_readers_of Z T15 D_joined D_simple_reader
  have D_reader_of : DfX l.prog w K mg base ⟨clsOf [("TooManyStates", .ref a_TooManyStates)], fun P => ∃ p ∈ ([(cc13, P13), (cc17, P17)] : List (Addr × Addr)), p.2 = P, w, fun _ _ => False, fun _ _ => False⟩ 4 "reader_of" 2 m_reader_of := df_reader_of Z T16 D_check_filter D_readers_of
  have D_count_taken : DfX l.prog w K mg base ⟨clsOf [("TooManyStates", .ref a_TooManyStates)], fun P => ∃ p ∈ ([(cc13, P13), (cc17, P17)] : List (Addr × Addr)), p.2 = P, w, fun _ _ => False, fun _ _ => False⟩ 5 "count_taken" 3 m_count_taken := df_count_taken Z T17 (tabB_of (hTB (cc17, P17) (by simp))) ⟨(cc17, P17), by simp, rfl⟩ D_reader_of
  have D__law_count : Df l.prog w K mg base ⟨clsOf [("TooManyStates", .ref a_TooManyStates)], fun P => ∃ p ∈ ([(cc13, P13), (cc17, P17)] : List (Addr × Addr)), p.2 = P, w, fun _ _ => False, fun _ _ => False⟩ 6 "_law_count" 3 m__law_count := df__law_count Z T18 Q D_count_taken
  have D__law_due : Df l.prog w K mg base ⟨clsOf [("TooManyStates", .ref a_TooManyStates)], fun P => ∃ p ∈ ([(cc13, P13), (cc17, P17)] : List (Addr × Addr)), p.2 = P, w, fun _ _ => False, fun _ _ => False⟩ 1 "_law_due" 2 m__law_due := df__law_due Z T19
  have D__law_spans : Df l.prog w K mg base ⟨clsOf [("TooManyStates", .ref a_TooManyStates)], fun P => ∃ p ∈ ([(cc13, P13), (cc17, P17)] : List (Addr × Addr)), p.2 = P, w, fun _ _ => False, fun _ _ => False⟩ 1 "_law_spans" 2 m__law_spans := df__law_spans Z T20
  have D__law_taken : Df l.prog w K mg base ⟨clsOf [("TooManyStates", .ref a_TooManyStates)], fun P => ∃ p ∈ ([(cc13, P13), (cc17, P17)] : List (Addr × Addr)), p.2 = P, w, fun _ _ => False, fun _ _ => False⟩ 2 "_law_taken" 2 m__law_taken := df__law_taken Z T21 D__law_spans
  exact (df_law (C := ⟨clsOf [("TooManyStates", .ref a_TooManyStates)], fun P => ∃ p ∈ ([(cc13, P13), (cc17, P17)] : List (Addr × Addr)), p.2 = P, w, fun _ _ => False, fun _ _ => False⟩) Z F22 D__law_box D__law_lines D__law_next D__law_reader D__law_count D__law_taken D__law_due).imp fun vs H Q E q => law_sp (C := ⟨clsOf [("TooManyStates", .ref a_TooManyStates)], fun P => ∃ p ∈ ([(cc13, P13), (cc17, P17)] : List (Addr × Addr)), p.2 = P, w, fun _ _ => False, fun _ _ => False⟩) math q (fun _ _ z => z)
/-! C1: the law's own helpers: what they draw. -/
theorem draws_spec (c : Int) (μ : Mu) : ∃ xs : List Int, xs.length = 6 ∧ m__law_draws [.int c, .int 1000003, .int 6] μ = some (.ok (.lst (xs.map D.int)) μ) := by
  have key : Rn (m__law_draws [.int c, .int 1000003, .int 6] μ) fun d μ' => ∃ xs : List Int, xs.length = 6 ∧ d = .lst (xs.map D.int) ∧ μ' = μ := by
    refine Rn.run ?_
    simp [b__law_draws]
    have rest : ∀ n : Int, Sk (sSeq (sSet 4 (eLstC aNil))
              (sSeq
                (sIf (eTest (eOp oGe (eVar 3) (eOp oPow (eC (D.int 10)) (eC (D.int 18)))))
                  (sSeq
                    (sFor (iRg1 (aCons (eVar 2) aNil)) (tName 5)
                      (sSeq
                        (sDrop
                          (eMt (oAppend (List.length μ)) (eVar 4)
                            (aCons (eOp oMod (eB oInt (aCons (eVar 3) aNil)) (eVar 1)) aNil)))
                        (sSet 3 (eOp oDiv (eVar 3) (eVar 1)))))
                    (sRet (eFrz (eVar 4))))
                  sNil)
                (sSeq
                  (sFor (iRg1 (aCons (eVar 2) aNil)) (tName 5)
                    (sSeq
                      (sSet 6
                        (eOp oMod
                          (eB oInt
                            (aCons
                              (eOp oMul
                                (eOp oPlus (eOp oPlus (eVar 3) (eOp oMul (eC (D.int 7)) (eVar 5))) (eC (D.int 1)))
                                (eC (D.int 48271)))
                              aNil))
                          (eC (D.int 2147483647))))
                      (sSeq
                        (sSet 6
                          (eOp oMod
                            (eB oInt
                              (aCons
                                (eOp oPlus (eOp oMul (eVar 6) (eC (D.int 69621))) (eOp oMul (eC (D.int 31)) (eVar 5)))
                                aNil))
                            (eC (D.int 2147483629))))
                        (sDrop
                          (eMt (oAppend (List.length μ)) (eVar 4)
                            (aCons (eOp oMod (eB oInt (aCons (eOp oDiv (eVar 6) (eC (D.int 7))) aNil)) (eVar 1))
                              aNil))))))
                  (sRet (eFrz (eVar 4))))) [some (D.int c), some (D.int 1000003), some (D.int 6), some (D.int n), none, none, none] μ) fun fl => Rn (ends μ.length (some fl)) fun d μ' => ∃ xs : List Int, xs.length = 6 ∧ d = .lst (xs.map D.int) ∧ μ' = μ := by
      intro n
      have p18 := cPow_18
      simp [p18]
      refine Sk.seq_ifs (fun h => ?_) fun h => ?_
      · simp at h
        have r6 := rOk_of (j := 6) (by decide) (by decide)
        simp [r6]
        refine Sk.seq_loop (fun i ρ' μ' => ∃ (xs : List Int) (n' : Int) (k' z : Option D), ρ' = [some (D.int c), some (D.int 1000003), some (D.int 6), some (D.int n'), some (D.cell (List.length μ)), k', z] ∧ μ' = μ ++ [some (.lst (xs.map D.int))] ∧ xs.length = i)
          ⟨[], n, none, none, rfl, rfl, rfl⟩ ?_ ?_
        · rintro i d ρ' μ' hd ⟨xs, n', k', z, rfl, rfl, hl⟩
          obtain ⟨hi, rfl⟩ := rng_get hd
          rw [turn1_name]
          have q5 : cDiv n' 1000003 = true := cDiv_of (by decide) (by decide)
          simp
          rw [mt1_ok (μ1 := μ ++ [some (.lst (xs.map D.int))]) (xs := xs.map D.int) (ys := xs.map D.int) (as := [.int (n' % 1000003)]) (by simp) (by simp) (by simp), oAppend_ok (by simp; omega) (by simp [D.pure])]
          simp [q5]
          exact ⟨xs ++ [n' % 1000003], by simp, by simp [hl]⟩
        · rintro ρ' μ' ⟨xs, n', k', z, rfl, rfl, hl⟩
          simp
          rw [frz1_cell (xs := xs.map D.int) (by simp) (by simp)]
          simp [leave_pure, D.pure]
          exact ⟨xs, by rw [hl, rngD_length], rfl⟩
      · have r6 := rOk_of (j := 6) (by decide) (by decide)
        simp [r6]
        simp at h
        refine Sk.seq_loop (fun i ρ' μ' => ∃ (xs : List Int) (k' z : Option D), ρ' = [some (D.int c), some (D.int 1000003), some (D.int 6), some (D.int n), some (D.cell (List.length μ)), k', z] ∧ μ' = μ ++ [some (.lst (xs.map D.int))] ∧ xs.length = i)
          ⟨[], none, none, rfl, rfl, rfl⟩ ?_ ?_
        · rintro i d ρ' μ' hd ⟨xs, k', z, rfl, rfl, hl⟩
          obtain ⟨hi, rfl⟩ := rng_get hd
          rw [turn1_name]
          have q1 : cMul 7 (i : Int) = true := cMul_l (by decide) (by decide)
          have q2 : cMul (n + 7 * (i : Int) + 1) 48271 = true := cMul_r (by decide) (by decide)
          have q3 : cMul ((n + 7 * (i : Int) + 1) * 48271 % 2147483647) 69621 = true := cMul_r (by decide) (by decide)
          have q4 : cMul 31 (i : Int) = true := cMul_l (by decide) (by decide)
          have q5 : ∀ x : Int, cDiv x 7 = true := fun x => cDiv_of (by decide) (by decide)
          simp [q1, q2, q3, q4, q5]
          rw [mt1_ok (μ1 := μ ++ [some (.lst (xs.map D.int))]) (xs := xs.map D.int) (ys := xs.map D.int) (as := [.int (((((n + 7 * (i : Int) + 1) * 48271) % 2147483647 * 69621 + 31 * (i : Int)) % 2147483629) / 7 % 1000003)]) (by simp) (by simp [q5]) (by simp), oAppend_ok (by simp; omega) (by simp [D.pure])]
          simp
          exact ⟨xs ++ [(((((n + 7 * (i : Int) + 1) * 48271) % 2147483647 * 69621 + 31 * (i : Int)) % 2147483629) / 7 % 1000003)], by simp, by simp [hl]⟩
        · rintro ρ' μ' ⟨xs, k', z, rfl, rfl, hl⟩
          simp
          rw [frz1_cell (xs := xs.map D.int) (by simp) (by simp)]
          simp [leave_pure, D.pure]
          exact ⟨xs, by rw [hl, rngD_length], rfl⟩
    refine Sk.seq_ifs (fun h => ?_) fun h => ?_
    · simpa using rest (0 - c)
    · simpa using rest c
  obtain ⟨d, μ', e, xs, hl, rfl, rfl⟩ := key
  exact ⟨xs, hl, e⟩

/-- the box: its row, its place -/
def BoxM (row : List Int) (at_ : Int) : M := .dK [(Sum.inr ("row" : Str), .lst (row.map D.int)), (Sum.inr ("at" : Str), .int at_)]
theorem kne : ¬ (Sum.inr ("row" : Str) : Key) = Sum.inr ("at" : Str) := by decide +kernel
theorem kne2 : ¬ Str.ofString "row" = Str.ofString "at" := by decide +kernel
theorem kne' : ¬ (Sum.inr ("at" : Str) : Key) = Sum.inr ("row" : Str) := by decide +kernel
theorem look_row (row : List Int) (a : Int) : look [(Sum.inr ("row" : Str), D.lst (row.map D.int)), (Sum.inr ("at" : Str), .int a)] (Sum.inr ("row" : Str) : Key) = some (.lst (row.map D.int)) := by simp [look]
theorem look_at (row : List Int) (a : Int) : look [(Sum.inr ("row" : Str), D.lst (row.map D.int)), (Sum.inr ("at" : Str), .int a)] (Sum.inr ("at" : Str) : Key) = some (.int a) := by simp [look, kne2]
/-- a box one may draw from -/
def BoxOk (m : M) : Prop := ∃ (row : List Int) (a : Int), m = BoxM row a ∧ row ≠ [] ∧ row.length < 1073741824
theorem box_spec (ns : List Int) (h : ns.length ≤ 63) : ∃ B, BoxOk B ∧ m__law_box [.scr (ns.map D.int)] [] = some (.ok (.cell 0) [some B]) := by
  have key : Rn (m__law_box [.scr (ns.map D.int)] []) fun d μ' => ∃ B, BoxOk B ∧ d = .cell 0 ∧ μ' = [some B] := by
    refine Rn.run ?_
    simp [b__law_box]
    refine Sk.seq_loop (fun i ρ' μ' => ∃ (xs : List Int) (c : Option D), ρ' = [some (D.scr (ns.map D.int)), some (D.lst (xs.map D.int)), c] ∧ μ' = [] ∧ xs.length = 6 * i) ⟨[], none, rfl, rfl, rfl⟩ ?_ ?_
    · rintro i d ρ' μ' hd ⟨xs, c, rfl, rfl, hl⟩
      have hi : i < 63 := by have := (List.getElem?_eq_some_iff.mp hd).1; simp at this; omega
      rw [List.getElem?_map] at hd
      cases hn : ns[i]? with
      | none => rw [hn] at hd; cases hd
      | some n =>
        rw [hn] at hd
        cases hd
        rw [turn1_name]
        simp
        obtain ⟨ys, hy, e⟩ := draws_spec n []
        rw [call1_ok e]
        simp
        rw [newL_ok (by simp; omega)]
        simp
        exact ⟨xs ++ ys, by simp, by simp [hl, hy]; omega⟩
    · rintro ρ' μ' ⟨xs, c, rfl, rfl, hl⟩
      simp at hl
      have fin : ∀ zs : List Int, zs ≠ [] → zs.length < 1073741824 → ∀ c, Sk (sRet (eDisp [(eC (.str "row"), eVar 1), (eC (.str "at"), eC (.int 0))]) [some (D.scr (ns.map D.int)), some (D.lst (zs.map D.int)), c] [])
          fun fl => Rn (ends 0 (some fl)) fun d μ' => ∃ B, BoxOk B ∧ d = .cell 0 ∧ μ' = [some B] := by
        intro zs hz hl c
        refine ⟨_, rfl, ?_⟩
        have e : mergeD [] [(Sum.inr ("row" : Str), D.lst (zs.map D.int)), (Sum.inr ("at" : Str), .int 0)] = [(Sum.inr ("row" : Str), D.lst (zs.map D.int)), (Sum.inr ("at" : Str), .int 0)] := by
          simp [mergeD, putD, kne2]
        have e2 : ends 0 (some (Fl.rt (D.cell 0) [some (M.dK (mergeD [] [(Sum.inr ("row" : Str), D.lst (zs.map D.int)), (Sum.inr ("at" : Str), .int 0)]))])) = some (.ok (.cell 0) [some (BoxM zs 0)]) := by
          rw [e]
          have : lows 0 (zs.map D.int) = true := lows_of_pures (pures_ints zs)
          simp [leave, M.low, lows, D.low, BoxM, this]
        exact ⟨_, _, e2, BoxM zs 0, ⟨zs, 0, rfl, hz, hl⟩, rfl, rfl⟩
      simp
      by_cases h0 : xs = []
      · subst h0
        simp
        exact fin [11, 5, 2, 7, 31, 101, 997] (by simp) (by simp) _
      · have hp : xs.length ≠ 0 := by simpa using h0
        have hq : ((xs.length : Int) == 0) = false := by simpa using h0
        rw [hq]
        simp only [ifs_f, sNil_ap, seqs_nx]
        exact fin xs h0 (by omega) _
  obtain ⟨d, μ', e, B, hB, rfl, rfl⟩ := key
  exact ⟨B, hB, e⟩
theorem next_at {μ : Mu} {k : Nat} {row : List Int} {a m : Int} (hm : 0 < m) (hr : row ≠ []) (hl : row.length < 1073741824) (hb : μ[k]? = some (some (BoxM row a))) :
    ∃ r, 0 ≤ r ∧ r < m ∧ m__law_next [.cell k, .int m] μ = some (.ok (.int r) (μ.set k (some (BoxM row (a + 1))))) := by
  have hk : k < μ.length := (List.getElem?_eq_some_iff.mp hb).1
  have g0 : dget μ (.cell k) (.str "at") = some (some (.int a)) := by simp [dget, hb, BoxM, G4.keyOf, look_at]
  have hb2 : (μ.set k (some (BoxM row (a + 1))))[k]? = some (some (BoxM row (a + 1))) := by rw [List.getElem?_set_self hk]
  have g1 : dget (μ.set k (some (BoxM row (a + 1)))) (.cell k) (.str "row") = some (some (.lst (row.map D.int))) := by rw [dget]; simp only [hb2]; simp only [BoxM, G4.keyOf, look_row]
  have pos : (0 : Int) < row.length := by
    have : row.length ≠ 0 := by simpa using hr
    omega
  have i0 := Int.emod_nonneg a (show (row.length : Int) ≠ 0 by omega)
  have i1 := Int.emod_lt_of_pos a pos
  obtain ⟨x, hx⟩ : ∃ x, row[(a % (row.length : Int)).toNat]? = some x := ⟨_, List.getElem?_eq_getElem (by omega)⟩
  refine ⟨(x + 7919 * (a / (row.length : Int))) % m, Int.emod_nonneg _ (by omega), Int.emod_lt_of_pos _ hm, ?_⟩
  have key : Rn (m__law_next [.cell k, .int m] μ) fun d μ' => d = .int ((x + 7919 * (a / (row.length : Int))) % m) ∧ μ' = μ.set k (some (BoxM row (a + 1))) := by
    refine Rn.run ?_
    simp [b__law_next]
    rw [get2_ok g0]
    simp
    have e : sPut μ.length (eVar 0) (eC (D.str "at")) (eOp oPlus (eVar 2) (eC (D.int 1))) [some (D.cell k), some (D.int m), some (D.int a), none] μ = some (.nx [some (D.cell k), some (D.int m), some (D.int a), none] (μ.set k (some (BoxM row (a + 1))))) := by
      simp [sPut, hb, BoxM, G4.keyOf, D.pure, putD, kne2]
    rw [e]
    have hd : cDiv a (row.length : Int) = true := cDiv_of pos (by omega)
    have hc : ∀ j, cMul 7919 j = true := fun j => cMul_l (by decide) (by decide)
    have ai : atI (row.map D.int) (a % (row.length : Int)) = some (.int x) := atI_ok i0 (by rw [List.getElem?_map, hx]; rfl)
    have hp : 0 < row.length := by omega
    simp [get2_ok g1, hp, hd, hc, ai, hm]
    rw [List.take_of_length_le (by simp)]
  obtain ⟨d, μ', e, rfl, rfl⟩ := key
  exact e
/-- a draw, the box being the first cell -/
theorem next_spec {B : M} (hB : BoxOk B) (rest : Mu) {m : Int} (hm : 0 < m) : ∃ r B', 0 ≤ r ∧ r < m ∧ BoxOk B' ∧ m__law_next [.cell 0, .int m] (some B :: rest) = some (.ok (.int r) (some B' :: rest)) := by
  obtain ⟨row, a, rfl, hr, hl⟩ := hB
  obtain ⟨r, h0, h1, e⟩ := next_at (μ := some (BoxM row a) :: rest) (k := 0) hm hr hl rfl
  exact ⟨r, _, h0, h1, ⟨row, a + 1, rfl, hr, hl⟩, e⟩
/-! the store of a law: the box, what was there, what came -/
section
variable {B : M} {rest : Mu}
@[simp] theorem st_get (ls : Mu) (j : Nat) : (some B :: (rest ++ ls))[rest.length + 1 + j]? = ls[j]? := by
  rw [show rest.length + 1 + j = (rest.length + j) + 1 by omega, List.getElem?_cons_succ, List.getElem?_append_right (by omega)]
  congr 1; omega
@[simp] theorem st_set (ls : Mu) (j : Nat) (m : Option M) : (some B :: (rest ++ ls)).set (rest.length + 1 + j) m = some B :: (rest ++ ls.set j m) := by
  rw [show rest.length + 1 + j = (rest.length + j) + 1 by omega, List.set_cons_succ, List.set_append_right _ _ (by omega)]
  congr 3; omega
end

/-! C2b: lists of draws (as in C3) -/
theorem comps_draw {B : M} (hB : BoxOk B) (rest : Mu) {mk : List D → Mu → Ro D} {ρ : G4.Env} {k bi : Nat} {fe : Ev D} {m : Int} (hm : 0 < m) (n : Nat) (hb : ∀ d, (ρ.set k (some d))[bi]? = some (some (.cell 0))) (hf : ∀ d μ, fe (ρ.set k (some d)) μ = some (.ok (.int m) μ)) :
    ∃ (xs : List Int) (B' : M), xs.length = n ∧ (∀ x ∈ xs, 0 ≤ x ∧ x < m) ∧ BoxOk B' ∧
      comps mk (some (.ok (.its (rngD 0 n)) (some B :: rest))) (tName k) eYes (eCall m__law_next (aCons (eVar bi) (aCons fe aNil))) ρ = mk (xs.map D.int) (some B' :: rest) := by
  obtain ⟨ys, μ', e, B', xs, rfl, rfl, hl, hr, hB'⟩ := comps_rule1 (mk := mk) (ρ := ρ) (k := k) (te := eCall m__law_next (aCons (eVar bi) (aCons fe aNil))) (ds := rngD 0 n) (μ := some B :: rest)
    (fun i μ' acc => ∃ (B' : M) (xs : List Int), μ' = some B' :: rest ∧ acc = xs.map D.int ∧ xs.length = i ∧ (∀ x ∈ xs, 0 ≤ x ∧ x < m) ∧ BoxOk B') ⟨B, [], rfl, rfl, rfl, by simp, hB⟩ (by
      rintro i d μ' acc hd ⟨B', xs, rfl, rfl, hl, hr, hB'⟩
      obtain ⟨r, B2, h0, h1, hB2, e⟩ := next_spec hB' rest hm
      have hv : eVar bi (ρ.set k (some d)) (some B' :: rest) = some (.ok (.cell 0) (some B' :: rest)) := by rw [eVar_ap, hb]
      refine ⟨.int r, some B2 :: rest, ?_, B2, xs ++ [r], rfl, by simp, by simp [hl], ?_, hB2⟩
      · rw [eCall_ap, aCons_ap, hv, cons1_ok, aCons_ap, hf, cons1_ok, aNil_ap, cons2_ok, cons2_ok, call1_ok e]
      · intro x hx
        rcases List.mem_append.mp hx with hx | hx
        · exact hr x hx
        · have : x = r := by simpa using hx
          subst this; exact ⟨h0, h1⟩)
  exact ⟨xs, B', by rw [hl, rngD_length], hr, hB', e⟩

/-! ### lines and faults -/
theorem ix_0 (a : D) (l : List D) : atI (a :: l) 0 = some a := atI_ok (by decide) rfl
theorem ix_1 (a b : D) (l : List D) : atI (a :: b :: l) 1 = some b := atI_ok (by decide) rfl
theorem ix_2 (a b c : D) (l : List D) : atI (a :: b :: c :: l) 2 = some c := atI_ok (by decide) rfl
theorem oEq_str {s t : Str} (hs : PyData.strOk s = true) (ht : PyData.strOk t = true) (μ : Mu) : oEq (.str s) (.str t) μ = some (.ok (.bl (s == t)) μ) := by
  simp [oEq, val, D.nice, hs, ht, D.eqv, D.py, PyData.eqv]
def LvQ (b : Bool) (μ : Mu) : D → Mu → Prop := fun d μ' => d = .bl b ∧ μ' = μ
/-- what the program says of a line at a number -/
def Lv (d : D) (k : Int) (b : Bool) : Prop := ∀ μ, m_line_is_valid [d, .int k] μ = some (.ok (.bl b) μ)
theorem lv_of {d : D} {k : Int} {b : Bool} (h : ∀ μ, Rn (m_line_is_valid [d, .int k] μ) (LvQ b μ)) : Lv d k b := fun μ => by
  obtain ⟨d', μ', e, rfl, rfl⟩ := h μ
  exact e
def lnD (s : Str) (is : List Int) : D := .tup (.str s :: is.map D.int)
theorem ok_none : PyData.strOk (Str.ofString "none") = true := by decide +kernel
theorem ok_empty : PyData.strOk (Str.ofString "empty") = true := by decide +kernel
theorem ok_or : PyData.strOk (Str.ofString "or") = true := by decide +kernel
theorem ok_behind : PyData.strOk (Str.ofString "behind") = true := by decide +kernel
theorem ok_letter : PyData.strOk (Str.ofString "letter") = true := by decide +kernel
theorem ok_not : PyData.strOk (Str.ofString "not") = true := by decide +kernel
theorem beq_str (s t : Str) : (s == t) = (t == s) := by
  by_cases h : s = t
  · subst h; rfl
  · rw [beq_eq_false_iff_ne.mpr h, beq_eq_false_iff_ne.mpr (Ne.symm h)]
theorem inN {s : Str} (hs : PyData.strOk s = true) (is : List Int) (μ : Mu) : oIn (lnD s is) (.lst [.tup [.str "none"], .tup [.str "empty"]]) μ = some (.ok (.bl (is.isEmpty && (s == Str.ofString "none" || s == Str.ofString "empty"))) μ) := by
  cases is with
  | nil => simp [lnD, inD, val, D.nice, nices, D.eqv, D.py, pys, PyData.eqv, PyData.eqvAll, hs, ok_none, ok_empty, beq_str s]
  | cons i is => simp [lnD, inD, val, D.nice, nices, D.eqv, D.py, pys, PyData.eqv, PyData.eqvAll, hs, ok_none, ok_empty, nices_ints]
theorem inO {s : Str} (hs : PyData.strOk s = true) (μ : Mu) : oIn (.str s) (.lst [.str "or", .str "behind"]) μ = some (.ok (.bl (s == Str.ofString "or" || s == Str.ofString "behind")) μ) := by
  simp [inD, val, D.nice, nices, D.eqv, D.py, PyData.eqv, hs, ok_or, ok_behind, beq_str s]
def vl2 (s : Str) : List Int → Int → Bool
  | [i], k => if s == Str.ofString "letter" then decide (0 ≤ i) && decide (i ≤ 2) else if s == Str.ofString "not" then decide (0 ≤ i) && decide (i < k) else false
  | [i, j], k => if s == Str.ofString "or" || s == Str.ofString "behind" then (decide (0 ≤ i) && decide (i < k)) && (decide (0 ≤ j) && decide (j < k)) else false
  | _, _ => false
def vl (s : Str) (is : List Int) (k : Int) : Bool := if is.isEmpty && (s == Str.ofString "none" || s == Str.ofString "empty") then true else vl2 s is k
theorem chain2_b {op' : D → D → Mu → Ro D} {b c : D} {k m : Bool} {h : Mu → Ro D} {μ : Mu} (e : h μ = some (.ok c μ)) (e2 : op' b c μ = some (.ok (.bl m) μ)) : chain2 op' b (some (.ok (.bl k) μ)) h = some (.ok (.bl (k && m)) μ) := by
  cases k
  · rfl
  · rw [chain2_t, e]
    simp [e2]
theorem andV_b {k m : Bool} {h : Mu → Ro D} {μ : Mu} (e : h μ = some (.ok (.bl m) μ)) : andV (some (.ok (.bl k) μ)) h = some (.ok (.bl (k && m)) μ) := by
  cases k <;> simp [e]
theorem lv_all {s : Str} (hs : PyData.strOk s = true) (is : List Int) (k : Int) : Lv (lnD s is) k (vl s is k) := lv_of fun μ => by
  refine Rn.run ?_
  have eN := inN hs is μ
  have eO := inO hs μ
  simp only [lnD] at eN
  simp [b_line_is_valid, lnD, eN]
  refine Sk.seq_ifs (fun h => ?_) fun h => ?_
  · simp [vl, h]
    exact ⟨rfl, rfl⟩
  have hv : vl s is k = vl2 s is k := by
      unfold vl
      rw [if_neg (by rw [h]; exact Bool.false_ne_true)]
  rw [hv]
  clear hv h eN
  cases is with
  | nil =>
    simp
    exact ⟨rfl, rfl⟩
  | cons i is =>
    cases is with
    | nil =>
      simp [ix_0, oEq_str hs ok_letter, oEq_str hs ok_not]
      refine Sk.seq_ifs (fun h => ?_) fun h => ?_
      · simp [ix_1]
        rw [chain2_b (c := .int 2) (m := decide (i ≤ 2)) rfl rfl]
        simp
        exact ⟨by simp [vl2, h], rfl⟩
      · simp [ix_0, oEq_str hs ok_letter, oEq_str hs ok_not]
        refine Sk.seq_ifs (fun h2 => ?_) fun h2 => ?_
        · simp [ix_1]
          rw [chain2_b (c := .int k) (m := decide (i < k)) rfl rfl]
          simp
          exact ⟨by simp [vl2, h, h2], rfl⟩
        · simp
          exact ⟨by simp [vl2, h, h2], rfl⟩
    | cons j is =>
      cases is with
      | nil =>
        simp [ix_0, ix_1, ix_2, eO]
        refine Sk.seq_ifs (fun h => ?_) fun h => ?_
        · simp [ix_1, ix_2]
          rw [chain2_b (c := .int k) (m := decide (i < k)) rfl rfl]
          rw [andV_b (m := decide (0 ≤ j) && decide (j < k)) (by
            simp [ix_2]
            rw [chain2_b (c := .int k) (m := decide (j < k)) rfl rfl])]
          simp
          exact ⟨by simp [vl2, h], rfl⟩
        · simp
          exact ⟨by simp [vl2, h], rfl⟩
      | cons l is =>
        have n2 : ((is.length : Int) + 1 + 1 + 1 + 1 == 2) = false := by simp; omega
        have n3 : ((is.length : Int) + 1 + 1 + 1 + 1 == 3) = false := by simp; omega
        simp [n2, n3]
        exact ⟨rfl, rfl⟩
def FtQ (d : D) (μ : Mu) : D → Mu → Prop := fun d' μ' => d' = d ∧ μ' = μ
theorem FtQ.out {r : Ro D} {d : D} {μ : Mu} (h : Rn r (FtQ d μ)) : r = some (.ok d μ) := by
  obtain ⟨d', μ', e, rfl, rfl⟩ := h
  exact e
def FtI (ds : List D) (j : Nat) (μ : Mu) : Nat → G4.Env → Mu → Prop := fun i ρ' μ' => ∃ a b, ρ' = [some (.tup ds), a, b] ∧ μ' = μ ∧ i ≤ j
theorem fault_nil (μ : Mu) : m_filter_fault [.tup []] μ = some (.ok (.int 0) μ) := FtQ.out (by
  refine Rn.run ?_
  simp [b_filter_fault]
  exact ⟨rfl, rfl⟩)
theorem ne_300 {i : Nat} (h : i ≠ 300) : ((i : Int) == 300) = false := by
  rw [beq_eq_false_iff_ne]
  omega
theorem fault_at {ds : List D} {j : Nat} (hj : j < ds.length) (h3 : j ≤ 300) (hv : ∀ (i : Nat) d, i < j → ds[i]? = some d → Lv d i true) (hw : j = 300 ∨ ∃ d, ds[j]? = some d ∧ Lv d j false) (μ : Mu) :
    m_filter_fault [.tup ds] μ = some (.ok (.int j) μ) := FtQ.out (by
  refine Rn.run ?_
  have hne : ds.isEmpty = false := by
    cases ds
    · simp at hj
    · rfl
  simp [b_filter_fault, hne]
  refine Sk.seq_loop (FtI ds j μ) ⟨none, none, rfl, rfl, Nat.zero_le _⟩ ?_ ?_
  · rintro i d ρ' μ' hd ⟨a, b, rfl, rfl, hi⟩
    rw [pairs_get] at hd
    cases hdi : ds[i]? with
    | none => rw [hdi] at hd; cases hd
    | some x =>
      rw [hdi] at hd
      have hd : D.tup [.int ((0 + i : Nat) : Int), x] = d := Option.some.inj hd
      rw [Nat.zero_add] at hd
      subst hd
      refine Go.of ?_
      simp [turn1]
      by_cases h : i = 300
      · subst h
        have : j = 300 := by omega
        subst this
        simp
        exact ⟨rfl, rfl⟩
      · have e3 := ne_300 h
        simp [e3]
        by_cases hij : i < j
        · simp [call1_ok (hv i x hij hdi μ')]
          exact ⟨_, _, rfl, rfl, by omega⟩
        · have : i = j := by omega
          subst this
          rcases hw with hw | ⟨y, hy, hl⟩
          · exact absurd hw h
          · rw [hdi] at hy
            cases hy
            simp [call1_ok (hl μ')]
            exact ⟨rfl, rfl⟩
  · rintro ρ' μ' ⟨a, b, rfl, rfl, hi⟩
    rw [G4.pairs_len] at hi
    omega)
theorem fault_none {ds : List D} (h0 : ds ≠ []) (h3 : ds.length ≤ 300) (hv : ∀ (i : Nat) d, ds[i]? = some d → Lv d i true) (μ : Mu) :
    m_filter_fault [.tup ds] μ = some (.ok .non μ) := FtQ.out (by
  refine Rn.run ?_
  have hne : ds.isEmpty = false := by
    cases ds
    · exact absurd rfl h0
    · rfl
  simp [b_filter_fault, hne]
  refine Sk.seq_loop (FtI ds ds.length μ) ⟨none, none, rfl, rfl, Nat.zero_le _⟩ ?_ ?_
  · rintro i d ρ' μ' hd ⟨a, b, rfl, rfl, hi⟩
    rw [pairs_get] at hd
    cases hdi : ds[i]? with
    | none => rw [hdi] at hd; cases hd
    | some x =>
      rw [hdi] at hd
      have hd : D.tup [.int ((0 + i : Nat) : Int), x] = d := Option.some.inj hd
      rw [Nat.zero_add] at hd
      subst hd
      refine Go.of ?_
      have hil := (List.getElem?_eq_some_iff.mp hdi).1
      have e3 := ne_300 (i := i) (by omega)
      simp [turn1, e3, call1_ok (hv i x hdi μ')]
      exact ⟨_, _, rfl, rfl, by omega⟩
  · rintro ρ' μ' ⟨a, b, rfl, rfl, hi⟩
    simp
    exact ⟨rfl, rfl⟩)
/-! ### drawn lines -/
def Good (d : D) (k : Nat) : Prop := ∃ s is, d = lnD s is ∧ PyData.strOk s = true ∧ vl s is k = true
def Bad (d : D) (k : Nat) : Prop := ∃ s is, d = lnD s is ∧ PyData.strOk s = true ∧ vl s is k = false
theorem Good.lv {d : D} {k : Nat} (h : Good d k) : Lv d k true := by
  obtain ⟨s, is, rfl, hs, e⟩ := h
  have := lv_all hs is k
  rwa [e] at this
theorem Bad.lv {d : D} {k : Nat} (h : Bad d k) : Lv d k false := by
  obtain ⟨s, is, rfl, hs, e⟩ := h
  have := lv_all hs is k
  rwa [e] at this
theorem pure_lnD (s : Str) (is : List Int) : (lnD s is).pure = true := by simp [lnD, D.pure, pures]
theorem Good.pure {d : D} {k : Nat} (h : Good d k) : d.pure = true := by
  obtain ⟨s, is, rfl, _⟩ := h
  exact pure_lnD s is
theorem Bad.pure {d : D} {k : Nat} (h : Bad d k) : d.pure = true := by
  obtain ⟨s, is, rfl, _⟩ := h
  exact pure_lnD s is
theorem good_none (k : Nat) : Good (.tup [.str "none"]) k := ⟨_, [], rfl, ok_none, rfl⟩
theorem good_empty (k : Nat) : Good (.tup [.str "empty"]) k := ⟨_, [], rfl, ok_empty, rfl⟩
theorem good_letter {i : Int} (h0 : 0 ≤ i) (h1 : i < 3) (k : Nat) : Good (.tup [.str "letter", .int i]) k := ⟨_, [i], rfl, ok_letter, by
  have : i ≤ 2 := by omega
  simp [vl, vl2, h0, this]⟩
theorem lit_1 : (Str.ofString "not" == Str.ofString "letter") = false := by decide +kernel
theorem good_not {i : Int} {k : Nat} (h0 : 0 ≤ i) (h1 : i < k) : Good (.tup [.str "not", .int i]) k := ⟨_, [i], rfl, ok_not, by
  simp [vl, vl2, h0, h1]
  exact .inl (beq_eq_false_iff_ne.mp lit_1)⟩
theorem good_or {i j : Int} {k : Nat} (h0 : 0 ≤ i) (h1 : i < k) (g0 : 0 ≤ j) (g1 : j < k) : Good (.tup [.str "or", .int i, .int j]) k := ⟨_, [i, j], rfl, ok_or, by
  simp [vl, vl2, h0, h1, g0, g1]⟩
theorem good_behind {i j : Int} {k : Nat} (h0 : 0 ≤ i) (h1 : i < k) (g0 : 0 ≤ j) (g1 : j < k) : Good (.tup [.str "behind", .int i, .int j]) k := ⟨_, [i, j], rfl, ok_behind, by
  simp [vl, vl2, h0, h1, g0, g1]⟩
def Goods (ls : List D) : Prop := ∀ (k : Nat) d, ls[k]? = some d → Good d k
theorem Goods.snoc {ls : List D} {d : D} (h : Goods ls) (hd : Good d ls.length) : Goods (ls ++ [d]) := by
  intro k e he
  by_cases hk : k < ls.length
  · rw [List.getElem?_append_left hk] at he
    exact h k e he
  · rw [List.getElem?_append_right (by omega)] at he
    cases hz : k - ls.length with
    | zero =>
      rw [hz] at he
      have : k = ls.length := by omega
      subst this
      have he : d = e := by simpa using he
      subst he
      exact hd
    | succ m => rw [hz] at he; simp at he
theorem Goods.pures {ls : List D} (h : Goods ls) : pures ls = true := by
  rw [pures_iff]
  intro d hd
  obtain ⟨k, hk, e⟩ := List.getElem_of_mem hd
  exact (h k d (by rw [List.getElem?_eq_getElem hk, e])).pure
theorem app_line {B B' : M} {rest : Mu} {ls : List D} {d : D} {k : Mu → Ro (List D)} (e : k (some B :: (rest ++ [some (.lst ls)])) = some (.ok [d] (some B' :: (rest ++ [some (.lst ls)])))) (hl : ls.length < 16777216) :
    mt1 (oAppend (rest.length + 1)) (some (.ok (.cell (rest.length + 1)) (some B :: (rest ++ [some (.lst ls)])))) k = some (.ok .non (some B' :: (rest ++ [some (.lst (ls ++ [d]))]))) := by
  rw [mt1_ok (xs := ls) (ys := ls) (st_get [some (M.lst ls)] 0) e (st_get [some (M.lst ls)] 0), oAppend_ok hl (by simp)]
  have := st_set (B := B') (rest := rest) [some (M.lst ls)] 0 (some (.lst (ls ++ [d])))
  rw [Nat.add_zero] at this
  rw [this]
  rfl
def LnI (size : Int) (rest : Mu) : Nat → G4.Env → Mu → Prop := fun i ρ' μ' => ∃ B ls a b, BoxOk B ∧ Goods ls ∧ ls.length = i ∧ ρ' = [some (.cell 0), some (.int size), some (.cell (rest.length + 1)), a, b] ∧ μ' = some B :: (rest ++ [some (.lst ls)])
def LnQ (size : Int) (rest : Mu) : D → Mu → Prop := fun d μ' => ∃ B' ls, BoxOk B' ∧ Goods ls ∧ (ls.length : Int) = size ∧ d = .tup ls ∧ μ' = some B' :: rest
theorem lines_spec {B : M} (hB : BoxOk B) (rest : Mu) {size : Int} (s0 : 0 ≤ size) (s1 : size ≤ 1000) :
    ∃ B' ls, BoxOk B' ∧ Goods ls ∧ (ls.length : Int) = size ∧ m__law_lines [.cell 0, .int size] (some B :: rest) = some (.ok (.tup ls) (some B' :: rest)) := by
  have key : Rn (m__law_lines [.cell 0, .int size] (some B :: rest)) (LnQ size rest) := by
    refine Rn.run ?_
    have hr : rOk size = true := rOk_of (by omega) (by omega)
    simp [b__law_lines, hr]
    refine Sk.seq_loop (LnI size rest) ⟨B, [], none, none, hB, fun k d h => by simp at h, rfl, rfl, rfl⟩ ?_ ?_
    · rintro i d ρ' μ' hd ⟨B, ls, a, b, hB, hG, hl, rfl, rfl⟩
      obtain ⟨hi, rfl⟩ := rng_get hd
      rw [turn1_name]
      refine Go.of ?_
      obtain ⟨r, B1, r0, r1, hB1, e1⟩ := next_spec hB (rest ++ [some (.lst ls)]) (m := 8) (by decide)
      have fin : ∀ {B' : M} {d : D} (_ : BoxOk B') (_ : Good d i) {k : Mu → Ro (List D)} (_ : k (some B1 :: (rest ++ [some (.lst ls)])) = some (.ok [d] (some B' :: (rest ++ [some (.lst ls)])))) {ρ : G4.Env},
          (∃ a b, ρ = [some (.cell 0), some (.int size), some (.cell (rest.length + 1)), a, b]) →
          Sk (drops (mt1 (oAppend (rest.length + 1)) (some (.ok (.cell (rest.length + 1)) (some B1 :: (rest ++ [some (.lst ls)])))) k) ρ) fun fl => Go (LnI size rest (i + 1)) (Then (fun fl => Rn (ends (rest.length + 1) (some fl)) (LnQ size rest)) (sRet (eB oTuple (aCons (eVar 2) aNil)))) (some fl) := by
        rintro B' d hB' hd k e ρ ⟨a, b, rfl⟩
        rw [app_line e (by omega)]
        simp
        exact ⟨B', _, _, _, hB', hG.snoc (by rw [hl]; exact hd), by simp [hl], rfl, rfl⟩
      simp [call1_ok e1]
      rw [or2_b (c := decide (r < 3)) (by simp)]
      refine Sk.ifs (fun h => ?_) fun h => ?_
      · obtain ⟨v, B2, v0, v1, hB2, e2⟩ := next_spec hB1 (rest ++ [some (.lst ls)]) (m := 3) (by decide)
        obtain ⟨u, B3, u0, u1, hB3, e3⟩ := next_spec hB2 (rest ++ [some (.lst ls)]) (m := 3) (by decide)
        obtain ⟨d, hd, hg⟩ : ∃ d, atI [.tup [.str "none"], .tup [.str "empty"], .tup [.str "letter", .int v]] u = some d ∧ Good d i := by
          have : u = 0 ∨ u = 1 ∨ u = 2 := by omega
          rcases this with rfl | rfl | rfl
          · exact ⟨_, ix_0 _ _, good_none i⟩
          · exact ⟨_, ix_1 _ _ _, good_empty i⟩
          · exact ⟨_, ix_2 _ _ _ _, good_letter v0 v1 i⟩
        simp
        refine fin hB3 hg ?_ ⟨_, _, rfl⟩
        simp [call1_ok e2, call1_ok e3, hd]
      · have hi0 : 0 < (i : Int) := by
          simp at h
          omega
        obtain ⟨v, B2, v0, v1, hB2, e2⟩ := next_spec hB1 (rest ++ [some (.lst ls)]) (m := (i : Int)) hi0
        obtain ⟨u, B3, u0, u1, hB3, e3⟩ := next_spec hB2 (rest ++ [some (.lst ls)]) (m := (i : Int)) hi0
        simp
        refine Sk.ifs (fun h2 => ?_) fun h2 => ?_
        · simp
          refine fin hB3 (good_behind v0 v1 u0 u1) ?_ ⟨_, _, rfl⟩
          simp [call1_ok e2, call1_ok e3]
        · simp
          refine Sk.ifs (fun h3 => ?_) fun h3 => ?_
          · simp
            refine fin hB2 (good_not v0 v1) ?_ ⟨_, _, rfl⟩
            simp [call1_ok e2]
          · simp
            refine fin hB3 (good_or v0 v1 u0 u1) ?_ ⟨_, _, rfl⟩
            simp [call1_ok e2, call1_ok e3]
    · rintro ρ' μ' ⟨B, ls, a, b, hB, hG, hl, rfl, rfl⟩
      have g0 : (some B :: (rest ++ [some (M.lst ls)]))[rest.length + 1]? = some (some (.lst ls)) := st_get (B := B) (rest := rest) [some (M.lst ls)] 0
      simp [oTuple_cell g0]
      have hp : (D.tup ls).pure = true := hG.pures
      rw [leave_pure hp]
      simp
      rw [rngD_length] at hl
      exact ⟨B, ls, hB, hG, by omega, rfl, rfl⟩
  obtain ⟨d, μ', e, B', ls, h1, h2, h3, rfl, rfl⟩ := key
  exact ⟨B', ls, h1, h2, h3, e⟩

/-! V1: tables of truths, rows as lists of their own. -/
abbrev BT := Nat → Nat → Bool
def bot : BT := fun _ _ => false
def rwD (n : Nat) (f : BT) (s : Nat) : List D := (List.range n).map fun e => D.bl (f s e)
def tbD (n : Nat) (f : BT) : D := .lst ((List.range n).map fun s => .lst (rwD n f s))
def cls_ (base n : Nat) : List D := (List.range n).map fun s => D.cell (base + s)
def gb (base n : Nat) (f : BT) : Mu := ((List.range n).map fun s => some (M.lst (rwD n f s))) ++ [some (.lst (cls_ base n))]
def upd (f : BT) (s e : Nat) (v : Bool) : BT := fun a b => if a = s ∧ b = e then v else f a b
theorem pures_rw (n : Nat) (f : BT) (s : Nat) : pures (rwD n f s) = true := by
  rw [pures_iff]
  intro d hd
  obtain ⟨e, _, rfl⟩ := List.mem_map.mp hd
  rfl
theorem pure_tb (n : Nat) (f : BT) : (tbD n f).pure = true := by
  show pures _ = true
  rw [pures_iff]
  intro d hd
  obtain ⟨e, _, rfl⟩ := List.mem_map.mp hd
  exact pures_rw n f e
theorem at_rw {n : Nat} (f : BT) (s : Nat) {e : Nat} (h : e < n) : atI (rwD n f s) (e : Int) = some (.bl (f s e)) := atI_ok (by omega) (by
  unfold rwD
  rw [List.getElem?_map, Int.toNat_natCast, List.getElem?_range h]
  rfl)
theorem at_tb {n : Nat} (f : BT) {s : Nat} (h : s < n) : atI ((List.range n).map fun s => D.lst (rwD n f s)) (s : Int) = some (.lst (rwD n f s)) := atI_ok (by omega) (by
  rw [List.getElem?_map, Int.toNat_natCast, List.getElem?_range h]
  rfl)
theorem ix_tb {n : Nat} (f : BT) {s : Nat} (h : s < n) (μ : Mu) : oIx (tbD n f) (.int s) μ = some (.ok (.lst (rwD n f s)) μ) := by
  unfold tbD
  rw [oIx_lst, at_tb f h]
  rfl
theorem ix_rw {n : Nat} (f : BT) (s : Nat) {e : Nat} (h : e < n) (μ : Mu) : oIx (.lst (rwD n f s)) (.int e) μ = some (.ok (.bl (f s e)) μ) := by
  rw [oIx_lst, at_rw f s h]
  rfl
section
variable (P : Mu) {n : Nat} (f : BT)
theorem gb_get (j : Nat) : (P ++ gb P.length n f)[P.length + j]? = (gb P.length n f)[j]? := by
  rw [List.getElem?_append_right (by omega)]
  congr 1; omega
theorem gb_outer : (P ++ gb P.length n f)[P.length + n]? = some (some (.lst (cls_ P.length n))) := by
  rw [gb_get, gb, List.getElem?_append_right (by simp)]
  simp
theorem gb_row {s : Nat} (h : s < n) : (P ++ gb P.length n f)[P.length + s]? = some (some (.lst (rwD n f s))) := by
  rw [gb_get, gb, List.getElem?_append_left (by simpa using h), List.getElem?_map, List.getElem?_range h]
  rfl
theorem rw_set {s e : Nat} (v : Bool) : (rwD n f s).set e (.bl v) = rwD n (upd f s e v) s := by
  apply List.ext_getElem?
  intro j
  unfold rwD
  rw [List.getElem?_set]
  by_cases hj : j < n
  · by_cases e' : e = j
    · subst e'
      simp [hj, upd]
    · have : ¬ j = e := fun z => e' z.symm
      simp [e', hj, upd, this]
  · simp [hj]
    intro e'
    subst e'
    omega
theorem rw_other {s s' e : Nat} (v : Bool) (h : s' ≠ s) : rwD n (upd f s e v) s' = rwD n f s' := by
  unfold rwD
  refine List.map_congr_left fun b _ => ?_
  simp [upd, h]
theorem gb_set {s e : Nat} (h : s < n) (v : Bool) : (P ++ gb P.length n f).set (P.length + s) (some (.lst ((rwD n f s).set e (.bl v)))) = P ++ gb P.length n (upd f s e v) := by
  rw [List.set_append_right _ _ (by omega), show P.length + s - P.length = s by omega, rw_set]
  congr 1
  unfold gb
  rw [List.set_append_left _ _ (by simpa using h)]
  congr 1
  apply List.ext_getElem?
  intro j
  rw [List.getElem?_set]
  by_cases hj : j < n
  · by_cases e' : s = j
    · subst e'
      simp [hj]
    · have : j ≠ s := fun z => e' z.symm
      simp [e', hj, rw_other f v this]
  · simp [hj]
    intro e'
    omega
theorem at_cls {base s : Nat} (h : s < n) : atI (cls_ base n) (s : Int) = some (.cell (base + s)) := atI_ok (by omega) (by
  unfold cls_
  rw [List.getElem?_map, Int.toNat_natCast, List.getElem?_range h]
  rfl)
end
theorem frzs_cells {P : Mu} {g : Nat → List D} (hg : ∀ s, pures (g s) = true) : ∀ (js : List Nat) (X : Mu), js.Nodup → (∀ j ∈ js, X[j]? = some (some (.lst (g j)))) →
    ∃ Y, frzs (frz 3) (js.map fun j => D.cell (P.length + j)) (P ++ X) = some (js.map fun j => D.lst (g j), P ++ Y)
  | [], X, _, _ => ⟨X, rfl⟩
  | j :: js, X, nd, h => by
    have nd' := List.nodup_cons.mp nd
    have hj := h j (List.mem_cons_self ..)
    have g0 : (P ++ X)[P.length + j]? = some (some (.lst (g j))) := by
      rw [List.getElem?_append_right (by omega), show P.length + j - P.length = j by omega, hj]
    have e1 : frz 3 (.cell (P.length + j)) (P ++ X) = some (.lst (g j), P ++ X.set j none) := by
      rw [frz]
      simp only [g0]
      rw [frzs_pure (fun d μ => frz_pure 2 d μ) (hg j)]
      simp only [Option.some.injEq, Prod.mk.injEq, true_and]
      rw [List.set_append_right _ _ (by omega), show P.length + j - P.length = j by omega]
    obtain ⟨Y, e2⟩ := frzs_cells (P := P) hg js (X.set j none) nd'.2 fun i hi => by
      rw [List.getElem?_set_ne (fun z => nd'.1 (by rw [z]; exact hi))]
      exact h i (List.mem_cons_of_mem _ hi)
    exact ⟨Y, by simp only [List.map_cons, frzs, e1, e2]⟩
theorem gb_frz (P : Mu) (n : Nat) (f : BT) : ∃ Y, frz1 (some (.ok (.cell (P.length + n)) (P ++ gb P.length n f))) = some (.ok (tbD n f) (P ++ Y)) := by
  obtain ⟨Y, e⟩ := frzs_cells (P := P) (g := rwD n f) (pures_rw n f) (List.range n) ((gb P.length n f).set n none) List.nodup_range fun j hj => by
    have hj := List.mem_range.mp hj
    rw [List.getElem?_set_ne (by omega), gb, List.getElem?_append_left (by simpa using hj), List.getElem?_map, List.getElem?_range hj]
    rfl
  refine ⟨Y, ?_⟩
  have e0 : frz 4 (.cell (P.length + n)) (P ++ gb P.length n f) = some (tbD n f, P ++ Y) := by
    rw [frz]
    simp only [gb_outer]
    rw [List.set_append_right _ _ (by omega), show P.length + n - P.length = n by omega]
    unfold cls_
    rw [e]
    rfl
  simp only [frz1, bnd_ok, e0]
theorem gb_new {ρ : G4.Env} {k n : Nat} {te : Ev D} (P : Mu) (hn : n ≤ 1000) (hte : ∀ d μ, te (ρ.set k (some d)) μ = some (.ok (.cell μ.length) (μ ++ [some (.lst (rwD n bot 0))]))) :
    comps newC (some (.ok (.its (rngD 0 n)) P)) (tName k) eYes te ρ = some (.ok (.cell (P.length + n)) (P ++ gb P.length n bot)) := by
  obtain ⟨ys, μ', e, rfl, rfl⟩ := comps_rule1 (mk := newC) (ρ := ρ) (k := k) (te := te) (ds := rngD 0 n) (μ := P)
    (fun i μ' acc => μ' = P ++ (List.range i).map (fun s => some (M.lst (rwD n bot s))) ∧ acc = cls_ P.length i) ⟨by simp, rfl⟩ (by
      rintro i d μ' acc hd ⟨rfl, rfl⟩
      refine ⟨_, _, hte d _, ?_, ?_⟩
      · rw [List.range_succ, List.map_append, List.append_assoc]
        rfl
      · unfold cls_
        rw [List.range_succ, List.map_append]
        simp)
  rw [rngD_length] at e
  rw [e, newC_ok (by unfold cls_; simp; omega)]
  simp [gb]
theorem rep_bl (n : Nat) (hn : n ≤ 1000) (μ : Mu) : oRepC (.lst [.bl false]) (.int n) μ = some (.ok (.cell μ.length) (μ ++ [some (.lst (rwD n bot 0))])) := by
  have hs : small (1 * n) = true := by simp [small]; omega
  have e : repD [D.bl false] n = rwD n bot 0 := by
    unfold repD rwD bot
    rw [List.map_const', List.length_range]
    induction n with
    | zero => rfl
    | succ n ih =>
      rw [List.replicate_succ, List.replicate_succ, List.flatten_cons, ih (by omega) (by simp [small]; omega)]
      rfl
  have h1 : (n : Int).toNat = n := Int.toNat_natCast n
  have hv : viewK μ (.lst [D.bl false]) = some [D.bl false] := rfl
  have h3 : decide (-(2 ^ 63) ≤ (n : Int)) = true := decide_eq_true (by omega)
  have h4 : decide ((n : Int) < 2 ^ 63) = true := decide_eq_true (by omega)
  unfold oRepC repL
  simp only [hv, h1, h3, h4, List.length_singleton, hs, Bool.and_self, if_true, e]
  rw [newC_ok (by unfold rwD; simp; omega)]

/-! V2: what a filter's lines take, stretch by stretch. -/
theorem good_cases {d : D} {k : Nat} (h : Good d k) : d = .tup [.str "none"] ∨ d = .tup [.str "empty"] ∨ (∃ i : Int, d = .tup [.str "letter", .int i]) ∨ (∃ i : Int, 0 ≤ i ∧ i < k ∧ d = .tup [.str "not", .int i]) ∨
    (∃ i j : Int, 0 ≤ i ∧ i < k ∧ 0 ≤ j ∧ j < k ∧ d = .tup [.str "or", .int i, .int j]) ∨ ∃ i j : Int, 0 ≤ i ∧ i < k ∧ 0 ≤ j ∧ j < k ∧ d = .tup [.str "behind", .int i, .int j] := by
  obtain ⟨s, is, rfl, hs, e⟩ := h
  cases is with
  | nil =>
    unfold vl at e
    split at e
    · rename_i h
      rw [Bool.and_eq_true, Bool.or_eq_true] at h
      rcases h.2 with h | h
      · rw [eq_of_beq h]; exact .inl rfl
      · rw [eq_of_beq h]; exact .inr (.inl rfl)
    · cases e
  | cons i is =>
    have e : vl2 s (i :: is) k = true := e
    cases is with
    | nil =>
      by_cases h1 : s = Str.ofString "letter"
      · subst h1
        exact .inr (.inr (.inl ⟨i, rfl⟩))
      · by_cases h2 : s = Str.ofString "not"
        · subst h2
          simp [vl2, h1] at e
          exact .inr (.inr (.inr (.inl ⟨i, e.1, e.2, rfl⟩)))
        · simp [vl2, h1, h2] at e
    | cons j is =>
      cases is with
      | nil =>
        have f : (s = Str.ofString "or" ∨ s = Str.ofString "behind") ∧ (0 ≤ i ∧ i < k) ∧ 0 ≤ j ∧ j < k := by
          simpa [vl2] using e
        obtain ⟨h, f1, f2⟩ := f
        rcases h with rfl | rfl
        · exact .inr (.inr (.inr (.inr (.inl ⟨i, j, f1.1, f1.2, f2.1, f2.2, rfl⟩))))
        · exact .inr (.inr (.inr (.inr (.inr ⟨i, j, f1.1, f1.2, f2.1, f2.2, rfl⟩))))
      | cons l is => cases e
/-- the truth of a line at a stretch -/
def gF (F : List BT) (i : Int) : BT := F.getD i.toNat bot
def vB (w : List Int) (F : List BT) : D → BT
  | .tup [.str s] => if s == Str.ofString "none" then bot else fun a b => decide (a = b)
  | .tup [.str s, .int i] => if s == Str.ofString "letter" then fun a b => decide (b = a + 1) && decide (w.getD a 0 = i) else fun a b => !gF F i a b
  | .tup [.str s, .int i, .int j] => if s == Str.ofString "or" then fun a b => gF F i a b || gF F j a b else fun a b => (List.range (b + 1 - a)).any fun k => gF F i a (a + k) && gF F j (a + k) b
  | _ => bot
def rB (w : List Int) (F : List BT) (d : D) : BT := fun a b => if a ≤ b then vB w F d a b else false
def spn (w : List Int) (ls : List D) : List BT := ls.foldl (fun F d => F ++ [rB w F d]) []
theorem spn_step (w : List Int) {ls : List D} {i : Nat} {d : D} (h : ls[i]? = some d) : spn w (ls.take (i + 1)) = spn w (ls.take i) ++ [rB w (spn w (ls.take i)) d] := by
  rw [List.take_add_one, h]
  simp [spn, List.foldl_append]
theorem spn_len (w : List Int) (ls : List D) : (spn w ls).length = ls.length := by
  have gen : ∀ (ls : List D) (F : List BT), (ls.foldl (fun F d => F ++ [rB w F d]) F).length = F.length + ls.length := by
    intro ls
    induction ls with
    | nil => intro F; rfl
    | cons d ls ih =>
      intro F
      rw [List.foldl_cons, ih, List.length_append, List.length_cons]
      simp; omega
  have := gen ls []
  simpa [spn] using this
/-- as far as it is done -/
def don (f : BT) (s e : Nat) : BT := fun a b => if a < s ∨ (a = s ∧ b < e) then f a b else false
theorem don_row (w : List Int) (F : List BT) (d : D) (s n : Nat) : (don (rB w F d) (s + 1) (s + 1)) = don (rB w F d) (s + 1) 0 := by
  funext a b
  unfold don
  by_cases h : a < s + 1
  · simp [h]
  · by_cases h2 : a = s + 1
    · subst h2
      by_cases h3 : b < s + 1
      · simp [h3]
        unfold rB
        rw [if_neg (by omega)]
      · simp [h3]
    · simp [h, h2]
theorem don_step (w : List Int) (F : List BT) (d : D) {s e : Nat} (h : s ≤ e) : upd (don (rB w F d) s e) s e (vB w F d s e) = don (rB w F d) s (e + 1) := by
  funext a b
  unfold upd don
  by_cases h1 : a = s ∧ b = e
  · obtain ⟨rfl, rfl⟩ := h1
    simp [rB, h]
  · rw [if_neg h1]
    by_cases h2 : a < s ∨ (a = s ∧ b < e)
    · rw [if_pos h2, if_pos (by omega)]
    · rw [if_neg h2, if_neg (by omega)]
theorem don_none (w : List Int) (F : List BT) {d : D} {s e : Nat} (hv : vB w F d s e = false) : don (rB w F d) s e = don (rB w F d) s (e + 1) := by
  funext a b
  unfold don
  by_cases h : a = s ∧ b = e
  · obtain ⟨rfl, rfl⟩ := h
    simp [rB, hv]
  · by_cases h2 : a < s ∨ (a = s ∧ b < e)
    · rw [if_pos h2, if_pos (by omega)]
    · rw [if_neg h2, if_neg (by omega)]
theorem don_end (w : List Int) (F : List BT) (d : D) (s n : Nat) : ∀ a b, a < n → b < n → don (rB w F d) s n a b = don (rB w F d) (s + 1) 0 a b := by
  intro a b ha hb
  unfold don
  by_cases h : a < s ∨ (a = s ∧ b < n)
  · rw [if_pos h, if_pos (by omega)]
  · rw [if_neg h, if_neg (by omega)]
theorem don_all (w : List Int) (F : List BT) (d : D) (n : Nat) : ∀ a b, a < n → b < n → don (rB w F d) n 0 a b = rB w F d a b := by
  intro a b ha hb
  unfold don
  rw [if_pos (by omega)]
theorem gb_congr {base n : Nat} {f g : BT} (h : ∀ a b, a < n → b < n → f a b = g a b) : gb base n f = gb base n g := by
  unfold gb
  congr 1
  refine List.map_congr_left fun s hs => ?_
  unfold rwD
  rw [List.map_congr_left fun e he => by rw [h s e (List.mem_range.mp hs) (List.mem_range.mp he)]]
theorem tb_congr {n : Nat} {f g : BT} (h : ∀ a b, a < n → b < n → f a b = g a b) : tbD n f = tbD n g := by
  unfold tbD
  congr 1
  refine List.map_congr_left fun s hs => ?_
  unfold rwD
  rw [List.map_congr_left fun e he => by rw [h s e (List.mem_range.mp hs) (List.mem_range.mp he)]]
theorem at_F {n : Nat} {F : List BT} {i : Int} (h0 : 0 ≤ i) (h1 : i < F.length) : atI (F.map (tbD n)) i = some (tbD n (gF F i)) := atI_ok h0 (by
  have : i.toNat < F.length := by omega
  unfold gF
  rw [List.getElem?_map, List.getD_eq_getElem?_getD, List.getElem?_eq_getElem this]
  rfl)
theorem at_w {w : List Int} {a : Nat} (h : a < w.length) : atI (w.map D.int) (a : Int) = some (.int (w.getD a 0)) := atI_ok (by omega) (by
  rw [List.getElem?_map, Int.toNat_natCast, List.getD_eq_getElem?_getD, List.getElem?_eq_getElem h]
  rfl)
theorem dec_cast (a b : Nat) : ((a : Int) == (b : Int)) = decide (a = b) := by
  by_cases h : a = b
  · subst h; simp
  · rw [beq_eq_false_iff_ne.mpr (by omega), decide_eq_false h]
theorem dec_cast1 (a b : Nat) : ((b : Int) == (a : Int) + 1) = decide (b = a + 1) := by
  by_cases h : b = a + 1
  · subst h; simp
  · rw [beq_eq_false_iff_ne.mpr (by omega), decide_eq_false h]
theorem ieq (x y : Int) : (x == y) = decide (x = y) := by
  by_cases h : x = y
  · subst h; simp
  · rw [beq_eq_false_iff_ne.mpr h, decide_eq_false h]
theorem l_en : (Str.ofString "empty" == Str.ofString "none") = false := by decide +kernel
theorem l_ne : (Str.ofString "none" == Str.ofString "empty") = false := by decide +kernel
theorem l_nl : (Str.ofString "none" == Str.ofString "letter") = false := by decide +kernel
theorem l_nn : (Str.ofString "none" == Str.ofString "not") = false := by decide +kernel
theorem l_no : (Str.ofString "none" == Str.ofString "or") = false := by decide +kernel
theorem l_nb : (Str.ofString "none" == Str.ofString "behind") = false := by decide +kernel
theorem l_le : (Str.ofString "letter" == Str.ofString "empty") = false := by decide +kernel
theorem l_te : (Str.ofString "not" == Str.ofString "empty") = false := by decide +kernel
theorem l_tl : (Str.ofString "not" == Str.ofString "letter") = false := by decide +kernel
theorem l_oe : (Str.ofString "or" == Str.ofString "empty") = false := by decide +kernel
theorem l_ol : (Str.ofString "or" == Str.ofString "letter") = false := by decide +kernel
theorem l_on : (Str.ofString "or" == Str.ofString "not") = false := by decide +kernel
theorem l_be : (Str.ofString "behind" == Str.ofString "empty") = false := by decide +kernel
theorem l_bl : (Str.ofString "behind" == Str.ofString "letter") = false := by decide +kernel
theorem l_bn : (Str.ofString "behind" == Str.ofString "not") = false := by decide +kernel
theorem l_bo : (Str.ofString "behind" == Str.ofString "or") = false := by decide +kernel
theorem don_00 (w : List Int) (F : List BT) (d : D) (s : Nat) : don (rB w F d) s (s + 0) = don (rB w F d) s 0 := by
  cases s with
  | zero => rfl
  | succ s => exact don_row w F d s 0
def StI (n : Nat) (d : D) (k : Nat) (w : List Int) (F : List BT) (μ : Mu) : Nat → G4.Env → Mu → Prop := fun s ρ' μ' => ∃ x5 x6 x8 x9, ρ' = [some d, some (.cell k), some (.lst (w.map D.int)), some (.int n), some (.cell (μ.length + n)), x5, x6, none, x8, x9, none] ∧
  μ' = μ ++ gb μ.length n (don (rB w F d) s 0)
def SuI (n : Nat) (d : D) (k : Nat) (w : List Int) (F : List BT) (μ : Mu) (s : Nat) : Nat → G4.Env → Mu → Prop := fun i ρ' μ' => ∃ x6 x8 x9, ρ' = [some d, some (.cell k), some (.lst (w.map D.int)), some (.int n), some (.cell (μ.length + n)), some (.int s), x6, none, x8, x9, none] ∧
  μ' = μ ++ gb μ.length n (don (rB w F d) s (s + i))
def SpnQ (v : D) (μ : Mu) : D → Mu → Prop := fun d μ' => d = v ∧ μ' = μ
theorem SpnQ.out {r : Ro D} {d : D} {μ : Mu} (h : Rn r (SpnQ d μ)) : r = some (.ok d μ) := by
  obtain ⟨d', μ', e, rfl, rfl⟩ := h
  exact e
theorem lo_get {μ ν : Mu} {k : Nat} (h : k < μ.length) : (μ ++ ν)[k]? = μ[k]? := List.getElem?_append_left h
noncomputable def bodySt (n0 : Nat) : Sv := (sIf (eTest (eOp oEq (eOp oIx (eVar 0) (eC (.int 0))) (eC (.str "empty")))) (sAsg (eOp oEq (eVar 5) (eVar 6)) (tSub n0 (eOp oIx (eVar 4) (eVar 5)) (eVar 6))) (sIf (eTest (eOp oEq (eOp oIx (eVar 0) (eC (.int 0))) (eC (.str "letter")))) (sAsg (eAndV (eOp oEq (eVar 6) (eOp oPlus (eVar 5) (eC (.int 1)))) (eOp oEq (eOp oIx (eVar 2) (eVar 5)) (eOp oIx (eVar 0) (eC (.int 1))))) (tSub n0 (eOp oIx (eVar 4) (eVar 5)) (eVar 6))) (sIf (eTest (eOp oEq (eOp oIx (eVar 0) (eC (.int 0))) (eC (.str "not")))) (sAsg (eNotV (eOp oIx (eOp oIx (eOp oIx (eVar 1) (eOp oIx (eVar 0) (eC (.int 1)))) (eVar 5)) (eVar 6))) (tSub n0 (eOp oIx (eVar 4) (eVar 5)) (eVar 6))) (sIf (eTest (eOp oEq (eOp oIx (eVar 0) (eC (.int 0))) (eC (.str "or")))) (sAsg (eOrV (eOp oIx (eOp oIx (eOp oIx (eVar 1) (eOp oIx (eVar 0) (eC (.int 1)))) (eVar 5)) (eVar 6)) (eOp oIx (eOp oIx (eOp oIx (eVar 1) (eOp oIx (eVar 0) (eC (.int 2)))) (eVar 5)) (eVar 6))) (tSub n0 (eOp oIx (eVar 4) (eVar 5)) (eVar 6))) (sIf (eTest (eOp oEq (eOp oIx (eVar 0) (eC (.int 0))) (eC (.str "behind")))) (sSeq (sAsg (eTup (aCons (eOp oIx (eVar 1) (eOp oIx (eVar 0) (eC (.int 1)))) (aCons (eOp oIx (eVar 1) (eOp oIx (eVar 0) (eC (.int 2)))) aNil))) (tTupT 2 (tConss (tName 8) (tConss (tName 9) tNils))))
    (sAsg (eGen (iRg2 (aCons (eVar 5) (aCons (eOp oPlus (eVar 6) (eC (.int 1))) aNil))) (tName 10) eYes (bY true (eAndV (eOp oIx (eOp oIx (eVar 8) (eVar 5)) (eVar 10)) (eOp oIx (eOp oIx (eVar 9) (eVar 10)) (eVar 6)))) [10] true) (tSub n0 (eOp oIx (eVar 4) (eVar 5)) (eVar 6)))) sNil)))))
def SbQ (n : Nat) (d : D) (k : Nat) (w : List Int) (μ : Mu) (s e : Nat) (f : BT) : Fl → Prop := fun fl => ∃ y8 y9, fl = .nx [some d, some (.cell k), some (.lst (w.map D.int)), some (.int n), some (.cell (μ.length + n)), some (.int s), some (.int e), none, y8, y9, none] (μ ++ gb μ.length n f)
theorem st_body {d : D} {w : List Int} {F : List BT} {n : Nat} (hN : n = w.length + 1) (hd : Good d F.length) (hw : w.length ≤ 100) {μ : Mu} {k : Nat} (hk : μ[k]? = some (some (.lst (F.map (tbD n))))) {s e : Nat} (hse : s ≤ e) (hen : e < n) (x8 x9 : Option D) :
    Sk (bodySt μ.length [some d, some (.cell k), some (.lst (w.map D.int)), some (.int n), some (.cell (μ.length + n)), some (.int s), some (.int e), none, x8, x9, none] (μ ++ gb μ.length n (don (rB w F d) s e))) (SbQ n d k w μ s e (don (rB w F d) s (e + 1))) := by
  have hkl : k < μ.length := (List.getElem?_eq_some_iff.mp hk).1
  have hs : s < n := by omega
  unfold bodySt
  generalize hf : don (rB w F d) s e = f
  have fin : ∀ {v : Bool}, vB w F d s e = v → ∀ {ρ : G4.Env}, ρ[4]? = some (some (.cell (μ.length + n))) → ρ[5]? = some (some (.int s)) → ρ[6]? = some (some (.int e)) →
      G4.tSub μ.length (eOp oIx (eVar 4) (eVar 5)) (eVar 6) (.bl v) ρ (μ ++ gb μ.length n f) = some (.ok ρ (μ ++ gb μ.length n (don (rB w F d) s (e + 1)))) := by
    intro v hv ρ r4 r5 r6
    have go := gb_outer μ (n := n) f
    rw [tSub_ok (k := μ.length + s) (j := e) (i := (e : Int)) (xs := rwD n f s) (μ1 := μ ++ gb μ.length n f) (μ2 := μ ++ gb μ.length n f)
      (by simp [r4, r5, oIx_cell go, at_cls (base := μ.length) hs]) (by simp [r6]) (gb_row μ f hs) (by omega) (by omega) (by unfold rwD; simp; omega) (by simp), gb_set μ f hs v, ← hf, ← hv, don_step w F d hse]
  have fk : (μ ++ gb μ.length n f)[k]? = some (some (.lst (F.map (tbD n)))) := by rw [lo_get hkl]; exact hk
  have rdF : ∀ (j : Int), 0 ≤ j → j < F.length → oIx (.cell k) (.int j) (μ ++ gb μ.length n f) = some (.ok (tbD n (gF F j)) (μ ++ gb μ.length n f)) := fun j j0 j1 => by
    rw [oIx_cell fk, at_F j0 j1]
    rfl
  rcases good_cases hd with rfl | rfl | ⟨a, rfl⟩ | ⟨a, a0, a1, rfl⟩ | ⟨a, b, a0, a1, b0, b1, rfl⟩ | ⟨a, b, a0, a1, b0, b1, rfl⟩
  · simp [ix_0, oEq_str ok_none ok_empty, l_ne, oEq_str ok_none ok_letter, l_nl, oEq_str ok_none ok_not, l_nn, oEq_str ok_none ok_or, l_no, oEq_str ok_none ok_behind, l_nb]
    exact ⟨_, _, by rw [← hf, don_none w F (by simp [vB, bot])]⟩
  · simp [ix_0, oEq_str ok_empty ok_empty, dec_cast]
    rw [fin (v := decide (s = e)) (by simp [vB, l_en]) rfl rfl rfl]
    simp
    exact ⟨_, _, rfl⟩
  · have cw : andV (some (.ok (.bl (decide (e = s + 1))) (μ ++ gb μ.length n f))) (eOp oEq (eOp oIx (eVar 2) (eVar 5)) (eOp oIx (eVar 0) (eC (.int 1))) [some (.tup [.str "letter", .int a]), some (.cell k), some (.lst (w.map D.int)), some (.int n), some (.cell (μ.length + n)), some (.int s), some (.int e), none, x8, x9, none]) = some (.ok (.bl (vB w F (.tup [.str "letter", .int a]) s e)) (μ ++ gb μ.length n f)) := by
      cases hb : decide (e = s + 1) with
      | false => simp [vB, hb]
      | true =>
        have hb' : e = s + 1 := of_decide_eq_true hb
        simp [vB, hb, at_w (w := w) (a := s) (by omega), ix_1, ieq]
    simp [ix_0, oEq_str ok_letter ok_empty, l_le, oEq_str ok_letter ok_letter, dec_cast1]
    rw [cw]
    simp
    rw [fin rfl rfl rfl rfl]
    simp
    exact ⟨_, _, rfl⟩
  · simp [ix_0, ix_1, oEq_str ok_not ok_empty, l_te, oEq_str ok_not ok_letter, l_tl, oEq_str ok_not ok_not, rdF a a0 a1, ix_tb _ hs, ix_rw _ _ hen]
    rw [fin (v := !gF F a s e) (by simp [vB, l_tl]) rfl rfl rfl]
    simp
    exact ⟨_, _, rfl⟩
  · simp [ix_0, ix_1, oEq_str ok_or ok_empty, l_oe, oEq_str ok_or ok_letter, l_ol, oEq_str ok_or ok_not, l_on, oEq_str ok_or ok_or, rdF a a0 a1, ix_tb _ hs, ix_rw _ _ hen, orV_p, ix_2, rdF b b0 b1]
    rw [fin (v := gF F a s e || gF F b s e) (by simp [vB]) rfl rfl rfl]
    simp
    exact ⟨_, _, rfl⟩
  · simp [ix_0, ix_1, ix_2, oEq_str ok_behind ok_empty, l_be, oEq_str ok_behind ok_letter, l_bl, oEq_str ok_behind ok_not, l_bn, oEq_str ok_behind ok_or, l_bo, oEq_str ok_behind ok_behind, rdF a a0 a1, rdF b b0 b1]
    have hre : rOk ((e : Int) + 1) = true := rOk_of (by omega) (by omega)
    have hrs : rOk (s : Int) = true := rOk_of (by omega) (by omega)
    have gs := gens_any (μ := μ ++ gb μ.length n f) (i := 10) (te := eAndV (eOp oIx (eOp oIx (eVar 8) (eVar 5)) (eVar 10)) (eOp oIx (eOp oIx (eVar 9) (eVar 10)) (eVar 6))) (src := .its (rngD s (e + 1 - s))) (xs := List.range (e + 1 - s)) (ρ := [some (.tup [.str "behind", .int a, .int b]), some (.cell k), some (.lst (w.map D.int)), some (.int n), some (.cell (μ.length + n)), some (.int s), some (.int e), none, some (tbD n (gF F a)), some (tbD n (gF F b)), none]) (fun j : Nat => D.int ((s : Int) + (j : Nat))) (fun j => gF F a s (s + j) && gF F b (s + j) e) rfl (fun j hj => by
      have hj := List.mem_range.mp hj
      have hjn : s + j < n := by omega
      have h1 := at_rw (n := n) (gF F a) s hjn
      have h2 := ix_tb (n := n) (gF F b) hjn (μ ++ gb μ.length n f)
      rw [Int.natCast_add] at h1 h2
      simp [ix_tb _ hs, h1, h2, ix_rw _ _ hen, at_rw _ _ hen, andV_p])
    have er : ((e : Int) + 1 - (s : Int)).toNat = e + 1 - s := by omega
    rw [rng2_ok hrs hre, er, gs]
    simp
    rw [fin (v := (List.range (e + 1 - s)).any fun j => gF F a s (s + j) && gF F b (s + j) e) (by
      have : (Str.ofString "behind" == Str.ofString "or") = false := l_bo
      simp [vB, this]) rfl rfl rfl]
    simp
    exact ⟨_, _, rfl⟩

/-! V3 -/
theorem hte1 {n : Nat} (h : n ≤ 1000) {ρ : G4.Env} (h3 : ρ[3]? = some (some (.int n))) (μ : Mu) : eOp oRepC (eLst (aCons (eC (.bl false)) aNil)) (eVar 3) ρ μ = some (.ok (.cell μ.length) (μ ++ [some (.lst (rwD n bot 0))])) := by
  have e1 : eLst (aCons (eC (.bl false)) aNil) ρ μ = some (.ok (.lst [.bl false]) μ) := by simp
  have e2 : eVar 3 ρ μ = some (.ok (.int n) μ) := by rw [eVar_ap, h3]
  rw [eOp_ap, e1, op2_ok, e2, op2'_ok, rep_bl n h]
/-! V4: the law's own stretches. -/
noncomputable def bodySp (n0 : Nat) : Sv := (sSeq (sSet 8 (eC (.bl false)))
    (sSeq (sIf (eTest (eOp oEq (eOp oIx (eVar 4) (eC (.int 0))) (eC (.str "empty")))) (sSet 8 (eOp oEq (eVar 6) (eVar 7))) (sIf (eTest (eOp oEq (eOp oIx (eVar 4) (eC (.int 0))) (eC (.str "letter")))) (sSet 8 (eAndV (eOp oEq (eVar 7) (eOp oPlus (eVar 6) (eC (.int 1)))) (eOp oEq (eOp oIx (eVar 1) (eVar 6)) (eOp oIx (eVar 4) (eC (.int 1)))))) (sIf (eTest (eOp oEq (eOp oIx (eVar 4) (eC (.int 0))) (eC (.str "not")))) (sSet 8 (eNotV (eOp oIx (eOp oIx (eOp oIx (eVar 2) (eOp oIx (eVar 4) (eC (.int 1)))) (eVar 6)) (eVar 7)))) (sIf (eTest (eOp oEq (eOp oIx (eVar 4) (eC (.int 0))) (eC (.str "or")))) (sSet 8 (eOrV (eOp oIx (eOp oIx (eOp oIx (eVar 2) (eOp oIx (eVar 4) (eC (.int 1)))) (eVar 6)) (eVar 7)) (eOp oIx (eOp oIx (eOp oIx (eVar 2) (eOp oIx (eVar 4) (eC (.int 2)))) (eVar 6)) (eVar 7)))) (sIf (eTest (eOp oEq (eOp oIx (eVar 4) (eC (.int 0))) (eC (.str "behind")))) (sFor (iRg2 (aCons (eVar 6) (aCons (eOp oPlus (eVar 7) (eC (.int 1))) aNil))) (tName 9) (sIf (eAnd (eTru (eOp oIx (eOp oIx (eOp oIx (eVar 2) (eOp oIx (eVar 4) (eC (.int 1)))) (eVar 6)) (eVar 9))) (eTru (eOp oIx (eOp oIx (eOp oIx (eVar 2) (eOp oIx (eVar 4) (eC (.int 2)))) (eVar 9)) (eVar 7)))) (sSet 8 (eC (.bl true))) sNil)) sNil)))))
    (sAsg (eVar 8) (tSub n0 (eOp oIx (eVar 5) (eVar 6)) (eVar 7)))))
def spE (ls : List D) (w : List Int) (c : Nat) (n : Nat) (d : D) (r : Nat) (s e : Nat) (x8 x9 : Option D) : G4.Env := [some (.tup ls), some (.lst (w.map D.int)), some (.cell c), some (.int n), some d, some (.cell r), some (.int s), some (.int e), x8, x9]
def SpQ2 (ls : List D) (w : List Int) (c : Nat) (n : Nat) (d : D) (P : Mu) (s e : Nat) (f : BT) : Fl → Prop := fun fl => ∃ y8 y9, fl = .nx (spE ls w c n d (P.length + n) s e y8 y9) (P ++ gb P.length n f)
def SpI (ls : List D) (w : List Int) (c : Nat) (n : Nat) (d : D) (P : Mu) (s e : Nat) (f : BT) (v : Bool) : G4.Env → Mu → Prop := fun ρ μ => ∃ y9, ρ = spE ls w c n d (P.length + n) s e (some (.bl v)) y9 ∧ μ = P ++ gb P.length n f
def SpL (ls : List D) (w : List Int) (c : Nat) (n : Nat) (d : D) (P : Mu) (s e : Nat) (f : BT) (g h : BT) : Nat → G4.Env → Mu → Prop := fun i ρ μ => ∃ y9, ρ = spE ls w c n d (P.length + n) s e (some (.bl ((List.range i).any fun j => g s (s + j) && h (s + j) e))) y9 ∧ μ = P ++ gb P.length n f
theorem sp_body {ls : List D} {d : D} {w : List Int} {F : List BT} {n : Nat} (hN : n = w.length + 1) (hd : Good d F.length) (hw : w.length ≤ 100) {P : Mu} {c n0 : Nat} (hc : P[c]? = some (some (.lst (F.map (tbD n))))) (hn0 : n0 ≤ P.length) {s e : Nat} (hse : s ≤ e) (hen : e < n) (x8 x9 : Option D) :
    Sk (bodySp n0 (spE ls w c n d (P.length + n) s e x8 x9) (P ++ gb P.length n (don (rB w F d) s e))) (SpQ2 ls w c n d P s e (don (rB w F d) s (e + 1))) := by
  have hcl : c < P.length := (List.getElem?_eq_some_iff.mp hc).1
  have hs : s < n := by omega
  unfold bodySp
  generalize hf : don (rB w F d) s e = f
  have fk : (P ++ gb P.length n f)[c]? = some (some (.lst (F.map (tbD n)))) := by rw [lo_get hcl]; exact hc
  have rdF : ∀ (j : Int), 0 ≤ j → j < F.length → oIx (.cell c) (.int j) (P ++ gb P.length n f) = some (.ok (tbD n (gF F j)) (P ++ gb P.length n f)) := fun j j0 j1 => by
    rw [oIx_cell fk, at_F j0 j1]
    rfl
  simp [spE]
  refine Sk.cut (SpI ls w c n d P s e f (vB w F d s e)) ?_ ?_
  · rcases good_cases hd with rfl | rfl | ⟨a, rfl⟩ | ⟨a, a0, a1, rfl⟩ | ⟨a, b, a0, a1, b0, b1, rfl⟩ | ⟨a, b, a0, a1, b0, b1, rfl⟩
    · simp [ix_0, oEq_str ok_none ok_empty, l_ne, oEq_str ok_none ok_letter, l_nl, oEq_str ok_none ok_not, l_nn, oEq_str ok_none ok_or, l_no, oEq_str ok_none ok_behind, l_nb]
      exact ⟨x9, by simp [spE, vB, bot], rfl⟩
    · simp [ix_0, oEq_str ok_empty ok_empty, dec_cast]
      exact ⟨x9, by simp [spE, vB, l_en], rfl⟩
    · have cw : andV (some (.ok (.bl (decide (e = s + 1))) (P ++ gb P.length n f))) (eOp oEq (eOp oIx (eVar 1) (eVar 6)) (eOp oIx (eVar 4) (eC (.int 1))) [some (.tup ls), some (.lst (w.map D.int)), some (.cell c), some (.int n), some (.tup [.str "letter", .int a]), some (.cell (P.length + n)), some (.int s), some (.int e), some (.bl false), x9]) = some (.ok (.bl (vB w F (.tup [.str "letter", .int a]) s e)) (P ++ gb P.length n f)) := by
        cases hb : decide (e = s + 1) with
        | false => simp [vB, hb]
        | true =>
          have hb' : e = s + 1 := of_decide_eq_true hb
          simp [vB, hb, at_w (w := w) (a := s) (by omega), ix_1, ieq]
      simp [ix_0, oEq_str ok_letter ok_empty, l_le, oEq_str ok_letter ok_letter, dec_cast1]
      rw [cw]
      simp
      exact ⟨x9, rfl, rfl⟩
    · simp [ix_0, ix_1, oEq_str ok_not ok_empty, l_te, oEq_str ok_not ok_letter, l_tl, oEq_str ok_not ok_not, rdF a a0 a1, ix_tb _ hs, ix_rw _ _ hen]
      exact ⟨x9, by simp [spE, vB, l_tl], rfl⟩
    · simp [ix_0, ix_1, oEq_str ok_or ok_empty, l_oe, oEq_str ok_or ok_letter, l_ol, oEq_str ok_or ok_not, l_on, oEq_str ok_or ok_or, rdF a a0 a1, ix_tb _ hs, ix_rw _ _ hen, orV_p, ix_2, rdF b b0 b1]
      exact ⟨x9, by simp [spE, vB], rfl⟩
    · have hre : rOk ((e : Int) + 1) = true := rOk_of (by omega) (by omega)
      have hrs : rOk (s : Int) = true := rOk_of (by omega) (by omega)
      simp [ix_0, oEq_str ok_behind ok_empty, l_be, oEq_str ok_behind ok_letter, l_bl, oEq_str ok_behind ok_not, l_bn, oEq_str ok_behind ok_or, l_bo, oEq_str ok_behind ok_behind]
      have er : ((e : Int) + 1 - (s : Int)).toNat = e + 1 - s := by omega
      rw [rng2_ok hrs hre, er]
      simp
      refine Sk.loop (SpL ls w c n (.tup [.str "behind", .int a, .int b]) P s e f (gF F a) (gF F b)) ⟨x9, rfl, rfl⟩ ?_ ?_
      · rintro j dd ρ' μ' hdd ⟨y9, rfl, rfl⟩
        obtain ⟨hj, rfl⟩ := rng_get hdd
        rw [turn1_name]
        refine Go.of ?_
        have hjn : s + j < n := by omega
        have h1 := at_rw (n := n) (gF F a) s hjn
        have h2 := ix_tb (n := n) (gF F b) hjn (P ++ gb P.length n f)
        rw [Int.natCast_add] at h1 h2
        have tb : ∀ (x : Bool) (μ : Mu), tru1 (some (.ok (.bl x) μ)) = some (.ok x μ) := fun x μ => rfl
        simp [spE, ix_1, ix_2, rdF a a0 a1, rdF b b0 b1, ix_tb _ hs, h1, h2, tb, and2_p, ix_rw _ _ hen, at_rw _ _ hen]
        refine Sk.ifs (fun hb => ?_) fun hb => ?_
        · simp
          refine ⟨some (.int ((s : Int) + (j : Int))), ?_, rfl⟩
          simp [spE, List.range_succ, hb]
        · simp
          refine ⟨some (.int ((s : Int) + (j : Int))), ?_, rfl⟩
          simp [spE, List.range_succ, hb]
      · rintro ρ' μ' ⟨y9, rfl, rfl⟩
        rw [rngD_length]
        simp
        exact ⟨y9, by simp [vB, l_bo], rfl⟩
  · rintro ρ μ ⟨y9, rfl, rfl⟩
    have go := gb_outer P (n := n) f
    simp [spE]
    rw [tSub_ok (k := P.length + s) (j := e) (i := (e : Int)) (xs := rwD n f s) (μ1 := P ++ gb P.length n f) (μ2 := P ++ gb P.length n f)
      (by simp [oIx_cell go, at_cls (base := P.length) hs]) (by simp) (gb_row P f hs) (by omega) (by omega) (by unfold rwD; simp; omega) (by simp; omega), gb_set P f hs, ← hf, don_step w F d hse]
    simp
    exact ⟨_, _, rfl⟩

/-! V5: spans, takes. -/
def SoI (ls : List D) (w : List Int) (c n : Nat) (d : D) (F : List BT) (P : Mu) : Nat → G4.Env → Mu → Prop := fun s ρ μ => ∃ x6 x7 x8 x9, ρ = [some (.tup ls), some (.lst (w.map D.int)), some (.cell c), some (.int n), some d, some (.cell (P.length + n)), x6, x7, x8, x9] ∧ μ = P ++ gb P.length n (don (rB w F d) s 0)
def SiI (ls : List D) (w : List Int) (c n : Nat) (d : D) (F : List BT) (P : Mu) (s : Nat) : Nat → G4.Env → Mu → Prop := fun i ρ μ => ∃ x7 x8 x9, ρ = [some (.tup ls), some (.lst (w.map D.int)), some (.cell c), some (.int n), some d, some (.cell (P.length + n)), some (.int s), x7, x8, x9] ∧ μ = P ++ gb P.length n (don (rB w F d) s (s + i))
def SlI (ls : List D) (w : List Int) (n : Nat) (μ0 : Mu) : Nat → G4.Env → Mu → Prop := fun i ρ μ => ∃ x4 x5 x6 x7 x8 x9 Y, ρ = [some (.tup ls), some (.lst (w.map D.int)), some (.cell μ0.length), some (.int n), x4, x5, x6, x7, x8, x9] ∧ μ = μ0 ++ some (.lst ((spn w (ls.take i)).map (tbD n))) :: Y
theorem pures_tb (n : Nat) (F : List BT) : pures (F.map (tbD n)) = true := by
  rw [pures_iff]
  intro d hd
  obtain ⟨f, _, rfl⟩ := List.mem_map.mp hd
  exact pure_tb n f
theorem gb_new2 {ρ : G4.Env} {n : Nat} (P : Mu) (hn : n ≤ 1000) (h3 : ∀ d, (ρ.set 6 (some d))[3]? = some (some (.int n))) : comps newC (some (.ok (.its (rngD 0 n)) P)) (tName 6) eYes (eCompC (iRg1 (aCons (eVar 3) aNil)) (tName 7) eYes (eC (.bl false)) [7]) ρ = some (.ok (.cell (P.length + n)) (P ++ gb P.length n bot)) :=
  gb_new P hn fun d μ => by
    have hr : rOk (n : Int) = true := rOk_of (by omega) (by omega)
    rw [eCompC_ap, iRg1_ap, aCons_ap, eVar_ap, h3 d]
    simp only [cons1_ok, aNil_ap, cons2_ok, bnd_ok, rng1_ok hr, Int.toNat_natCast]
    rw [comps_map (f := fun _ => D.bl false) (fun d hd => rfl), newC_ok (by rw [List.length_map, rngD_length]; omega)]
    have e : (rngD 0 n).map (fun _ => D.bl false) = rwD n bot 0 := by
      unfold rngD rwD bot
      rw [List.map_map]
      rfl
    rw [e]
theorem law_spans_spec {ls : List D} {w : List Int} {n : Nat} (hN : n = w.length + 1) (hG : Goods ls) (hl : ls.length ≤ 400) (hw : w.length ≤ 100) (μ : Mu) : m__law_spans [.tup ls, .lst (w.map D.int)] μ = some (.ok (.lst ((spn w ls).map (tbD n))) μ) := SpnQ.out (by
  refine Rn.run ?_
  have hn : rOk (n : Int) = true := rOk_of (by omega) (by omega)
  have e1 : (w.length : Int) + 1 = (n : Int) := by omega
  simp [b__law_spans, e1]
  refine Sk.seq_loop (SlI ls w n μ) ⟨none, none, none, none, none, none, [], rfl, by simp [spn]⟩ ?_ ?_
  · rintro i d ρ' μ' hd ⟨x4, x5, x6, x7, x8, x9, Y, rfl, rfl⟩
    rw [turn1_name]
    refine Go.of ?_
    have hil := (List.getElem?_eq_some_iff.mp hd).1
    have hF := spn_len w (ls.take i)
    have hgd : Good d (spn w (ls.take i)).length := by
      rw [hF, List.length_take, Nat.min_eq_left (by omega)]
      exact hG i d hd
    have hst := spn_step w hd
    generalize spn w (ls.take i) = F at *
    obtain ⟨P, hP⟩ : ∃ P, μ ++ some (M.lst (F.map (tbD n))) :: Y = P := ⟨_, rfl⟩
    have hc : P[μ.length]? = some (some (.lst (F.map (tbD n)))) := by rw [← hP]; simp
    have hpl : μ.length ≤ P.length := by rw [← hP]; simp
    rw [hP]
    simp [rng1_ok hn]
    rw [gb_new2 P (by omega) (fun _ => rfl)]
    simp [rng1_ok hn]
    have g0 : gb P.length n bot = gb P.length n (don (rB w F d) 0 0) := gb_congr fun a b _ _ => by simp [bot, don]
    rw [g0]
    refine Sk.seq_loop (SoI ls w μ.length n d F P) ⟨x6, x7, x8, x9, rfl, rfl⟩ ?_ ?_
    · rintro s dd ρ' μ' hdd ⟨x6, x7, x8, x9, rfl, rfl⟩
      obtain ⟨hs, rfl⟩ := rng_get hdd
      rw [turn1_name]
      refine Go.of ?_
      have hrs : rOk (s : Int) = true := rOk_of (by omega) (by omega)
      simp [hrs, hn]
      refine Sk.loop (SiI ls w μ.length n d F P s) ⟨x7, x8, x9, rfl, by rw [don_00]⟩ ?_ ?_
      · rintro i dd ρ' μ' hdd ⟨x7, x8, x9, rfl, rfl⟩
        obtain ⟨hi, rfl⟩ := rng_get hdd
        rw [turn1_name]
        refine Go.of ?_
        obtain ⟨e, he⟩ : ∃ e, s + i = e := ⟨_, rfl⟩
        have he1 : (s : Int) + (i : Int) = (e : Int) := by omega
        have nx : s + (i + 1) = e + 1 := by omega
        rw [he1, he]
        obtain ⟨fl, h1, y8, y9, rfl⟩ := sp_body (ls := ls) hN hgd hw hc hpl (show s ≤ e by omega) (show e < n by omega) x8 x9
        exact ⟨_, h1, _, y8, y9, rfl, by rw [nx]⟩
      · rintro ρ' μ' ⟨x7, x8, x9, rfl, rfl⟩
        rw [rngD_length]
        simp
        refine ⟨_, _, _, _, rfl, ?_⟩
        congr 1
        exact gb_congr fun a b ha hb => by
          rw [show s + (n - s) = n by omega]
          exact don_end w F d s n a b ha hb
    · rintro ρ' μ' ⟨x6, x7, x8, x9, rfl, rfl⟩
      rw [rngD_length]
      obtain ⟨Z, ef⟩ := gb_frz P n (don (rB w F d) n 0)
      have et := tb_congr (don_all w F d n)
      rw [et] at ef
      have hc2 : (P ++ gb P.length n (don (rB w F d) n 0))[μ.length]? = some (some (.lst (F.map (tbD n)))) := by
        rw [lo_get (List.getElem?_eq_some_iff.mp hc).1]; exact hc
      have hc3 : (P ++ Z)[μ.length]? = some (some (.lst (F.map (tbD n)))) := by
        rw [lo_get (List.getElem?_eq_some_iff.mp hc).1]; exact hc
      simp
      rw [mt1_ok (μ1 := P ++ Z) (xs := F.map (tbD n)) (ys := F.map (tbD n)) (as := [tbD n (rB w F d)]) hc2 (by simp [ef]) hc3, oAppend_ok (by rw [List.length_map, hF, List.length_take]; omega) (by simp)]
      simp
      refine ⟨_, _, _, _, _, _, Y ++ Z, rfl, ?_⟩
      rw [hst, ← hP, List.append_assoc, List.set_append_right _ _ (Nat.le_refl _)]
      simp
  · rintro ρ' μ' ⟨x4, x5, x6, x7, x8, x9, Y, rfl, rfl⟩
    rw [List.take_length]
    have hc : (μ ++ some (M.lst ((spn w ls).map (tbD n))) :: Y)[μ.length]? = some (some (.lst ((spn w ls).map (tbD n)))) := by simp
    simp
    rw [frz1_cell hc (pures_tb n _)]
    simp
    have hp : (D.lst ((spn w ls).map (tbD n))).pure = true := pures_tb n _
    rw [leave_pure hp]
    exact ⟨_, _, rfl, rfl, by simp⟩)
/-- what a filter takes -/
def lastF (F : List BT) : BT := F.getD (F.length - 1) bot
def tkn (w : List Int) (ls : List D) : Bool := lastF (spn w ls) 0 w.length
theorem at_last {n : Nat} {F : List BT} (h : F ≠ []) : atI (F.map (tbD n)) (-1) = some (tbD n (lastF F)) := by
  have hl : 0 < F.length := List.length_pos_iff.mpr h
  have e : ixN (F.map (tbD n)).length (-1) = some (F.length - 1) := by
    unfold ixN
    rw [if_neg (by decide), if_pos (by rw [List.length_map]; omega), List.length_map]
    congr 1
    omega
  unfold atI
  rw [e]
  unfold lastF
  show (F.map (tbD n))[F.length - 1]? = _
  rw [List.getElem?_map, List.getElem?_eq_getElem (by omega), List.getD_eq_getElem?_getD, List.getElem?_eq_getElem (by omega)]
  rfl
theorem spn_ne {w : List Int} {ls : List D} (h : ls ≠ []) : spn w ls ≠ [] := fun z => by
  have := spn_len w ls
  rw [z] at this
  exact h (List.length_eq_zero_iff.mp this.symm)
theorem law_taken_spec {ls : List D} {w : List Int} (hG : Goods ls) (h0 : ls ≠ []) (hl : ls.length ≤ 400) (hw : w.length ≤ 100) (μ : Mu) : m__law_taken [.tup ls, .lst (w.map D.int)] μ = some (.ok (.bl (tkn w ls)) μ) := SpnQ.out (by
  refine Rn.run ?_
  have sp := law_spans_spec (n := w.length + 1) rfl hG hl hw μ
  have i0 := ix_tb (n := w.length + 1) (lastF (spn w ls)) (s := 0) (by omega) μ
  have i1 := at_rw (n := w.length + 1) (lastF (spn w ls)) 0 (e := w.length) (by omega)
  have i0 : oIx (tbD (w.length + 1) (lastF (spn w ls))) (.int 0) μ = _ := i0
  simp [b__law_taken, call1_ok sp, at_last (n := w.length + 1) (spn_ne (w := w) h0), i0, i1]
  exact ⟨rfl, rfl⟩)
theorem check_spec {ls : List D} (hG : Goods ls) (h0 : ls ≠ []) (hl : ls.length ≤ 300) (μ : Mu) : m_check_filter [.tup ls] μ = some (.ok .non μ) := SpnQ.out (by
  refine Rn.run ?_
  have f := fault_none h0 hl (fun i d h => (hG i d h).lv) μ
  simp [b_check_filter, call1_ok f]
  exact ⟨rfl, rfl⟩)
def TkI (ls : List D) (w : List Int) (n : Nat) (μ0 : Mu) : Nat → G4.Env → Mu → Prop := fun i ρ μ => ∃ x3, ρ = [some (.tup ls), some (.lst (w.map D.int)), some (.cell μ0.length), x3] ∧ μ = μ0 ++ [some (.lst ((spn w (ls.take i)).map (tbD n)))]
@[simp] theorem eCallX_ap {ρ : G4.Env} {μ : Mu} (m : Fd) (f : Ev (List D)) : eCallX m f ρ μ = Ro.bnd (f ρ μ) m := rfl
@[simp] theorem drops_exc {ρ : G4.Env} {μ : Mu} (x : XD) : drops (some (.exc x μ)) ρ = some (.ex x ρ μ) := rfl
/-! ### tables -/
def rowL (r : List Int) : D := .lst (r.map D.int)
def rowT (r : List Int) : D := .tup (r.map D.int)
def tabD (T : List (List Int)) : D := .tup (T.map rowT)
def gridD (T : List (List Int)) : D := .lst (T.map rowL)
def at2 (T : List (List Int)) (a b : Int) : Int := (T.getD a.toNat []).getD b.toNat 0
structure Grid (n : Nat) (T : List (List Int)) : Prop where
  len : T.length = n
  row : ∀ r ∈ T, r.length = n ∧ ∀ x ∈ r, 0 ≤ x ∧ x < (n : Int)
structure Tab (n : Nat) (T : List (List Int)) : Prop extends Grid n T where
  assoc : ∀ a b c : Int, 0 ≤ a → a < n → 0 ≤ b → b < n → 0 ≤ c → c < n → at2 T (at2 T a b) c = at2 T a (at2 T b c)
theorem Grid.get {n : Nat} {T : List (List Int)} (h : Grid n T) {a : Int} (h0 : 0 ≤ a) (h1 : a < n) : ∃ r, T[a.toNat]? = some r ∧ r.length = n ∧ ∀ x ∈ r, 0 ≤ x ∧ x < (n : Int) := by
  have hl : a.toNat < T.length := by rw [h.len]; omega
  exact ⟨T[a.toNat], List.getElem?_eq_getElem hl, h.row _ (List.getElem_mem hl)⟩
theorem Grid.get2 {n : Nat} {T : List (List Int)} (h : Grid n T) {a b : Int} (h0 : 0 ≤ a) (h1 : a < n) (g0 : 0 ≤ b) (g1 : b < n) : ∃ r, T[a.toNat]? = some r ∧ r[b.toNat]? = some (at2 T a b) ∧ 0 ≤ at2 T a b ∧ at2 T a b < n := by
  obtain ⟨r, hr, hl, hx⟩ := h.get h0 h1
  have hb : b.toNat < r.length := by omega
  have e : at2 T a b = r[b.toNat] := by
    unfold at2
    simp only [List.getD_eq_getElem?_getD, hr, Option.getD_some, List.getElem?_eq_getElem hb]
  exact ⟨r, hr, by rw [e]; exact List.getElem?_eq_getElem hb, by rw [e]; exact hx _ (List.getElem_mem hb)⟩
/-- what a table answers, as the program asks it -/
theorem atI_T {T : List (List Int)} {a : Int} {r : List Int} (h0 : 0 ≤ a) (h : T[a.toNat]? = some r) : atI (T.map rowT) a = some (rowT r) := atI_ok h0 (by rw [List.getElem?_map, h]; rfl)
theorem atI_L {T : List (List Int)} {a : Int} {r : List Int} (h0 : 0 ≤ a) (h : T[a.toNat]? = some r) : atI (T.map rowL) a = some (rowL r) := atI_ok h0 (by rw [List.getElem?_map, h]; rfl)
theorem atI_ints {r : List Int} {a x : Int} (h0 : 0 ≤ a) (h : r[a.toNat]? = some x) : atI (r.map D.int) a = some (.int x) := atI_ok h0 (by rw [List.getElem?_map, h]; rfl)
theorem oIx_rowL (r : List Int) (i : Int) (μ : Mu) : oIx (rowL r) (.int i) μ = ix1 (atI (r.map D.int) i) μ := oIx_lst _ _
theorem oIx_rowT (r : List Int) (i : Int) (μ : Mu) : oIx (rowT r) (.int i) μ = ix1 (atI (r.map D.int) i) μ := oIx_tup _ _

/-! ### iota -/
def iota (n : Nat) : List Int := (List.range n).map fun (i : Nat) => (i : Int)
theorem rng_iota (n : Nat) : rngD 0 n = (iota n).map D.int := by simp [rngD, iota]
theorem iota_len (n : Nat) : (iota n).length = n := by simp [iota]
theorem iota_mem {n : Nat} {x : Int} (h : x ∈ iota n) : 0 ≤ x ∧ x < n := by
  unfold iota at h
  obtain ⟨i, hi, rfl⟩ := List.mem_map.mp h
  have := List.mem_range.mp hi
  omega
theorem iota_nodup (n : Nat) : (iota n).Nodup := by
  unfold iota
  exact List.pairwise_map.mpr (List.nodup_range.imp fun h z => h (by omega))

theorem pure_rowT (r : List Int) : (rowT r).pure = true := by simp [rowT, D.pure]
theorem pure_tabD (T : List (List Int)) : (tabD T).pure = true := by
  simp only [tabD, D.pure]
  rw [pures_iff]
  intro d hd
  obtain ⟨r, _, rfl⟩ := List.mem_map.mp hd
  exact pure_rowT r
/-! Q0: data of the laws. -/
structure Sgr (n : Nat) (T : List (List Int)) (ls : List Int) : Prop where
  tab : Tab n T
  n0 : 0 < n
  n4 : n ≤ 4
  l0 : 0 < ls.length
  l3 : ls.length ≤ 3
  rng : ∀ x ∈ ls, 0 ≤ x ∧ x < (n : Int)
def intsT (ls : List Int) : D := .tup (ls.map D.int)
def intsL (ls : List Int) : D := .lst (ls.map D.int)
def sgD (T : List (List Int)) (ls : List Int) : D := .tup [tabD T, intsT ls]
theorem pure_intsT (ls : List Int) : (intsT ls).pure = true := by simp [intsT, D.pure]
theorem pure_intsL (ls : List Int) : (intsL ls).pure = true := by simp [intsL, D.pure]
theorem pure_sgD (T : List (List Int)) (ls : List Int) : (sgD T ls).pure = true := by
  simp only [sgD, D.pure, pures, pure_tabD, pure_intsT]; rfl
theorem two_0 (a b : D) : atI [a, b] 0 = some a := atI_ok (by decide) rfl
theorem two_1 (a b : D) : atI [a, b] 1 = some b := atI_ok (by decide) rfl
/-! X3: data is equal to itself; nice data of whole numbers. -/
mutual
theorem eqv_self : ∀ d : D, d.pure = true → d.eqv d = true
  | .non, _ => rfl
  | .bl b, _ => by cases b <;> rfl
  | .int i, _ => by show (i == i) = true; simp
  | .str x, _ => by show (x == x) = true; simp
  | .tup xs, h => eqvs_self xs (by simpa [D.pure] using h)
  | .lst xs, h => eqvs_self xs (by simpa [D.pure] using h)
  | .scr xs, h => eqvs_self xs (by simpa [D.pure] using h)
  | .cell _, h => by simp [D.pure] at h
  | .exn _, h => by simp [D.pure] at h
theorem eqvs_self : ∀ ds : List D, pures ds = true → PyData.eqvAll (pys ds) (pys ds) = true
  | [], _ => rfl
  | d :: ds, h => by
    simp only [pures, Bool.and_eq_true] at h
    have h1 := eqv_self d h.1
    have h2 := eqvs_self ds h.2
    simp only [D.eqv] at h1
    simp only [pys, PyData.eqvAll, h1, h2, Bool.and_self]
end
theorem val_pure {d : D} (h : d.pure = true) (μ : Mu) : val μ d = d := by cases d <;> first | rfl | simp [D.pure] at h
theorem oNe_self {d : D} (h : d.nice 60 = true) (μ : Mu) : oNe d d μ = some (.ok (.bl false) μ) := by
  have hp := (nice_py h).1
  rw [oNe_ok (by rw [val_pure hp]; exact h) (by rw [val_pure hp]; exact h), val_pure hp, eqv_self d hp]
  rfl
theorem oEq_self {d : D} (h : d.nice 60 = true) (μ : Mu) : oEq d d μ = some (.ok (.bl true) μ) := by
  have hp := (nice_py h).1
  rw [oEq_ok (by rw [val_pure hp]; exact h) (by rw [val_pure hp]; exact h), val_pure hp, eqv_self d hp]
theorem nice_intsT (n : Nat) (ls : List Int) : (intsT ls).nice (n + 1) = true := nices_ints n ls
theorem nice_intsL (n : Nat) (ls : List Int) : (intsL ls).nice (n + 1) = true := nices_ints n ls
theorem nice_rowT (n : Nat) (ls : List Int) : (rowT ls).nice (n + 1) = true := nices_ints n ls
theorem nice_map {α : Type} {n : Nat} {e : α → D} (h : ∀ x, (e x).nice n = true) (xs : List α) : nices n (xs.map e) = true := by
  rw [nices_iff]
  intro d hd
  obtain ⟨x, _, rfl⟩ := List.mem_map.mp hd
  exact h x
/-! ### the powers come again -/
theorem nodup_le {α : Type} [DecidableEq α] : ∀ {l m : List α}, l.Nodup → (∀ x ∈ l, x ∈ m) → l.length ≤ m.length
  | [], m, _, _ => Nat.zero_le _
  | x :: l, m, h, s => by
    have h' := List.nodup_cons.mp h
    have hx := s x (List.mem_cons_self ..)
    have := nodup_le (l := l) (m := m.erase x) h'.2 fun y hy => by
      have hne : y ≠ x := fun e => h'.1 (e ▸ hy)
      exact (List.mem_erase_of_ne hne).mpr (s y (List.mem_cons_of_mem _ hy))
    rw [List.length_erase_of_mem hx] at this
    have hp : 0 < m.length := List.length_pos_of_mem hx
    rw [List.length_cons]
    omega
/-! L4: reduced lengths. -/
theorem compI_map {α : Type} {ρ : G4.Env} {μ : Mu} {k : Nat} {te : Ev D} (e : α → D) (g : α → Int) : ∀ {xs : List α}, (∀ x ∈ xs, te (ρ.set k (some (e x))) μ = some (.ok (.int (g x)) μ)) → compI (tName k) eYes (body1 te) ρ (xs.map e) μ = some (.ok (xs.map g) μ)
  | [], _ => rfl
  | x :: xs, h => by
    have ih := compI_map (ρ := ρ) (μ := μ) (k := k) (te := te) e g (xs := xs) fun y hy => h y (List.mem_cons_of_mem _ hy)
    have hb : body1 te (ρ.set k (some (e x))) μ = some (.ok [g x] μ) := by
      unfold body1
      rw [h x (List.mem_cons_self ..)]
      rfl
    simp only [List.map_cons, compI, tName_ap, eYes_ap, hb, ih]
    rfl
/-! X1: answers that may be exceptions. -/
def Rt (r : Ro D) (P : Rs D → Prop) : Prop := ∃ q, r = some q ∧ P q
theorem Rt.run {N : Nat} {body : Nat → Sv} {ds : List D} {μ : Mu} {P : Rs D → Prop} (h : Sk (body μ.length (ds.map some ++ List.replicate (N - ds.length) none) μ) fun fl => Rt (ends μ.length (some fl)) P) : Rt (runD N body ds μ) P := by
  obtain ⟨fl, e, h⟩ := h
  rw [runD_ap, e]
  exact h
@[simp] theorem Rt_ok (q : Rs D) (P : Rs D → Prop) : Rt (some q) P ↔ P q := ⟨fun ⟨_, e, h⟩ => by cases e; exact h, fun h => ⟨_, rfl, h⟩⟩
@[simp] theorem Go_ex {ρ : G4.Env} {μ : Mu} (I : G4.Env → Mu → Prop) (Q : Fl → Prop) (x : XD) : Go I Q (some (.ex x ρ μ)) = Q (.ex x ρ μ) := rfl
@[simp] theorem Then_ex {ρ : G4.Env} {μ : Mu} (Q : Fl → Prop) (k : Sv) (x : XD) : Then Q k (.ex x ρ μ) = Q (.ex x ρ μ) := rfl
@[simp] theorem Mid_ex {ρ : G4.Env} {μ : Mu} (I : G4.Env → Mu → Prop) (Q : Fl → Prop) (x : XD) : Mid I Q (.ex x ρ μ) = Q (.ex x ρ μ) := rfl
@[simp] theorem ends_ex0 {ρ : G4.Env} {μ : Mu} (n : Nat) (c : Str) : ends n (some (.ex ⟨c, []⟩ ρ μ)) = some (.exc ⟨c, []⟩ (μ.take n)) := rfl
@[simp] theorem sets_exc {ρ : G4.Env} {μ : Mu} (i : Nat) (x : XD) : sets i (some (.exc x μ)) ρ = some (.ex x ρ μ) := rfl
@[simp] theorem rets_exc {ρ : G4.Env} {μ : Mu} (x : XD) : rets (some (.exc x μ)) ρ = some (.ex x ρ μ) := rfl
theorem tryAs_nx {names : List Str} {i : Nat} {body : Sv} {suite : Addr → Str → Sv} {ρ ρ' : G4.Env} {μ μ' : Mu} (h : body ρ μ = some (.nx ρ' μ')) : sTryAs names i body suite ρ μ = some (.nx ρ' μ') := by
  unfold sTryAs; rw [h]
theorem tryAs_rt {names : List Str} {i : Nat} {body : Sv} {suite : Addr → Str → Sv} {ρ : G4.Env} {μ μ' : Mu} {d : D} (h : body ρ μ = some (.rt d μ')) : sTryAs names i body suite ρ μ = some (.rt d μ') := by
  unfold sTryAs; rw [h]
theorem tryAs_ex {names : List Str} {i : Nat} {body : Sv} {suite : Addr → Str → Sv} {ρ ρ' : G4.Env} {μ μ' : Mu} {c : Str} {fl : Fl} (h : body ρ μ = some (.ex ⟨c, []⟩ ρ' μ')) (hc : c ∈ names) (hs : ∀ a, (suite a c (ρ'.set i (some (.exn a))) μ').bind (clr i) = some fl) : sTryAs names i body suite ρ μ = some fl := by
  unfold sTryAs; rw [h]
  simp only
  rw [if_pos ⟨hc, rfl⟩]
  exact suiteR_ok hs
@[simp] theorem clr_rt (i : Nat) (d : D) (μ : Mu) : clr i (.rt d μ) = some (.rt d μ) := rfl
@[simp] theorem clr_nx (i : Nat) (ρ : G4.Env) (μ : Mu) : clr i (.nx ρ μ) = some (.nx (ρ.set i none) μ) := rfl

/-! X2: comprehensions over typed items. -/
/-- any target, a test, nothing changes -/
theorem comps_gmap {α : Type} {ρ : G4.Env} {μ : Mu} {mk : List D → Mu → Ro D} {tg : Tv} {tt : Ev Bool} {te : Ev D} (e : α → D) (ρ' : α → G4.Env) (p : α → Bool) (g : α → D) {xs : List α} (hk : ∀ x ∈ xs, tg (e x) ρ μ = some (.ok (ρ' x) μ)) (ht : ∀ x ∈ xs, tt (ρ' x) μ = some (.ok (p x) μ)) (hg : ∀ x ∈ xs, p x = true → te (ρ' x) μ = some (.ok (g x) μ)) :
    comps mk (some (.ok (.its (xs.map e)) μ)) tg tt te ρ = mk ((xs.filter p).map g) μ := by
  obtain ⟨ys, μ', e', rfl, rfl⟩ := comps_rule (mk := mk) (tg := tg) (tt := tt) (te := te) (ρ := ρ) (ds := xs.map e) (μ := μ) (fun i μ' acc => μ' = μ ∧ acc = ((xs.take i).filter p).map g) ⟨rfl, by simp⟩ (by
    rintro i d μ' acc hd ⟨rfl, rfl⟩
    rw [List.getElem?_map] at hd
    cases hx : xs[i]? with
    | none => rw [hx] at hd; exact absurd hd (by simp)
    | some x =>
      rw [hx] at hd
      obtain rfl : e x = d := by simpa using hd
      have hm := List.mem_of_getElem? hx
      have tk : xs.take (i + 1) = xs.take i ++ [x] := by rw [List.take_add_one, hx]; rfl
      refine ⟨_, _, p x, _, hk x hm, ht x hm, fun hb => ⟨_, _, hg x hm hb, rfl, ?_⟩, fun hb => ⟨rfl, ?_⟩⟩
      · rw [tk, List.filter_append]
        simp [hb]
      · rw [tk, List.filter_append]
        simp [hb])
  rw [e', List.length_map, List.take_length]
/-- one name, no test -/
theorem comps_tmap {α : Type} {ρ : G4.Env} {μ : Mu} {mk : List D → Mu → Ro D} {k : Nat} {te : Ev D} (e : α → D) (g : α → D) {xs : List α} (hg : ∀ x ∈ xs, te (ρ.set k (some (e x))) μ = some (.ok (g x) μ)) :
    comps mk (some (.ok (.its (xs.map e)) μ)) (tName k) eYes te ρ = mk (xs.map g) μ := by
  have := comps_gmap (mk := mk) (tg := tName k) (tt := eYes) (te := te) (ρ := ρ) (μ := μ) e (fun x => ρ.set k (some (e x))) (fun _ => true) g (xs := xs) (fun _ _ => rfl) (fun _ _ => rfl) (fun x hx _ => hg x hx)
  rw [this, List.filter_eq_self.mpr fun _ _ => rfl]
/-- no name, any target -/
theorem comps_umap {α : Type} {ρ : G4.Env} {μ : Mu} {mk : List D → Mu → Ro D} {tg : Tv} {te : Ev D} (e : α → D) (ρ' : α → G4.Env) (g : α → D) {xs : List α} (hk : ∀ x ∈ xs, tg (e x) ρ μ = some (.ok (ρ' x) μ)) (hg : ∀ x ∈ xs, te (ρ' x) μ = some (.ok (g x) μ)) :
    comps mk (some (.ok (.its (xs.map e)) μ)) tg eYes te ρ = mk (xs.map g) μ := by
  have := comps_gmap (mk := mk) (tg := tg) (tt := eYes) (te := te) (ρ := ρ) (μ := μ) e ρ' (fun _ => true) g (xs := xs) hk (fun _ _ => rfl) (fun x hx _ => hg x hx)
  rw [this, List.filter_eq_self.mpr fun _ _ => rfl]
theorem pairs_map {α : Type} (e : α → D) (z : α) : ∀ (xs : List α) (k : Nat), pairs k (xs.map e) = (List.range xs.length).map fun j => D.tup [.int ((k + j : Nat) : Int), e (xs.getD j z)]
  | [], k => rfl
  | x :: xs, k => by
    rw [List.map_cons, pairs, pairs_map e z xs (k + 1), List.length_cons, List.range_succ_eq_map, List.map_cons, List.map_map]
    congr 1
    apply List.map_congr_left
    intro j _
    simp [Nat.add_comm, Nat.add_left_comm]
theorem pairs0 {α : Type} (e : α → D) (z : α) (xs : List α) : pairs 0 (xs.map e) = (List.range xs.length).map fun (j : Nat) => D.tup [.int (j : Int), e (xs.getD j z)] := by
  rw [pairs_map e z xs 0]
  simp
/-- any(..) over items that are taken apart -/
theorem gens_anyU {α : Type} {ρ : G4.Env} {μ : Mu} {tg : Tv} {te : Ev D} {src : Src} {xs : List α} (e : α → D) (ρ' : α → G4.Env) (f : α → Bool) (hc : src.cur μ = some (xs.map e)) (hk : ∀ x ∈ xs, tg (e x) ρ μ = some (.ok (ρ' x) μ)) (h : ∀ x ∈ xs, te (ρ' x) μ = some (.ok (.bl (f x)) μ)) :
    gens (some (.ok src μ)) tg eYes (bY true te) ρ true = some (.ok (.bl (xs.any f)) μ) := by
  have := gens_run (stop := true) (gRun_map (tg := tg) (tt := eYes) (body := bY true te) (ρ := ρ) e (fun _ => true) f hc fun x hx => ⟨ρ' x, hk x hx, rfl, fun _ => by
    show Ro.bnd _ _ = _
    rw [h x hx]
    show some (Rs.ok (f x == true) μ) = _
    simp⟩)
  rw [this]
  have e1 : (xs.any fun x => true && f x) = xs.any f := by congr 1
  rw [e1]
  cases xs.any f <;> rfl
/-- .. all(..) -/
theorem gens_allU {α : Type} {ρ : G4.Env} {μ : Mu} {tg : Tv} {te : Ev D} {src : Src} {xs : List α} (e : α → D) (ρ' : α → G4.Env) (f : α → Bool) (hc : src.cur μ = some (xs.map e)) (hk : ∀ x ∈ xs, tg (e x) ρ μ = some (.ok (ρ' x) μ)) (h : ∀ x ∈ xs, te (ρ' x) μ = some (.ok (.bl (f x)) μ)) :
    gens (some (.ok src μ)) tg eYes (bY false te) ρ false = some (.ok (.bl (xs.all f)) μ) := by
  have := gens_run (stop := false) (gRun_map (tg := tg) (tt := eYes) (body := bY false te) (ρ := ρ) e (fun _ => true) (fun x => !f x) hc fun x hx => ⟨ρ' x, hk x hx, rfl, fun _ => by
    show Ro.bnd _ _ = _
    rw [h x hx]
    show some (Rs.ok (f x == false) μ) = _
    cases f x <;> rfl⟩)
  rw [this]
  have e1 : (xs.any fun x => true && !f x) = !(xs.all f) := by
    rw [List.not_all_eq_any_not]
    congr 1
  rw [e1]
  cases xs.all f <;> rfl

/-! Y2: the law's own maps. -/
theorem get_last (μ : Mu) (x : Option M) : (μ ++ [x])[μ.length]? = some x := by simp
theorem set_last (μ : Mu) (x y : Option M) : (μ ++ [x]).set μ.length y = μ ++ [y] := by simp
/-! RA: readers, and states that are met breadth first. -/
abbrev Tb := List (List Int) × List Bool
def tx (r : Tb) (s l : Int) : Int := (r.1.getD s.toNat []).getD l.toNat 0
def tf (r : Tb) (s : Int) : Bool := r.2.getD s.toNat false
def runT (r : Tb) (s : Int) (w : List Int) : Int := w.foldl (tx r) s
def LtW (q : Nat) (w : List Int) : Prop := ∀ x ∈ w, 0 ≤ x ∧ x < q
def Rdr (q : Nat) (r : Tb) : Prop := r.1.length = r.2.length ∧ 0 < r.1.length ∧ r.1.length ≤ 100 ∧ ∀ row ∈ r.1, row.length = q ∧ ∀ x ∈ row, 0 ≤ x ∧ x < r.1.length
theorem Rdr.row {q : Nat} {r : Tb} (R : Rdr q r) {s : Int} (h0 : 0 ≤ s) (h1 : s < r.1.length) : ∃ row, r.1[s.toNat]? = some row ∧ r.1.getD s.toNat [] = row ∧ row.length = q ∧ ∀ x ∈ row, 0 ≤ x ∧ x < r.1.length := by
  have h : s.toNat < r.1.length := by omega
  refine ⟨r.1[s.toNat], List.getElem?_eq_getElem h, ?_, R.2.2.2 _ (List.getElem_mem h)⟩
  rw [List.getD_eq_getElem?_getD, List.getElem?_eq_getElem h]
  rfl
theorem Rdr.ent {q : Nat} {r : Tb} (R : Rdr q r) {s l : Int} (h0 : 0 ≤ s) (h1 : s < r.1.length) (l0 : 0 ≤ l) (l1 : l < q) :
    ∃ row, r.1[s.toNat]? = some row ∧ row[l.toNat]? = some (tx r s l) ∧ 0 ≤ tx r s l ∧ tx r s l < r.1.length := by
  obtain ⟨row, e1, e2, e3, e4⟩ := R.row h0 h1
  have h : l.toNat < row.length := by omega
  have : tx r s l = row[l.toNat] := by
    unfold tx
    rw [e2, List.getD_eq_getElem?_getD, List.getElem?_eq_getElem h]
    rfl
  refine ⟨row, e1, ?_, ?_⟩
  · rw [this]; exact List.getElem?_eq_getElem h
  · rw [this]; exact e4 _ (List.getElem_mem h)
theorem Rdr.fin {q : Nat} {r : Tb} (R : Rdr q r) {s : Int} (h0 : 0 ≤ s) (h1 : s < r.1.length) : r.2[s.toNat]? = some (tf r s) := by
  have h : s.toNat < r.2.length := by have := R.1; omega
  unfold tf
  rw [List.getD_eq_getElem?_getD, List.getElem?_eq_getElem h]
  rfl
theorem Rdr.run {q : Nat} {r : Tb} (R : Rdr q r) {w : List Int} (hw : LtW q w) {s : Int} (h0 : 0 ≤ s) (h1 : s < r.1.length) : 0 ≤ runT r s w ∧ runT r s w < r.1.length := by
  induction w generalizing s with
  | nil => exact ⟨h0, h1⟩
  | cons x w ih =>
    obtain ⟨hx, hw⟩ := List.forall_mem_cons.mp hw
    obtain ⟨_, _, _, g0, g1⟩ := R.ent h0 h1 hx.1 hx.2
    exact ih hw g0 g1
theorem LtW.snoc {q : Nat} {w : List Int} {x : Int} (h : LtW q (w ++ [x])) : LtW q w ∧ 0 ≤ x ∧ x < q := ⟨fun y hy => h y (List.mem_append_left _ hy), h x (by simp)⟩
theorem runT_snoc (r : Tb) (s : Int) (w : List Int) (x : Int) : runT r s (w ++ [x]) = tx r (runT r s w) x := by simp [runT, List.foldl_append]
theorem snoc_ind {α : Type} {C : List α → Prop} (h0 : C []) (h1 : ∀ w x, C w → C (w ++ [x])) (w : List α) : C w := by
  rw [← List.reverse_reverse w]
  induction w.reverse with
  | nil => exact h0
  | cons x v ih => rw [List.reverse_cons]; exact h1 _ _ ih
section
variable {P : Type} [DecidableEq P] (nx : P → Int → P) (q : Nat) (p0 : P)
def addP (ps : List P) (p : P) : List P := if p ∈ ps then ps else ps ++ [p]
theorem addP_pre (ps : List P) (p : P) : ps <+: addP ps p := by
  unfold addP
  split
  · exact List.prefix_refl _
  · exact List.prefix_append _ _
theorem addP_mem (ps : List P) (p : P) : p ∈ addP ps p := by
  unfold addP
  split
  · assumption
  · simp
theorem addP_sub {ps : List P} {p x : P} (h : x ∈ addP ps p) : x ∈ ps ∨ x = p := by
  unfold addP at h
  split at h
  · exact .inl h
  · simpa using h
theorem addP_nodup {ps : List P} (h : ps.Nodup) (p : P) : (addP ps p).Nodup := by
  unfold addP
  split
  · exact h
  · rename_i hn
    rw [List.nodup_append]
    exact ⟨h, by simp, fun a ha b hb => by rw [List.mem_singleton.mp hb]; exact fun z => hn (z ▸ ha)⟩
theorem pre_get {ps qs : List P} (h : ps <+: qs) {i : Nat} {x : P} (e : ps[i]? = some x) : qs[i]? = some x := by
  obtain ⟨t, rfl⟩ := h
  rw [List.getElem?_append_left (List.getElem?_eq_some_iff.mp e).1]
  exact e
theorem idx_get {ps : List P} {p : P} (h : p ∈ ps) : ps[ps.idxOf p]? = some p := by
  have hl := List.idxOf_lt_length_of_mem h
  rw [List.getElem?_eq_getElem hl, List.getElem_idxOf]
def rowS (p : P) (ps : List P) : Nat → List P × List Int
  | 0 => (ps, [])
  | k + 1 => (addP (rowS p ps k).1 (nx p k), (rowS p ps k).2 ++ [(((addP (rowS p ps k).1 (nx p k)).idxOf (nx p k) : Nat) : Int)])
theorem rowS_pre (p : P) (ps : List P) (k : Nat) : ps <+: (rowS nx p ps k).1 := by
  induction k with
  | zero => exact List.prefix_refl _
  | succ k ih => exact ih.trans (addP_pre _ _)
theorem rowS_nodup {ps : List P} (h : ps.Nodup) (p : P) (k : Nat) : (rowS nx p ps k).1.Nodup := by
  induction k with
  | zero => exact h
  | succ k ih => exact addP_nodup ih _
theorem rowS_len (p : P) (ps : List P) (k : Nat) : (rowS nx p ps k).2.length = k := by
  induction k with
  | zero => rfl
  | succ k ih => simp [rowS, ih]
theorem rowS_size (p : P) (ps : List P) (k : Nat) : (rowS nx p ps k).1.length ≤ ps.length + k := by
  induction k with
  | zero => exact Nat.le_refl _
  | succ k ih =>
    show (addP _ _).length ≤ _
    unfold addP
    split
    · omega
    · simp; omega
theorem rowS_get (p : P) (ps : List P) (k : Nat) : ∀ j < k, ∃ v : Nat, (rowS nx p ps k).2[j]? = some (v : Int) ∧ (rowS nx p ps k).1[v]? = some (nx p j) := by
  induction k with
  | zero => exact fun j hj => absurd hj (Nat.not_lt_zero j)
  | succ k ih =>
    intro j hj
    have hl := rowS_len nx p ps k
    rcases Nat.lt_or_ge j k with h | h
    · obtain ⟨v, e1, e2⟩ := ih j h
      refine ⟨v, ?_, pre_get (addP_pre _ _) e2⟩
      show ((rowS nx p ps k).2 ++ [_])[j]? = _
      rw [List.getElem?_append_left (by omega)]
      exact e1
    · have : j = k := by omega
      subst this
      refine ⟨(addP (rowS nx p ps j).1 (nx p j)).idxOf (nx p j), ?_, idx_get (addP_mem _ _)⟩
      show ((rowS nx p ps j).2 ++ [_])[j]? = _
      rw [List.getElem?_append_right (by omega), hl, Nat.sub_self]
      rfl
theorem rowS_sub {ok : P → Prop} {p : P} (hp : ok p) (hn : ∀ p l, ok p → 0 ≤ l → l < (q : Int) → ok (nx p l)) {ps : List P} (h : ∀ x ∈ ps, ok x) (k : Nat) (hk : k ≤ q) : ∀ x ∈ (rowS nx p ps k).1, ok x := by
  induction k with
  | zero => exact h
  | succ k ih =>
    intro x hx
    rcases addP_sub (show x ∈ addP (rowS nx p ps k).1 (nx p k) from hx) with hx | rfl
    · exact ih (by omega) x hx
    · exact hn _ _ hp (by omega) (by omega)
abbrev BS (P : Type) := List P × List (List Int)
def bstep (s : BS P) : BS P := match s.1[s.2.length]? with
  | none => s
  | some p => ((rowS nx p s.1 q).1, s.2 ++ [(rowS nx p s.1 q).2])
def bs : Nat → BS P
  | 0 => ([p0], [])
  | k + 1 => bstep nx q (bs k)
theorem bstep_pre (s : BS P) : s.1 <+: (bstep nx q s).1 := by
  unfold bstep
  split
  · exact List.prefix_refl _
  · exact rowS_pre ..
theorem bs_pre {j k : Nat} (h : j ≤ k) : (bs nx q p0 j).1 <+: (bs nx q p0 k).1 := by
  induction k with
  | zero => obtain rfl : j = 0 := by omega
            exact List.prefix_refl _
  | succ k ih =>
    rcases Nat.lt_or_ge j (k + 1) with h' | h'
    · exact (ih (by omega)).trans (bstep_pre nx q _)
    · obtain rfl : j = k + 1 := by omega
      exact List.prefix_refl _
structure BInv (s : BS P) : Prop where
  nd : s.1.Nodup
  le : s.2.length ≤ s.1.length
  fst : s.1[0]? = some p0
  row : ∀ (i : Nat) (row : List Int) (p : P), s.2[i]? = some row → s.1[i]? = some p → row.length = q ∧ ∀ j < q, ∃ v : Nat, row[j]? = some (v : Int) ∧ s.1[v]? = some (nx p j)
theorem bs_inv (k : Nat) : BInv nx q p0 (bs nx q p0 k) := by
  induction k with
  | zero => exact ⟨by simp [bs], by simp [bs], rfl, fun i row p h => by simp [bs] at h⟩
  | succ k ih =>
    show BInv nx q p0 (bstep nx q (bs nx q p0 k))
    generalize bs nx q p0 k = s at ih
    unfold bstep
    split
    · exact ih
    · rename_i p hp
      have hlt := (List.getElem?_eq_some_iff.mp hp).1
      have pre := rowS_pre nx p s.1 q
      refine ⟨rowS_nodup nx ih.nd p q, ?_, pre_get pre ih.fst, fun i row x hr hx => ?_⟩
      · have := pre.length_le
        simp only [List.length_append, List.length_singleton]
        omega
      · simp only at hr hx
        rcases Nat.lt_or_ge i s.2.length with h | h
        · rw [List.getElem?_append_left h] at hr
          have hi : i < s.1.length := by have := ih.le; omega
          have hx' : s.1[i]? = some x := by
            rw [List.getElem?_eq_getElem hi] at *
            have := pre_get pre (List.getElem?_eq_getElem hi)
            rw [this] at hx
            exact hx
          obtain ⟨a, b⟩ := ih.row i row x hr hx'
          refine ⟨a, fun j hj => ?_⟩
          obtain ⟨v, e1, e2⟩ := b j hj
          exact ⟨v, e1, pre_get pre e2⟩
        · rw [List.getElem?_append_right h] at hr
          have hi : i = s.2.length := by
            have := (List.getElem?_eq_some_iff.mp hr).1
            simp at this
            omega
          subst hi
          rw [Nat.sub_self] at hr
          obtain rfl : (rowS nx p s.1 q).2 = row := by simpa using hr
          rw [pre_get pre hp] at hx
          obtain rfl : p = x := by simpa using hx
          exact ⟨rowS_len .., rowS_get nx p s.1 q⟩
theorem bs_len (k : Nat) : (bs nx q p0 k).2.length = k ∨ ((bs nx q p0 k).2.length < k ∧ (bs nx q p0 k).2.length = (bs nx q p0 k).1.length) := by
  induction k with
  | zero => exact .inl rfl
  | succ k ih =>
    have inv := (bs_inv nx q p0 k).le
    show (bstep nx q (bs nx q p0 k)).2.length = k + 1 ∨ ((bstep nx q (bs nx q p0 k)).2.length < k + 1 ∧ (bstep nx q (bs nx q p0 k)).2.length = (bstep nx q (bs nx q p0 k)).1.length)
    generalize bs nx q p0 k = s at ih inv
    unfold bstep
    split
    · rename_i h
      have := List.getElem?_eq_none_iff.mp h
      refine .inr ⟨?_, by omega⟩
      rcases ih with h | h <;> omega
    · rename_i p h
      have := (List.getElem?_eq_some_iff.mp h).1
      rcases ih with h | h
      · exact .inl (by simp [h])
      · omega
theorem bs_stuck {k : Nat} (h : (bs nx q p0 k).2.length = (bs nx q p0 k).1.length) {j : Nat} (hj : k ≤ j) : bs nx q p0 j = bs nx q p0 k := by
  induction j with
  | zero => obtain rfl : k = 0 := by omega
            rfl
  | succ j ih =>
    rcases Nat.lt_or_ge k (j + 1) with h' | h'
    · have e := ih (by omega)
      show bstep nx q (bs nx q p0 j) = _
      rw [e]
      unfold bstep
      rw [List.getElem?_eq_none (by omega)]
    · obtain rfl : k = j + 1 := by omega
      rfl
@[irreducible] def cap : Nat := 101
theorem cap_eq : cap = 101 := by unfold cap; rfl
/-- the pairs and the rows, unless there are more than 100 -/
def jn : Option (BS P) := if 100 < (bs nx q p0 cap).1.length then none else some (bs nx q p0 cap)
theorem jn_none {k : Nat} (hk : k ≤ cap) (h : 100 < (bs nx q p0 k).1.length) : jn nx q p0 = none := by
  have := (bs_pre nx q p0 hk).length_le
  unfold jn
  rw [if_pos (by omega)]
theorem jn_some {k : Nat} (hk : k ≤ cap) (h : (bs nx q p0 k).2.length = (bs nx q p0 k).1.length) (h2 : (bs nx q p0 k).1.length ≤ 100) : jn nx q p0 = some (bs nx q p0 k) := by
  unfold jn
  rw [bs_stuck nx q p0 h hk, if_neg (by omega)]
theorem jn_at {s : BS P} (h : jn nx q p0 = some s) : s = bs nx q p0 cap ∧ s.1.length ≤ 100 ∧ s.2.length = s.1.length := by
  unfold jn at h
  split at h
  · cases h
  · cases h
    refine ⟨rfl, by omega, ?_⟩
    have := (bs_inv nx q p0 cap).le
    have := cap_eq
    rcases bs_len nx q p0 cap with h | h <;> omega
theorem bs_ok {ok : P → Prop} (h0 : ok p0) (hn : ∀ p l, ok p → 0 ≤ l → l < (q : Int) → ok (nx p l)) (k : Nat) : ∀ x ∈ (bs nx q p0 k).1, ok x := by
  induction k with
  | zero => exact fun x hx => by rw [show x = p0 by simpa [bs] using hx]; exact h0
  | succ k ih =>
    show ∀ x ∈ (bstep nx q (bs nx q p0 k)).1, ok x
    generalize bs nx q p0 k = s at ih
    unfold bstep
    split
    · exact ih
    · rename_i p hp
      exact rowS_sub nx q (ih p (List.mem_of_getElem? hp)) hn ih q (Nat.le_refl _)
variable (acc : P → Bool)
def mkT (s : BS P) : Tb := (s.2, s.1.map acc)
theorem jn_rdr {s : BS P} (h : jn nx q p0 = some s) : Rdr q (mkT acc s) := by
  obtain ⟨rfl, h1, h2⟩ := jn_at nx q p0 h
  have inv := bs_inv nx q p0 cap
  generalize bs nx q p0 cap = s at *
  have p : 0 < s.1.length := (List.getElem?_eq_some_iff.mp inv.fst).1
  refine ⟨by simp [mkT, h2], by simp only [mkT]; omega, by simp only [mkT]; omega, fun row hr => ?_⟩
  simp only [mkT] at hr ⊢
  obtain ⟨i, hi⟩ := List.mem_iff_getElem?.mp hr
  have hil := (List.getElem?_eq_some_iff.mp hi).1
  obtain ⟨a, b⟩ := inv.row i row _ hi (List.getElem?_eq_getElem (by omega))
  refine ⟨a, fun x hx => ?_⟩
  obtain ⟨j, hj⟩ := List.mem_iff_getElem?.mp hx
  have hjl := (List.getElem?_eq_some_iff.mp hj).1
  obtain ⟨v, e1, e2⟩ := b j (by omega)
  rw [e1] at hj
  obtain rfl : (v : Int) = x := by simpa using hj
  have := (List.getElem?_eq_some_iff.mp e2).1
  omega
theorem jn_run {s : BS P} (h : jn nx q p0 = some s) {w : List Int} (hw : LtW q w) : s.1[(runT (mkT acc s) 0 w).toNat]? = some (w.foldl nx p0) := by
  have R := jn_rdr nx q p0 acc h
  obtain ⟨rfl, h1, h2⟩ := jn_at nx q p0 h
  have inv := bs_inv nx q p0 cap
  generalize bs nx q p0 cap = s at *
  revert hw
  refine snoc_ind (C := fun w => LtW q w → s.1[(runT (mkT acc s) 0 w).toNat]? = some (w.foldl nx p0)) (fun _ => inv.fst) (fun w x ih hw => ?_) w
  obtain ⟨hw, x0, x1⟩ := hw.snoc
  have ih := ih hw
  have rg := R.run hw (Int.le_refl 0) (by have := R.2.1; omega)
  rw [runT_snoc, List.foldl_append]
  obtain ⟨row, e1, e2, e3, e4⟩ := R.ent rg.1 rg.2 x0 x1
  obtain ⟨a, b⟩ := inv.row _ row _ e1 ih
  obtain ⟨v, f1, f2⟩ := b x.toNat (by omega)
  rw [e2] at f1
  have : tx (mkT acc s) (runT (mkT acc s) 0 w) x = (v : Int) := by simpa using f1
  rw [this]
  have : ((x.toNat : Nat) : Int) = x := by omega
  rw [this] at f2
  simpa using f2
theorem jn_fin {s : BS P} (h : jn nx q p0 = some s) {w : List Int} (hw : LtW q w) : tf (mkT acc s) (runT (mkT acc s) 0 w) = acc (w.foldl nx p0) := by
  have := jn_run nx q p0 acc h hw
  unfold tf
  show (s.1.map acc).getD _ false = _
  rw [List.getD_eq_getElem?_getD, List.getElem?_map, this]
  rfl
end

/-! RB: the readers of a filter's lines. -/
def rdN (q : Nat) : Tb := ([List.replicate q 0], [false])
def rdE (q : Nat) : Tb := ([List.replicate q 1, List.replicate q 1], [true, false])
def rdC (q : Nat) (c : Int) : Tb := ([(iota q).map fun k => if k = c then 1 else 2, List.replicate q 2, List.replicate q 2], [false, true, false])
def nxO (r t : Tb) (p : Int × Int) (l : Int) : Int × Int := (tx r p.1 l, tx t p.2 l)
def acO (r t : Tb) (p : Int × Int) : Bool := tf r p.1 || tf t p.2
def fdB (r t : Tb) (p : Int × List Int) (l : Int) : List Int := p.2.map (fun k => tx t k l) ++ if tf r (tx r p.1 l) = true then [0] else []
def nxB (r t : Tb) (p : Int × List Int) (l : Int) : Int × List Int := (tx r p.1 l, srt (fdB r t p l))
def acB (t : Tb) (p : Int × List Int) : Bool := p.2.any (tf t)
def p0B (r : Tb) : Int × List Int := (0, if tf r 0 = true then [0] else [])
def ngT (r : Tb) : Tb := (r.1, r.2.map not)
def gT (F : List Tb) (i : Int) : Tb := F.getD i.toNat ([], [])
def rd1 (q : Nat) (F : List Tb) : D → Option Tb
  | .tup [.str s] => some (if s == Str.ofString "none" then rdN q else rdE q)
  | .tup [.str s, .int i] => some (if s == Str.ofString "letter" then rdC q i else ngT (gT F i))
  | .tup [.str s, .int i, .int j] => if s == Str.ofString "or" then (jn (nxO (gT F i) (gT F j)) q (0, 0)).map (mkT (acO (gT F i) (gT F j))) else (jn (nxB (gT F i) (gT F j)) q (p0B (gT F i))).map (mkT (acB (gT F j)))
  | _ => none
def rds (q : Nat) (ls : List D) : Option (List Tb) := ls.foldl (fun o d => o.bind fun F => (rd1 q F d).map fun t => F ++ [t]) (some [])
theorem rds_snoc (q : Nat) (ls : List D) (d : D) : rds q (ls ++ [d]) = (rds q ls).bind fun F => (rd1 q F d).map fun t => F ++ [t] := by
  unfold rds
  rw [List.foldl_append]
  rfl
theorem rds_step (q : Nat) {ls : List D} {i : Nat} {d : D} (h : ls[i]? = some d) : rds q (ls.take (i + 1)) = (rds q (ls.take i)).bind fun F => (rd1 q F d).map fun t => F ++ [t] := by
  rw [List.take_add_one, h]
  exact rds_snoc q _ d
theorem rds_none (q : Nat) (ls : List D) {i : Nat} (h : rds q (ls.take i) = none) : rds q ls = none := by
  have e : ls = ls.take i ++ ls.drop i := (List.take_append_drop i ls).symm
  rw [e]
  unfold rds at h ⊢
  rw [List.foldl_append, h]
  generalize ls.drop i = ms
  induction ms with
  | nil => rfl
  | cons m ms ih => exact ih
theorem rds_len (q : Nat) (ls : List D) : ∀ F, rds q ls = some F → F.length = ls.length := by
  refine snoc_ind (C := fun ls => ∀ F, rds q ls = some F → F.length = ls.length) ?_ ?_ ls
  · intro F h
    cases h
    rfl
  · intro ls d ih F h
    rw [rds_snoc] at h
    cases h' : rds q ls with
    | none => rw [h'] at h; cases h
    | some F' =>
      rw [h'] at h
      have h : ((rd1 q F' d).map fun t => F' ++ [t]) = some F := h
      cases h2 : rd1 q F' d with
      | none => rw [h2] at h; cases h
      | some t =>
        rw [h2] at h
        cases h
        simp [ih F' h']
theorem Goods.init {ls : List D} {d : D} (h : Goods (ls ++ [d])) : Goods ls ∧ Good d ls.length := by
  refine ⟨fun k x hx => h k x ?_, h ls.length d (by simp)⟩
  rw [List.getElem?_append_left (List.getElem?_eq_some_iff.mp hx).1]
  exact hx
theorem gT_get {F : List Tb} {i : Int} (h0 : 0 ≤ i) (h1 : i < F.length) : F[i.toNat]? = some (gT F i) := by
  have : i.toNat < F.length := by omega
  unfold gT
  rw [List.getD_eq_getElem?_getD, List.getElem?_eq_getElem this]
  rfl
theorem rdr_N (q : Nat) : Rdr q (rdN q) := by
  refine ⟨rfl, by simp [rdN], by simp [rdN], fun row hr => ?_⟩
  obtain rfl : row = List.replicate q 0 := by simpa [rdN] using hr
  exact ⟨by simp, fun x hx => by rw [List.eq_of_mem_replicate hx]; simp [rdN]⟩
theorem rdr_E (q : Nat) : Rdr q (rdE q) := by
  refine ⟨rfl, by simp [rdE], by simp [rdE], fun row hr => ?_⟩
  obtain rfl : row = List.replicate q 1 := by simpa [rdE] using hr
  exact ⟨by simp, fun x hx => by rw [List.eq_of_mem_replicate hx]; simp [rdE]⟩
theorem rdr_C (q : Nat) (c : Int) : Rdr q (rdC q c) := by
  refine ⟨rfl, by simp [rdC], by simp [rdC], fun row hr => ?_⟩
  have hr : row = ((iota q).map fun k => if k = c then (1 : Int) else 2) ∨ row = List.replicate q 2 := by simpa [rdC] using hr
  rcases hr with rfl | rfl
  · refine ⟨by simp [iota_len], fun x hx => ?_⟩
    obtain ⟨k, _, rfl⟩ := List.mem_map.mp hx
    show (0 : Int) ≤ _ ∧ _ < (3 : Int)
    split <;> omega
  · exact ⟨by simp, fun x hx => by rw [List.eq_of_mem_replicate hx]; simp [rdC]⟩
theorem rdr_ng {q : Nat} {r : Tb} (R : Rdr q r) : Rdr q (ngT r) := by
  refine ⟨?_, R.2⟩
  show r.1.length = (r.2.map not).length
  rw [List.length_map]
  exact R.1
theorem rd1_rdr {q : Nat} {F : List Tb} {d : D} {t : Tb} (hd : Good d F.length) (hF : ∀ t ∈ F, Rdr q t) (h : rd1 q F d = some t) : Rdr q t := by
  rcases good_cases hd with rfl | rfl | ⟨i, rfl⟩ | ⟨i, i0, i1, rfl⟩ | ⟨i, j, i0, i1, j0, j1, rfl⟩ | ⟨i, j, i0, i1, j0, j1, rfl⟩
  · obtain rfl : rdN q = t := by simpa [rd1] using h
    exact rdr_N q
  · obtain rfl : rdE q = t := by simpa [rd1, l_en] using h
    exact rdr_E q
  · obtain rfl : rdC q i = t := by simpa [rd1] using h
    exact rdr_C q i
  · obtain rfl : ngT (gT F i) = t := by simpa [rd1, l_nl, l_tl] using h
    exact rdr_ng (hF _ (List.mem_of_getElem? (gT_get i0 i1)))
  · have h : (jn (nxO (gT F i) (gT F j)) q (0, 0)).map (mkT (acO (gT F i) (gT F j))) = some t := by simpa [rd1] using h
    obtain ⟨s, hs, rfl⟩ := Option.map_eq_some_iff.mp h
    exact jn_rdr _ _ _ _ hs
  · have h : (jn (nxB (gT F i) (gT F j)) q (p0B (gT F i))).map (mkT (acB (gT F j))) = some t := by simpa [rd1, l_bo] using h
    obtain ⟨s, hs, rfl⟩ := Option.map_eq_some_iff.mp h
    exact jn_rdr _ _ _ _ hs
theorem rds_rdr {q : Nat} {ls : List D} : Goods ls → ∀ F, rds q ls = some F → ∀ t ∈ F, Rdr q t := by
  refine snoc_ind (C := fun ls => Goods ls → ∀ F, rds q ls = some F → ∀ t ∈ F, Rdr q t) ?_ ?_ ls
  · intro _ F h
    cases h
    exact fun t ht => absurd ht (by simp)
  · intro ls d ih hG F h
    obtain ⟨hG, hd⟩ := hG.init
    rw [rds_snoc] at h
    cases h' : rds q ls with
    | none => rw [h'] at h; cases h
    | some F' =>
      rw [h'] at h
      have h : ((rd1 q F' d).map fun t => F' ++ [t]) = some F := h
      obtain ⟨t, ht, rfl⟩ := Option.map_eq_some_iff.mp h
      intro u hu
      rcases List.mem_append.mp hu with hu | hu
      · exact ih hG F' h' u hu
      · rw [List.mem_singleton.mp hu]
        exact rd1_rdr (by rw [rds_len q ls F' h']; exact hd) (ih hG F' h') ht
/-! ### what they take -/
theorem foldl_nxO (r t : Tb) (w : List Int) (a b : Int) : w.foldl (nxO r t) (a, b) = (runT r a w, runT t b w) := by
  induction w generalizing a b with
  | nil => rfl
  | cons x w ih => exact ih _ _
theorem foldl_nxB (r t : Tb) (w : List Int) : (w.foldl (nxB r t) (p0B r)).1 = runT r 0 w ∧ ∀ k, k ∈ (w.foldl (nxB r t) (p0B r)).2 ↔ ∃ j, j ≤ w.length ∧ tf r (runT r 0 (w.take j)) = true ∧ k = runT t 0 (w.drop j) := by
  refine snoc_ind (C := fun w => (w.foldl (nxB r t) (p0B r)).1 = runT r 0 w ∧ ∀ k, k ∈ (w.foldl (nxB r t) (p0B r)).2 ↔ ∃ j, j ≤ w.length ∧ tf r (runT r 0 (w.take j)) = true ∧ k = runT t 0 (w.drop j)) ?_ ?_ w
  · refine ⟨rfl, fun k => ?_⟩
    show k ∈ (if tf r 0 = true then [0] else []) ↔ _
    constructor
    · intro h
      split at h
      · rename_i h2
        exact ⟨0, Nat.le_refl _, h2, by simpa [runT] using h⟩
      · cases h
    · rintro ⟨j, hj, h1, rfl⟩
      have h1 : tf r 0 = true := by simpa [runT] using h1
      rw [if_pos h1]
      simp [runT]
  · rintro w x ⟨e, ih⟩
    rw [List.foldl_append, runT_snoc]
    generalize w.foldl (nxB r t) (p0B r) = p at e ih
    have e1 : tx r p.1 x = tx r (runT r 0 w) x := by rw [e]
    refine ⟨e1, fun k => ?_⟩
    show k ∈ srt (fdB r t p x) ↔ _
    rw [mem_srt]
    unfold fdB
    rw [List.mem_append, List.mem_map, e1, ← runT_snoc]
    constructor
    · rintro (⟨y, hy, rfl⟩ | h)
      · obtain ⟨j, hj, h1, rfl⟩ := (ih y).mp hy
        refine ⟨j, by simp; omega, by rw [List.take_append_of_le_length hj]; exact h1, ?_⟩
        rw [List.drop_append_of_le_length hj, runT_snoc]
      · split at h
        · rename_i h2
          refine ⟨(w ++ [x]).length, Nat.le_refl _, by rw [List.take_length]; exact h2, ?_⟩
          rw [List.drop_length]
          simpa [runT] using h
        · cases h
    · rintro ⟨j, hj, h1, rfl⟩
      have hj : j ≤ w.length + 1 := by simpa using hj
      rcases Nat.lt_or_ge w.length j with h | h
      · obtain rfl : j = w.length + 1 := by omega
        have e2 : (w ++ [x]).take (w.length + 1) = w ++ [x] := List.take_of_length_le (by simp)
        have e3 : (w ++ [x]).drop (w.length + 1) = [] := List.drop_of_length_le (by simp)
        rw [e2] at h1
        rw [e3, if_pos h1]
        exact .inr (by simp [runT])
      · rw [List.take_append_of_le_length h] at h1
        rw [List.drop_append_of_le_length h, runT_snoc]
        exact .inl ⟨_, (ih _).mpr ⟨j, h, h1, rfl⟩, rfl⟩
def sl (w : List Int) (a b : Nat) : List Int := (w.drop a).take (b - a)
theorem sl_len {w : List Int} {a b : Nat} (h1 : a ≤ b) (h2 : b ≤ w.length) : (sl w a b).length = b - a := by
  simp [sl]; omega
theorem sl_take {w : List Int} {a b k : Nat} (h : a + k ≤ b) : (sl w a b).take k = sl w a (a + k) := by
  simp only [sl, List.take_take]
  congr 1; omega
theorem sl_drop {w : List Int} {a b k : Nat} : (sl w a b).drop k = sl w (a + k) b := by
  simp only [sl, List.drop_take, List.drop_drop]
  congr 1; omega
theorem sl_ltW {q : Nat} {w : List Int} (h : LtW q w) (a b : Nat) : LtW q (sl w a b) := fun x hx => h x (List.mem_of_mem_drop (List.mem_of_mem_take hx))
def Sem (w : List Int) (t : Tb) (f : BT) : Prop := ∀ a b, a ≤ b → b ≤ w.length → tf t (runT t 0 (sl w a b)) = f a b
theorem getD_rep {q : Nat} {l : Int} (x : Int) (h0 : 0 ≤ l) (h1 : l < q) : (List.replicate q x).getD l.toNat 0 = x := by
  rw [List.getD_eq_getElem?_getD, List.getElem?_replicate, if_pos (by omega)]
  rfl
theorem getD_let {q : Nat} {l : Int} (c : Int) (h0 : 0 ≤ l) (h1 : l < q) : ((iota q).map fun k => if k = c then (1 : Int) else 2).getD l.toNat 0 = if l = c then 1 else 2 := by
  rw [List.getD_eq_getElem?_getD, List.getElem?_map, iota, List.getElem?_map, List.getElem?_range (by omega)]
  show (if ((l.toNat : Nat) : Int) = c then (1 : Int) else 2) = _
  rw [Int.toNat_of_nonneg h0]
theorem run_N {q : Nat} {w : List Int} (h : LtW q w) : runT (rdN q) 0 w = 0 := by
  induction w with
  | nil => rfl
  | cons x w ih =>
    obtain ⟨hx, hw⟩ := List.forall_mem_cons.mp h
    have e : tx (rdN q) 0 x = 0 := getD_rep 0 hx.1 hx.2
    show runT (rdN q) (tx (rdN q) 0 x) w = 0
    rw [e]; exact ih hw
theorem run_E1 {q : Nat} {w : List Int} (h : LtW q w) : runT (rdE q) 1 w = 1 := by
  induction w with
  | nil => rfl
  | cons x w ih =>
    obtain ⟨hx, hw⟩ := List.forall_mem_cons.mp h
    have e : tx (rdE q) 1 x = 1 := getD_rep 1 hx.1 hx.2
    show runT (rdE q) (tx (rdE q) 1 x) w = 1
    rw [e]; exact ih hw
theorem run_C2 {q : Nat} (c : Int) {w : List Int} (h : LtW q w) : runT (rdC q c) 2 w = 2 := by
  induction w with
  | nil => rfl
  | cons x w ih =>
    obtain ⟨hx, hw⟩ := List.forall_mem_cons.mp h
    have e : tx (rdC q c) 2 x = 2 := getD_rep 2 hx.1 hx.2
    show runT (rdC q c) (tx (rdC q c) 2 x) w = 2
    rw [e]; exact ih hw
theorem tk_E {q : Nat} {w : List Int} (h : LtW q w) : tf (rdE q) (runT (rdE q) 0 w) = decide (w.length = 0) := by
  cases w with
  | nil => rfl
  | cons x w =>
    obtain ⟨hx, hw⟩ := List.forall_mem_cons.mp h
    have e : tx (rdE q) 0 x = 1 := getD_rep 1 hx.1 hx.2
    show tf (rdE q) (runT (rdE q) (tx (rdE q) 0 x) w) = _
    rw [e, run_E1 hw]
    simp [tf, rdE]
theorem tk_C {q : Nat} (c : Int) {w : List Int} (h : LtW q w) : tf (rdC q c) (runT (rdC q c) 0 w) = (decide (w.length = 1) && decide (w.getD 0 0 = c)) := by
  cases w with
  | nil => rfl
  | cons x w =>
    obtain ⟨hx, hw⟩ := List.forall_mem_cons.mp h
    have e : tx (rdC q c) 0 x = if x = c then 1 else 2 := getD_let c hx.1 hx.2
    show tf (rdC q c) (runT (rdC q c) (tx (rdC q c) 0 x) w) = _
    rw [e]
    cases w with
    | nil =>
      by_cases h : x = c
      · simp [h, runT, tf, rdC]
      · simp [h, runT, tf, rdC]
    | cons y w =>
      obtain ⟨hy, hw'⟩ := List.forall_mem_cons.mp hw
      have e2 : tx (rdC q c) 1 y = 2 := getD_rep 2 hy.1 hy.2
      by_cases h : x = c
      · rw [if_pos h]
        show tf (rdC q c) (runT (rdC q c) (tx (rdC q c) 1 y) w) = _
        rw [e2, run_C2 c hw']
        simp [tf, rdC]
      · rw [if_neg h, run_C2 c hw]
        simp [tf, rdC]
theorem tk_ng {q : Nat} {r : Tb} (R : Rdr q r) {w : List Int} (h : LtW q w) : tf (ngT r) (runT (ngT r) 0 w) = !tf r (runT r 0 w) := by
  have e : runT (ngT r) 0 w = runT r 0 w := rfl
  rw [e]
  have rg := R.run h (Int.le_refl 0) (by have := R.2.1; omega)
  have f := R.fin rg.1 rg.2
  have : (ngT r).2[(runT r 0 w).toNat]? = some (!tf r (runT r 0 w)) := by
    show (r.2.map not)[_]? = _
    rw [List.getElem?_map, f]
    rfl
  unfold tf at this ⊢
  rw [List.getD_eq_getElem?_getD, this]
  rfl
theorem getF {Fs : List BT} {i : Int} (h0 : 0 ≤ i) (h1 : i < Fs.length) : Fs[i.toNat]? = some (gF Fs i) := by
  have : i.toNat < Fs.length := by omega
  unfold gF
  rw [List.getD_eq_getElem?_getD, List.getElem?_eq_getElem this]
  rfl
def SemF (w : List Int) (F : List Tb) (Fs : List BT) : Prop := F.length = Fs.length ∧ ∀ (i : Nat) t f, F[i]? = some t → Fs[i]? = some f → Sem w t f
theorem rd1_sem {q : Nat} {w : List Int} (hw : LtW q w) {F : List Tb} {Fs : List BT} {d : D} {t : Tb} (hd : Good d F.length) (hF : ∀ t ∈ F, Rdr q t) (S : SemF w F Fs) (h : rd1 q F d = some t) : Sem w t (rB w Fs d) := by
  intro a b hab hb
  have hl := sl_ltW hw a b
  have hlen := sl_len hab hb
  show _ = if a ≤ b then vB w Fs d a b else false
  rw [if_pos hab]
  have sem : ∀ {i : Int}, 0 ≤ i → i < F.length → Sem w (gT F i) (gF Fs i) := fun h0 h1 => S.2 _ _ _ (gT_get h0 h1) (getF h0 (by rw [← S.1]; exact h1))
  rcases good_cases hd with rfl | rfl | ⟨i, rfl⟩ | ⟨i, i0, i1, rfl⟩ | ⟨i, j, i0, i1, j0, j1, rfl⟩ | ⟨i, j, i0, i1, j0, j1, rfl⟩
  · obtain rfl : rdN q = t := by simpa [rd1] using h
    rw [run_N hl]
    simp [vB, bot, tf, rdN]
  · obtain rfl : rdE q = t := by simpa [rd1, l_en] using h
    rw [tk_E hl, hlen]
    simp only [vB, l_en, Bool.false_eq_true, if_false]
    exact decide_eq_decide.mpr ⟨fun h => by omega, fun h => by omega⟩
  · obtain rfl : rdC q i = t := by simpa [rd1] using h
    rw [tk_C i hl, hlen]
    simp only [vB, beq_self_eq_true, if_true]
    by_cases hb1 : b = a + 1
    · have e : (sl w a b).getD 0 0 = w.getD a 0 := by
        unfold sl
        rw [List.getD_eq_getElem?_getD, List.getD_eq_getElem?_getD, List.getElem?_take_of_lt (by omega), List.getElem?_drop]
        rfl
      rw [e]
      simp [hb1]
    · have : ¬ b - a = 1 := by omega
      simp [hb1, this]
  · obtain rfl : ngT (gT F i) = t := by simpa [rd1, l_nl, l_tl] using h
    rw [tk_ng (hF _ (List.mem_of_getElem? (gT_get i0 i1))) hl, sem i0 i1 a b hab hb]
    simp only [vB, l_tl, Bool.false_eq_true, if_false]
  · have h : (jn (nxO (gT F i) (gT F j)) q (0, 0)).map (mkT (acO (gT F i) (gT F j))) = some t := by simpa [rd1] using h
    obtain ⟨s, hs, rfl⟩ := Option.map_eq_some_iff.mp h
    rw [jn_fin _ _ _ _ hs hl, foldl_nxO]
    simp only [vB, acO, beq_self_eq_true, if_true]
    rw [sem i0 i1 a b hab hb, sem j0 j1 a b hab hb]
  · have h : (jn (nxB (gT F i) (gT F j)) q (p0B (gT F i))).map (mkT (acB (gT F j))) = some t := by simpa [rd1, l_bo] using h
    obtain ⟨s, hs, rfl⟩ := Option.map_eq_some_iff.mp h
    rw [jn_fin _ _ _ _ hs hl]
    simp only [vB, acB, l_bo, Bool.false_eq_true, if_false]
    obtain ⟨_, hm⟩ := foldl_nxB (gT F i) (gT F j) (sl w a b)
    rw [Bool.eq_iff_iff, List.any_eq_true, List.any_eq_true]
    constructor
    · rintro ⟨k, hk, hk2⟩
      obtain ⟨m, hm1, hm2, rfl⟩ := (hm k).mp hk
      rw [hlen] at hm1
      rw [sl_take (by omega), sem i0 i1 a (a + m) (by omega) (by omega)] at hm2
      rw [sl_drop, sem j0 j1 (a + m) b (by omega) hb] at hk2
      exact ⟨m, List.mem_range.mpr (by omega), by rw [hm2, hk2]; rfl⟩
    · rintro ⟨m, hm1, hm2⟩
      have hm1 := List.mem_range.mp hm1
      rw [Bool.and_eq_true] at hm2
      refine ⟨_, (hm _).mpr ⟨m, by omega, ?_, rfl⟩, ?_⟩
      · rw [sl_take (by omega), sem i0 i1 a (a + m) (by omega) (by omega)]
        exact hm2.1
      · rw [sl_drop, sem j0 j1 (a + m) b (by omega) hb]
        exact hm2.2
theorem rds_sem {q : Nat} {w : List Int} (hw : LtW q w) {ls : List D} : Goods ls → ∀ F, rds q ls = some F → SemF w F (spn w ls) := by
  refine snoc_ind (C := fun ls => Goods ls → ∀ F, rds q ls = some F → SemF w F (spn w ls)) ?_ ?_ ls
  · intro _ F h
    cases h
    exact ⟨rfl, fun i t f ht => by simp at ht⟩
  · intro ls d ih hG F h
    obtain ⟨hG, hd⟩ := hG.init
    rw [rds_snoc] at h
    cases h' : rds q ls with
    | none => rw [h'] at h; cases h
    | some F' =>
      rw [h'] at h
      have h : ((rd1 q F' d).map fun t => F' ++ [t]) = some F := h
      obtain ⟨t, ht, rfl⟩ := Option.map_eq_some_iff.mp h
      have S := ih hG F' h'
      have hd : Good d F'.length := by rw [rds_len q ls F' h']; exact hd
      have one := rd1_sem hw hd (rds_rdr hG F' h') S ht
      have e : spn w (ls ++ [d]) = spn w ls ++ [rB w (spn w ls) d] := by simp [spn, List.foldl_append]
      rw [e]
      refine ⟨by simp [S.1], fun i u f hu hf => ?_⟩
      rcases Nat.lt_or_ge i F'.length with hi | hi
      · rw [List.getElem?_append_left hi] at hu
        rw [List.getElem?_append_left (by rw [← S.1]; exact hi)] at hf
        exact S.2 i u f hu hf
      · rw [List.getElem?_append_right hi] at hu
        rw [List.getElem?_append_right (by rw [← S.1]; exact hi)] at hf
        have z : i - F'.length = 0 := by
          have := (List.getElem?_eq_some_iff.mp hu).1
          simpa using this
        rw [z] at hu
        rw [← S.1, z] at hf
        cases hu
        cases hf
        exact one
/-- the last reader takes what the filter takes -/
theorem rds_takes {q : Nat} {w : List Int} (hw : LtW q w) {ls : List D} (hG : Goods ls) (h0 : ls ≠ []) {F : List Tb} (h : rds q ls = some F) : ∃ t, F[F.length - 1]? = some t ∧ Rdr q t ∧ tf t (runT t 0 w) = tkn w ls := by
  have S := rds_sem hw hG F h
  have hl := rds_len q ls F h
  have hp : 0 < ls.length := List.length_pos_iff.mpr h0
  have hF : F.length - 1 < F.length := by omega
  have hS : F.length - 1 < (spn w ls).length := by rw [spn_len]; omega
  refine ⟨F[F.length - 1], List.getElem?_eq_getElem hF, rds_rdr hG F h _ (List.getElem_mem hF), ?_⟩
  have := S.2 _ _ _ (List.getElem?_eq_getElem hF) (List.getElem?_eq_getElem hS) 0 w.length (Nat.zero_le _) (Nat.le_refl _)
  have e : sl w 0 w.length = w := by simp [sl]
  rw [e] at this
  rw [this]
  unfold tkn lastF
  rw [List.getD_eq_getElem?_getD]
  have e2 : (spn w ls).length - 1 = F.length - 1 := by rw [← S.1]
  rw [e2, List.getElem?_eq_getElem hS]
  rfl

/-! RC: pairs of states as data. -/
structure EncP (P : Type) where
  enc : P → D
  key : P → NestedKey
  hk : ∀ p, keyN (enc p) = some (key p)
  inj : ∀ p r, key p = key r → p = r
  nice : ∀ n p, (enc p).nice (n + 2) = true
  eqv : ∀ p r, (enc p).eqv (enc r) = true ↔ p = r
  pure : ∀ p, (enc p).pure = true
def encO (p : Int × Int) : D := .tup [.int p.1, .int p.2]
def encB (p : Int × List Int) : D := .tup [.int p.1, intsT p.2]
theorem nks_ints (xs : List Int) : nksOf (xs.map D.int) = some (xs.map NestedKey.num) := by
  induction xs with
  | nil => rfl
  | cons x xs ih =>
    show (match nkOf (.int x), nksOf (xs.map D.int) with | some k, some ks => some (k :: ks) | _, _ => none) = _
    rw [ih]
    rfl
theorem map_num {xs ys : List Int} (h : xs.map NestedKey.num = ys.map NestedKey.num) : xs = ys := by
  induction xs generalizing ys with
  | nil => cases ys with
    | nil => rfl
    | cons y ys => simp at h
  | cons x xs ih => cases ys with
    | nil => simp at h
    | cons y ys =>
      simp only [List.map_cons, List.cons.injEq, NestedKey.num.injEq] at h
      rw [h.1, ih h.2]
theorem dep_nums (xs : List Int) : (NestedKey.tup (xs.map NestedKey.num)).depth ≤ 2 := by
  have : ∀ xs : List Int, NestedKey.depthAll (xs.map NestedKey.num) ≤ 1 := by
    intro xs
    induction xs with
    | nil => simp [NestedKey.depthAll]
    | cons x xs ih =>
      simp only [List.map_cons, NestedKey.depthAll, NestedKey.depth]
      omega
  have := this xs
  simp only [NestedKey.depth]
  omega
def EO : EncP (Int × Int) where
  enc := encO
  key p := .tup [.num p.1, .num p.2]
  hk p := by
    have h : nkOf (encO p) = some (.tup [.num p.1, .num p.2]) := rfl
    unfold keyN
    rw [h]
    have : (NestedKey.tup [.num p.1, .num p.2]).depth ≤ 8 := Nat.le_trans (dep_nums [p.1, p.2]) (by decide)
    simp only [encO]
    rw [if_pos (by simpa using this)]
  inj p r h := by
    simp only [NestedKey.tup.injEq, List.cons.injEq, NestedKey.num.injEq] at h
    exact Prod.ext h.1 h.2.1
  nice n p := by simp [encO, D.nice, nices]
  eqv p r := by
    show (D.tup ([p.1, p.2].map D.int)).eqv (.tup ([r.1, r.2].map D.int)) = true ↔ _
    rw [eqv_tup_ints, decide_eq_true_eq]
    constructor
    · intro h
      simp only [List.cons.injEq] at h
      exact Prod.ext h.1 h.2.1
    · rintro rfl; rfl
  pure p := rfl
def EB : EncP (Int × List Int) where
  enc := encB
  key p := .tup [.num p.1, .tup (p.2.map .num)]
  hk p := by
    have h : nkOf (encB p) = some (.tup [.num p.1, .tup (p.2.map .num)]) := by
      unfold encB intsT
      simp only [nkOf, nksOf, nks_ints]
      rfl
    unfold keyN
    rw [h]
    have : (NestedKey.tup [.num p.1, .tup (p.2.map .num)]).depth ≤ 8 := by
      have := dep_nums p.2
      simp only [NestedKey.depth, NestedKey.depthAll] at this ⊢
      omega
    simp only [encB]
    rw [if_pos (by simpa using this)]
  inj p r h := by
    simp only [NestedKey.tup.injEq, List.cons.injEq, NestedKey.num.injEq] at h
    exact Prod.ext h.1 (map_num h.2.1)
  nice n p := by
    show nices (n + 1) [.int p.1, intsT p.2] = true
    simp only [nices, nice_int, nice_intsT, Bool.and_self]
  eqv p r := by
    have h : (encB p).eqv (encB r) = (decide (p.1 = r.1) && decide (p.2 = r.2)) := by
      have h1 := eqv_tup_ints p.2 r.2
      have h2 := eqv_int p.1 r.1
      show PyData.eqvAll (pys [.int p.1, intsT p.2]) (pys [.int r.1, intsT r.2]) = _
      simp only [D.eqv] at h1 h2
      simp only [pys, PyData.eqvAll, intsT]
      rw [h1, h2, Bool.and_true]
      congr 1
    rw [h, Bool.and_eq_true, decide_eq_true_eq, decide_eq_true_eq]
    exact ⟨fun h => Prod.ext h.1 h.2, fun h => by rw [h]; exact ⟨rfl, rfl⟩⟩
  pure p := by
    show pures [.int p.1, intsT p.2] = true
    simp [pures, D.pure, intsT]
section
variable {P : Type} [DecidableEq P] (E : EncP P)
theorem EncP.pures (ps : List P) : pures (ps.map E.enc) = true := by
  rw [pures_iff]
  intro d hd
  obtain ⟨p, _, rfl⟩ := List.mem_map.mp hd
  exact E.pure p
theorem EncP.val (μ : Mu) (p : P) : val μ (E.enc p) = E.enc p := val_pure (E.pure p) μ
theorem EncP.nices (ps : List P) : (D.lst (ps.map E.enc)).nice 60 = true := nice_map (fun p => E.nice 57 p) ps
theorem EncP.any (ps : List P) (p : P) : (ps.map E.enc).any (fun z => z.eqv (E.enc p)) = decide (p ∈ ps) := by
  rw [Bool.eq_iff_iff, decide_eq_true_eq, List.any_eq_true]
  constructor
  · rintro ⟨d, hd, h⟩
    obtain ⟨r, hr, rfl⟩ := List.mem_map.mp hd
    rw [← (E.eqv r p).mp h]
    exact hr
  · intro h
    exact ⟨_, List.mem_map.mpr ⟨p, h, rfl⟩, (E.eqv p p).mpr rfl⟩
theorem in_ps (neg : Bool) (p : P) {ps : List P} {c : Nat} {μ : Mu} (h : μ[c]? = some (some (.lst (ps.map E.enc)))) : inD neg (E.enc p) (.cell c) μ = some (.ok (.bl (neg ^^ decide (p ∈ ps))) μ) := by
  have h1 : (E.enc p).nice 60 = true := E.nice 58 p
  have h2 := E.nices ps
  have e : G4.val μ (.cell c) = .lst (ps.map E.enc) := val_cell h
  have e0 := E.val μ p
  have e3 := E.any ps p
  unfold inD
  simp only [e, e0, h1, h2, e3, Bool.and_self, if_true]
theorem find_ps (p : P) (ps : List P) (h : p ∈ ps) : ((ps.map E.enc).findIdx? fun z => z.eqv (E.enc p)) = some (ps.idxOf p) := by
  induction ps with
  | nil => cases h
  | cons x xs ih =>
    rw [List.map_cons, List.findIdx?_cons, List.idxOf_cons]
    by_cases hx : x = p
    · rw [if_pos ((E.eqv x p).mpr hx)]
      simp [hx]
    · rw [if_neg (fun z => hx ((E.eqv x p).mp z))]
      rw [ih (by rcases List.mem_cons.mp h with h | h; exact absurd h.symm hx; exact h)]
      have : (x == p) = false := by simpa using hx
      simp [this]
theorem idx_ps (p : P) {ps : List P} (h : p ∈ ps) (μ : Mu) : idx1 (.lst (ps.map E.enc)) [E.enc p] μ = some (.ok (.int (ps.idxOf p : Nat)) μ) := by
  have e0 := E.val μ p
  exact idx1_ok (E.nices ps) (by rw [e0]; exact E.nice 58 p) (by rw [e0]; exact find_ps E p ps h)
def kv (ps : List P) : List (NestedKey × Int) := ps.zipIdx.map fun x => (E.key x.1, ((x.2 : Nat) : Int))
theorem kv_snoc (ps : List P) (p : P) : kv E (ps ++ [p]) = kv E ps ++ [(E.key p, (ps.length : Int))] := by
  unfold kv
  rw [List.zipIdx_append]
  simp
theorem kv_len (ps : List P) : (kv E ps).length = ps.length := by simp [kv]
theorem lk_kv (p : P) (ps : List P) : lkN (kv E ps) (E.key p) = if p ∈ ps then some ((ps.idxOf p : Nat) : Int) else none := by
  have gen : ∀ (ps : List P) (k : Nat), lkN ((ps.zipIdx k).map fun x => (E.key x.1, ((x.2 : Nat) : Int))) (E.key p) = if p ∈ ps then some (((k + ps.idxOf p : Nat)) : Int) else none := by
    intro ps
    induction ps with
    | nil => intro k; rfl
    | cons x xs ih =>
      intro k
      rw [List.zipIdx_cons, List.map_cons]
      unfold lkN
      by_cases hx : x = p
      · rw [List.find?_cons_of_pos (by simp [hx]), if_pos (by simp [hx]), List.idxOf_cons]
        simp [hx]
      · rw [List.find?_cons_of_neg (by simpa using fun z => hx (E.inj _ _ z))]
        have := ih (k + 1)
        unfold lkN at this
        rw [this]
        have hx' : ¬ p = x := fun z => hx z.symm
        have hb : (x == p) = false := by simpa using hx
        by_cases hm : p ∈ xs
        · rw [if_pos hm, if_pos (List.mem_cons_of_mem _ hm), List.idxOf_cons, hb]
          simp only [cond_false]
          congr 2; omega
        · rw [if_neg hm, if_neg (by simp [hx', hm])]
  have := gen ps 0
  rw [Nat.zero_add] at this
  exact this
end

/-! RD: one step of two readers. -/
def rdL (r : Tb) : List D := [.lst (r.1.map intsL), .lst (r.2.map D.bl)]
theorem pures_rows (T : List (List Int)) : pures (T.map intsL) = true := by
  rw [pures_iff]
  intro d hd
  obtain ⟨x, _, rfl⟩ := List.mem_map.mp hd
  exact pure_intsL x
theorem pures_bls (T : List Bool) : pures (T.map D.bl) = true := by
  rw [pures_iff]
  intro d hd
  obtain ⟨x, _, rfl⟩ := List.mem_map.mp hd
  rfl
theorem pure_rdL (r : Tb) : pures (rdL r) = true := by simp only [rdL, pures, D.pure, pures_rows, pures_bls, Bool.and_self]
@[simp] theorem at_rd0 (r : Tb) : atI (rdL r) 0 = some (.lst (r.1.map intsL)) := rfl
@[simp] theorem at_rd1 (r : Tb) : atI (rdL r) 1 = some (.lst (r.2.map D.bl)) := rfl
theorem at_rows {q : Nat} {r : Tb} (R : Rdr q r) {s l : Int} (h0 : 0 ≤ s) (h1 : s < r.1.length) (l0 : 0 ≤ l) (l1 : l < q) :
    ∃ row, (∀ μ, oIx (.lst (r.1.map intsL)) (.int s) μ = some (.ok (intsL row) μ)) ∧ ∀ μ, oIx (intsL row) (.int l) μ = some (.ok (.int (tx r s l)) μ) := by
  obtain ⟨row, e1, e2, _⟩ := R.ent h0 h1 l0 l1
  refine ⟨row, fun μ => ?_, fun μ => ?_⟩
  · rw [oIx_lst, atI_ok h0 (d := intsL row) (by rw [List.getElem?_map, e1]; rfl)]
    rfl
  · unfold intsL
    rw [oIx_lst, atI_ok l0 (d := .int (tx r s l)) (by rw [List.getElem?_map, e2]; rfl)]
    rfl
theorem at_fin {q : Nat} {r : Tb} (R : Rdr q r) {s : Int} (h0 : 0 ≤ s) (h1 : s < r.1.length) (μ : Mu) : oIx (.lst (r.2.map D.bl)) (.int s) μ = some (.ok (.bl (tf r s)) μ) := by
  rw [oIx_lst, atI_ok h0 (d := .bl (tf r s)) (by rw [List.getElem?_map, R.fin h0 h1]; rfl)]
  rfl
def okO (r t : Tb) (p : Int × Int) : Prop := (0 ≤ p.1 ∧ p.1 < r.1.length) ∧ 0 ≤ p.2 ∧ p.2 < t.1.length
def okB (r t : Tb) (p : Int × List Int) : Prop := (0 ≤ p.1 ∧ p.1 < r.1.length) ∧ p.2.Pairwise (· < ·) ∧ ∀ k ∈ p.2, 0 ≤ k ∧ k < t.1.length
section
variable {q : Nat} {r t : Tb}
theorem okO_0 (R : Rdr q r) (S : Rdr q t) : okO r t (0, 0) := by
  have h1 := R.2.1
  have h2 := S.2.1
  exact ⟨⟨Int.le_refl 0, by show (0 : Int) < _; omega⟩, Int.le_refl 0, by show (0 : Int) < _; omega⟩
theorem okO_nx (R : Rdr q r) (S : Rdr q t) (p : Int × Int) (l : Int) (h : okO r t p) (l0 : 0 ≤ l) (l1 : l < q) : okO r t (nxO r t p l) := by
  obtain ⟨_, _, _, a⟩ := R.ent h.1.1 h.1.2 l0 l1
  obtain ⟨_, _, _, b⟩ := S.ent h.2.1 h.2.2 l0 l1
  exact ⟨a, b⟩
theorem okB_0 (R : Rdr q r) (S : Rdr q t) : okB r t (p0B r) := by
  have h1 := R.2.1
  have h2 := S.2.1
  refine ⟨⟨Int.le_refl 0, by show (0 : Int) < _; omega⟩, ?_, fun k hk => ?_⟩
  · show (if tf r 0 = true then ([0] : List Int) else []).Pairwise _
    split <;> simp
  · have hk : k ∈ (if tf r 0 = true then ([0] : List Int) else []) := hk
    split at hk
    · rw [List.mem_singleton.mp hk]
      omega
    · cases hk
theorem fdB_rg (R : Rdr q r) (S : Rdr q t) {p : Int × List Int} {l : Int} (h : okB r t p) (l0 : 0 ≤ l) (l1 : l < q) : ∀ k ∈ fdB r t p l, 0 ≤ k ∧ k < t.1.length := by
  have h2 := S.2.1
  intro k hk
  rcases List.mem_append.mp hk with hk | hk
  · obtain ⟨y, hy, rfl⟩ := List.mem_map.mp hk
    obtain ⟨_, _, _, b⟩ := S.ent (h.2.2 y hy).1 (h.2.2 y hy).2 l0 l1
    exact b
  · split at hk
    · rw [List.mem_singleton.mp hk]
      omega
    · cases hk
theorem okB_nx (R : Rdr q r) (S : Rdr q t) (p : Int × List Int) (l : Int) (h : okB r t p) (l0 : 0 ≤ l) (l1 : l < q) : okB r t (nxB r t p l) := by
  obtain ⟨_, _, _, a⟩ := R.ent h.1.1 h.1.2 l0 l1
  exact ⟨a, srt_sorted _, fun k hk => fdB_rg R S h l0 l1 k (mem_srt.mp hk)⟩
theorem okB_len (S : Rdr q t) {p : Int × List Int} (h : okB r t p) : p.2.length ≤ 100 := by
  have nd : p.2.Nodup := h.2.1.imp fun h z => by omega
  have := nodup_le nd (m := iota t.1.length) fun k hk => by
    have := h.2.2 k hk
    exact List.mem_map.mpr ⟨k.toNat, List.mem_range.mpr (by omega), by omega⟩
  rw [iota_len] at this
  have := S.2.2.1
  omega
theorem step_or_spec (R : Rdr q r) (S : Rdr q t) {p : Int × Int} {l : Int} (h : okO r t p) (l0 : 0 ≤ l) (l1 : l < q) (μ : Mu) : m_step_or [.tup (rdL r), .tup (rdL t), encO p, .int l] μ = some (.ok (encO (nxO r t p l)) μ) := SpnQ.out (by
  refine Rn.run ?_
  obtain ⟨row, a1, a2⟩ := at_rows R h.1.1 h.1.2 l0 l1
  obtain ⟨row2, b1, b2⟩ := at_rows S h.2.1 h.2.2 l0 l1
  simp [b_step_or, encO, ix_0, ix_1, a1, a2, b1, b2]
  rw [leave_pure rfl]
  exact ⟨_, _, rfl, rfl, by simp⟩)
theorem step_behind_spec (R : Rdr q r) (S : Rdr q t) {p : Int × List Int} {l : Int} (h : okB r t p) (l0 : 0 ≤ l) (l1 : l < q) (μ : Mu) : m_step_behind [.tup (rdL r), .tup (rdL t), encB p, .int l] μ = some (.ok (encB (nxB r t p l)) μ) := SpnQ.out (by
  refine Rn.run ?_
  obtain ⟨row, a1, a2⟩ := at_rows R h.1.1 h.1.2 l0 l1
  obtain ⟨_, _, _, g0, g1⟩ := R.ent h.1.1 h.1.2 l0 l1
  have hf := fun μ => at_fin R g0 g1 μ
  have hl := okB_len S h
  have cm : compI (tName 6) eYes (body1 (eOp oIx (eOp oIx (eOp oIx (eVar 1) (eC (.int 0))) (eVar 6)) (eVar 3))) [some (.tup (rdL r)), some (.tup (rdL t)), some (encB p), some (.int l), some (.int (tx r p.1 l)), none, none] (p.2.map D.int) μ = some (.ok (p.2.map fun k => tx t k l) μ) := by
    refine compI_map D.int (fun k => tx t k l) fun k hk => ?_
    obtain ⟨row2, b1, b2⟩ := at_rows S (h.2.2 k hk).1 (h.2.2 k hk).2 l0 l1
    simp [b1, b2]
  have st := set1_ok (μ1 := μ) cm (by rw [List.length_map]; omega)
  have x0 : ∀ μ, oIx (encB p) (.int 0) μ = some (.ok (.int p.1) μ) := fun μ => rfl
  have x1 : ∀ μ, oIx (encB p) (.int 1) μ = some (.ok (intsT p.2) μ) := fun μ => rfl
  have an : ∀ μ, any1 (some (.ok (intsT p.2) μ)) = some (.ok (.its (p.2.map D.int)) μ) := fun μ => rfl
  have fin : ∀ xs, xs = fdB r t p l → leave μ.length (.tup [.int (tx r p.1 l), .tup ((srt xs).map D.int)]) (μ ++ [some (.set xs)]) = some (.ok (encB (nxB r t p l)) μ) := by
    rintro _ rfl
    rw [leave_pure (by simp [D.pure, pures])]
    rw [take_end]
    rfl
  simp [b_step_behind, x0, x1, an, a1, a2]
  rw [st]
  simp [hf]
  refine Sk.seq_ifs (fun hb => ?_) fun hb => ?_
  · simp
    rw [sadd1_ok (xs := p.2.map fun k => tx t k l) (ys := p.2.map fun k => tx t k l) (i := 0) (μ1 := μ ++ [some (.set (p.2.map fun k => tx t k l))]) (by simp) rfl (by simp) (by rw [List.length_map]; omega)]
    simp
    rw [srtV_ok (xs := (p.2.map fun k => tx t k l) ++ [0]) (by simp) (by simp; omega)]
    simp
    rw [fin _ (by unfold fdB; rw [if_pos hb])]
    exact ⟨_, _, rfl, rfl, rfl⟩
  · simp
    rw [srtV_ok (xs := (p.2.map fun k => tx t k l)) (by simp) (by simp; omega)]
    simp
    rw [fin _ (by unfold fdB; rw [hb]; simp)]
    exact ⟨_, _, rfl, rfl, rfl⟩)
end

/-! RE: the states of two readers joined, as the program goes on. -/
noncomputable def jStep : Ev D := eIf (eTest (eOp oEq (eVar 0) (eC (.str "or")))) (eCall m_step_or (aCons (eVar 1) (aCons (eVar 2) (aCons (eVar 6) (aCons (eVar 8) aNil))))) (eCall m_step_behind (aCons (eVar 1) (aCons (eVar 2) (aCons (eVar 6) (aCons (eVar 8) aNil)))))
noncomputable def jTurn (n0 : Nat) : Sv := sSeq (sSet 9 jStep) (sSeq (sIf (eTest (eOp oNotIn (eVar 9) (eVar 5))) (sDrop (eMt (oAppend n0) (eVar 5) (aCons (eVar 9) aNil))) sNil) (sDrop (eMt (oAppend n0) (eVar 7) (aCons (eIdx (eVar 5) (aCons (eVar 9) aNil)) aNil))))
noncomputable def jEnd (n0 : Nat) : Sv := sSeq (sDrop (eMt (oAppend n0) (eVar 4) (aCons (eFrz (eVar 7)) aNil))) (sIf (eTest (eOp oGt (eB oLen (aCons (eVar 5) aNil)) (eC (.int 100)))) (sRaise "TooManyStates") sNil)
noncomputable def jFor (n0 : Nat) : Sv := sFor (iRg1 (aCons (eVar 3) aNil)) (tName 8) (jTurn n0)
noncomputable def jBody (n0 : Nat) : Sv := sSeq (sSet 6 (eOp oIx (eVar 5) (eB oLen (aCons (eVar 4) aNil)))) (sSeq (sSet 7 (eLstC aNil)) (sSeq (jFor n0) (jEnd n0)))
noncomputable def jTest : Ev Bool := eTest (eOp oLt (eB oLen (aCons (eVar 4) aNil)) (eB oLen (aCons (eVar 5) aNil)))
section
variable {P : Type} [DecidableEq P] (E : EncP P)
def js (A : Mu) (ps : List P) (rows : List (List Int)) (Y : Mu) : Mu := A ++ some (.lst (ps.map E.enc)) :: some (.lst (rows.map intsL)) :: Y
theorem js_ps (A : Mu) (ps : List P) (rows : List (List Int)) (Y : Mu) : (js E A ps rows Y)[A.length]? = some (some (.lst (ps.map E.enc))) := by simp [js]
theorem js_rw (A : Mu) (ps : List P) (rows : List (List Int)) (Y : Mu) : (js E A ps rows Y)[A.length + 1]? = some (some (.lst (rows.map intsL))) := by simp [js]
theorem js_yy (A : Mu) (ps : List P) (rows : List (List Int)) (Y : Mu) (x : Option M) : (js E A ps rows (Y ++ [x]))[A.length + 2 + Y.length]? = some x := by
  unfold js
  rw [List.getElem?_append_right (by omega)]
  have : A.length + 2 + Y.length - A.length = Y.length + 1 + 1 := by omega
  rw [this]
  simp
theorem js_sps (A : Mu) (ps ps' : List P) (rows : List (List Int)) (Y : Mu) : (js E A ps rows Y).set A.length (some (.lst (ps'.map E.enc))) = js E A ps' rows Y := by simp [js]
theorem js_srw (A : Mu) (ps : List P) (rows rows' : List (List Int)) (Y : Mu) : (js E A ps rows Y).set (A.length + 1) (some (.lst (rows'.map intsL))) = js E A ps rows' Y := by
  unfold js
  rw [List.set_append_right _ _ (by omega)]
  have : A.length + 1 - A.length = 1 := by omega
  rw [this]
  rfl
theorem js_syy (A : Mu) (ps : List P) (rows : List (List Int)) (Y : Mu) (x y : Option M) : (js E A ps rows (Y ++ [x])).set (A.length + 2 + Y.length) y = js E A ps rows (Y ++ [y]) := by
  unfold js
  rw [List.set_append_right _ _ (by omega)]
  have : A.length + 2 + Y.length - A.length = Y.length + 1 + 1 := by omega
  rw [this]
  simp
theorem js_app (A : Mu) (ps : List P) (rows : List (List Int)) (Y Z : Mu) : js E A ps rows Y ++ Z = js E A ps rows (Y ++ Z) := by simp [js]
theorem js_len (A : Mu) (ps : List P) (rows : List (List Int)) (Y : Mu) : (js E A ps rows Y).length = A.length + 2 + Y.length := by simp [js]; omega
theorem js_take (A : Mu) (ps : List P) (rows : List (List Int)) (Y : Mu) : (js E A ps rows Y).take A.length = A := by simp [js]
def jE (kd one two : D) (q : Nat) (a : Nat) (x6 x7 x8 x9 : Option D) : G4.Env := [some kd, some one, some two, some (.int q), some (.cell (a + 1)), some (.cell a), x6, x7, x8, x9, none, none, none, none, none]
variable (nx : P → Int → P) (q : Nat) (p0 : P) (ok : P → Prop) (kd one two : D)
def JStep : Prop := ∀ (a : Nat) (x7 x9 : Option D) (p : P) (l : Int) (ν : Mu), ok p → 0 ≤ l → l < q → jStep (jE kd one two q a (some (E.enc p)) x7 (some (.int l)) x9) ν = some (.ok (E.enc (nx p l)) ν)
def JTurn (A : Mu) (ps : List P) (rows : List (List Int)) (Y : Mu) (p : P) (c : Nat) : Nat → G4.Env → Mu → Prop := fun i ρ μ => ∃ x8 x9, ρ = jE kd one two q A.length (some (E.enc p)) (some (.cell c)) x8 x9 ∧
  μ = js E A (rowS nx p ps i).1 rows (Y ++ [some (.lst ((rowS nx p ps i).2.map D.int))])
theorem jfor_ok (hst : JStep E nx q ok kd one two) (hq : q ≤ 3) {A : Mu} {ps : List P} (hps : ps.length ≤ 100) {rows : List (List Int)} {Y : Mu} {p : P} (hp : ok p) (x8 x9 : Option D) :
    Sk (jFor A.length (jE kd one two q A.length (some (E.enc p)) (some (.cell (A.length + 2 + Y.length))) x8 x9) (js E A ps rows (Y ++ [some (.lst [])]))) fun fl => ∃ y8 y9, fl = .nx (jE kd one two q A.length (some (E.enc p)) (some (.cell (A.length + 2 + Y.length))) y8 y9) (js E A (rowS nx p ps q).1 rows (Y ++ [some (.lst ((rowS nx p ps q).2.map D.int))])) := by
  have rq : rOk (q : Int) = true := rOk_of (by omega) (by omega)
  unfold jFor
  simp [jE, rq]
  refine Sk.loop (JTurn E nx q kd one two A ps rows Y p (A.length + 2 + Y.length)) ⟨x8, x9, rfl, rfl⟩ ?_ ?_
  · rintro i d ρ μ hd ⟨y8, y9, rfl, rfl⟩
    obtain ⟨hi, rfl⟩ := rng_get hd
    rw [turn1_name]
    refine Go.of ?_
    have hs := hst A.length (some (.cell (A.length + 2 + Y.length))) y9 p (0 + (i : Int)) (js E A (rowS nx p ps i).1 rows (Y ++ [some (.lst ((rowS nx p ps i).2.map D.int))])) hp (by omega) (by omega)
    have sz := rowS_size nx p ps i
    have ln := rowS_len nx p ps i
    have e1 : rowS nx p ps (i + 1) = (addP (rowS nx p ps i).1 (nx p i), (rowS nx p ps i).2 ++ [(((addP (rowS nx p ps i).1 (nx p i)).idxOf (nx p i) : Nat) : Int)]) := rfl
    generalize rowS nx p ps i = S at *
    rw [Int.zero_add] at hs ⊢
    generalize nx p (i : Int) = r at *
    have hb : (jE kd one two q A.length (some (E.enc p)) (some (.cell (A.length + 2 + Y.length))) y8 y9).set 8 (some (.int i)) = jE kd one two q A.length (some (E.enc p)) (some (.cell (A.length + 2 + Y.length))) (some (.int i)) y9 := rfl
    rw [hb]
    unfold jTurn
    rw [sSeq_ap, sSet_ap, hs]
    have ni := in_ps E true r (js_ps E A S.1 rows (Y ++ [some (.lst (S.2.map D.int))]))
    simp only [sets_ok, seqs_nx, sSeq_ap, sIf_ap, eTest_ap, eOp_ap]
    have g9 : ∀ ν, eVar 9 ((jE kd one two q A.length (some (E.enc p)) (some (.cell (A.length + 2 + Y.length))) (some (.int i)) y9).set 9 (some (E.enc r))) ν = some (.ok (E.enc r) ν) := fun _ => rfl
    have g5 : ∀ ν, eVar 5 ((jE kd one two q A.length (some (E.enc p)) (some (.cell (A.length + 2 + Y.length))) (some (.int i)) y9).set 9 (some (E.enc r))) ν = some (.ok (.cell A.length) ν) := fun _ => rfl
    have g7 : ∀ ν, eVar 7 ((jE kd one two q A.length (some (E.enc p)) (some (.cell (A.length + 2 + Y.length))) (some (.int i)) y9).set 9 (some (E.enc r))) ν = some (.ok (.cell (A.length + 2 + Y.length)) ν) := fun _ => rfl
    have fin : ∀ ps', ps' = addP S.1 r → Sk (sDrop (eMt (oAppend A.length) (eVar 7) (aCons (eIdx (eVar 5) (aCons (eVar 9) aNil)) aNil)) ((jE kd one two q A.length (some (E.enc p)) (some (.cell (A.length + 2 + Y.length))) (some (.int i)) y9).set 9 (some (E.enc r)))
        (js E A ps' rows (Y ++ [some (.lst (S.2.map D.int))]))) fun fl => Go (JTurn E nx q kd one two A ps rows Y p (A.length + 2 + Y.length) (i + 1)) (fun fl => ∃ y8 y9, fl = .nx (jE kd one two q A.length (some (E.enc p)) (some (.cell (A.length + 2 + Y.length))) y8 y9) (js E A (rowS nx p ps q).1 rows (Y ++ [some (.lst ((rowS nx p ps q).2.map D.int))]))) (some fl) := by
      rintro _ rfl
      have ci : idx0 (some (.ok (.cell A.length) (js E A (addP S.1 r) rows (Y ++ [some (.lst (S.2.map D.int))])))) (aCons (eVar 9) aNil ((jE kd one two q A.length (some (E.enc p)) (some (.cell (A.length + 2 + Y.length))) (some (.int i)) y9).set 9 (some (E.enc r)))) = some (.ok (.int ((addP S.1 r).idxOf r : Nat)) (js E A (addP S.1 r) rows (Y ++ [some (.lst (S.2.map D.int))]))) := by
        rw [idx0_cell (as := [E.enc r]) (js_ps ..) (by rw [aCons_ap, g9]; rfl) (js_ps ..)]
        exact idx_ps E r (addP_mem _ _) _
      rw [sDrop_ap, eMt_ap, g7, mt1_ok (as := [.int ((addP S.1 r).idxOf r : Nat)]) (js_yy ..) (by rw [aCons_ap, eIdx_ap, g5, ci]; rfl) (js_yy ..), oAppend_ok (by rw [List.length_map]; omega) (by simp [D.pure]), js_syy]
      rw [drops_ok, Sk_ok, Go_nx]
      refine ⟨_, _, rfl, ?_⟩
      rw [e1]
      simp
    rw [g9, op2_ok, g5, op2'_ok]
    rw [show oNotIn = inD true from rfl, ni]
    by_cases hm : r ∈ S.1
    · have ea : addP S.1 r = S.1 := if_pos hm
      simp only [hm, decide_true, Bool.xor_self, tst_ok, ifs_f, sNil_ap, seqs_nx]
      exact fin _ ea.symm
    · have ea : addP S.1 r = S.1 ++ [r] := if_neg hm
      simp only [hm, decide_false, Bool.xor_false, tst_ok, ifs_t, sDrop_ap, eMt_ap, g5]
      rw [mt1_ok (as := [E.enc r]) (js_ps ..) (by rw [aCons_ap, g9]; rfl) (js_ps ..), oAppend_ok (by rw [List.length_map]; omega) (by simp [E.pure]), drops_ok, seqs_nx]
      have e2 : S.1.map E.enc ++ [E.enc r] = (S.1 ++ [r]).map E.enc := by simp
      rw [e2, js_sps]
      exact fin _ ea.symm
  · rintro ρ μ ⟨y8, y9, rfl, rfl⟩
    rw [rngD_length]
    exact ⟨y8, y9, rfl⟩
def JI (A : Mu) : Nat → G4.Env → Mu → Prop := fun m ρ μ => ∃ k x6 x7 x8 x9 Y, m + k = 101 ∧ (bs nx q p0 k).2.length = k ∧ (bs nx q p0 k).1.length ≤ 100 ∧ ρ = jE kd one two q A.length x6 x7 x8 x9 ∧ μ = js E A (bs nx q p0 k).1 (bs nx q p0 k).2 Y
def JQ (A : Mu) : Fl → Prop := fun fl => (jn nx q p0 = none ∧ ∃ ρ μ, fl = .ex ⟨"TooManyStates", []⟩ ρ μ ∧ μ.take A.length = A) ∨
  ∃ s x6 x7 x8 x9 Y, jn nx q p0 = some s ∧ fl = .nx (jE kd one two q A.length x6 x7 x8 x9) (js E A s.1 s.2 Y)
theorem jloop_ok (hst : JStep E nx q ok kd one two) (hq : q ≤ 3) (h0 : ok p0) (hn : ∀ p l, ok p → 0 ≤ l → l < (q : Int) → ok (nx p l)) (A : Mu) :
    Sk (loopW jTest (jBody A.length) fuel (jE kd one two q A.length none none none none) (js E A [p0] [] [])) (JQ E nx q p0 kd one two A) := by
  refine wh_rule (JI E nx q p0 kd one two A) ?_ fuel 101 _ _ (by unfold fuel; omega) ⟨0, none, none, none, none, [], rfl, rfl, by simp [bs], rfl, rfl⟩
  rintro m ρ μ ⟨k, x6, x7, x8, x9, Y, hm, hk, h1, rfl, rfl⟩
  have inv := bs_inv nx q p0 k
  have hok := bs_ok nx q p0 h0 hn k
  have cp := cap_eq
  have l5 := fun Y => oLen_cell (js_ps E A (bs nx q p0 k).1 (bs nx q p0 k).2 Y)
  have l4 := fun Y => oLen_cell (js_rw E A (bs nx q p0 k).1 (bs nx q p0 k).2 Y)
  simp only [List.length_map] at l4 l5
  have nxt : bs nx q p0 (k + 1) = bstep nx q (bs nx q p0 k) := rfl
  have hle := inv.le
  have hnn := fun h => jn_none nx q p0 (k := k + 1) (by omega) h
  have hss := fun h h2 => jn_some nx q p0 (k := k) (by omega) h h2
  generalize hS : bs nx q p0 k = S at *
  refine ⟨decide (S.2.length < S.1.length), js E A S.1 S.2 Y, ?_, fun hb => ?_, fun hb => ?_⟩
  · simp [jTest, jE, l4, l5]
  · have hb : ¬ S.2.length < S.1.length := by simpa using hb
    exact .inr ⟨S, x6, x7, x8, x9, Y, hss (by omega) h1, rfl⟩
  · have hb : S.2.length < S.1.length := by simpa using hb
    refine ⟨m - 1, by omega, Go.of ?_⟩
    have hp := List.getElem?_eq_getElem hb
    have pok := hok _ (List.getElem_mem hb)
    generalize S.1[S.2.length] = p at hp pok
    have ea : atI (S.1.map E.enc) (S.2.length : Int) = some (E.enc p) := atI_ok (by omega) (by rw [Int.toNat_natCast, List.getElem?_map, hp]; rfl)
    have nx1 : bstep nx q S = ((rowS nx p S.1 q).1, S.2 ++ [(rowS nx p S.1 q).2]) := by
      unfold bstep
      rw [hp]
    rw [nx1] at nxt
    have sz := rowS_size nx p S.1 q
    have rl := rowS_len nx p S.1 q
    have ix := fun Y => oIx_cell (js_ps E A S.1 S.2 Y) (S.2.length : Int)
    unfold jBody
    simp [jE, l4, ix, ea]
    rw [js_app, js_len]
    refine Sk.cut (fun ρ μ => ∃ y8 y9, ρ = jE kd one two q A.length (some (E.enc p)) (some (.cell (A.length + 2 + Y.length))) y8 y9 ∧ μ = js E A (rowS nx p S.1 q).1 S.2 (Y ++ [some (.lst ((rowS nx p S.1 q).2.map D.int))])) ?_ ?_
    · obtain ⟨fl, e, y8, y9, rfl⟩ := jfor_ok E nx q ok kd one two hst hq (A := A) (ps := S.1) h1 (rows := S.2) (Y := Y) pok x8 x9
      exact ⟨_, e, y8, y9, rfl, rfl⟩
    · rintro ρ μ ⟨y8, y9, rfl, rfl⟩
      generalize rowS nx p S.1 q = N at *
      have f7 : frz1 (some (.ok (.cell (A.length + 2 + Y.length)) (js E A N.1 S.2 (Y ++ [some (.lst (N.2.map D.int))])))) = some (.ok (intsL N.2) (js E A N.1 S.2 (Y ++ [none]))) := by
        rw [frz1_cell (js_yy ..) (by simp), js_syy]
        rfl
      have l5' := oLen_cell (js_ps E A N.1 (S.2 ++ [N.2]) (Y ++ [none]))
      rw [List.length_map] at l5'
      unfold jEnd
      simp only [sSeq_ap, sDrop_ap, eMt_ap]
      have g4 : ∀ ν, eVar 4 (jE kd one two q A.length (some (E.enc p)) (some (.cell (A.length + 2 + Y.length))) y8 y9) ν = some (.ok (.cell (A.length + 1)) ν) := fun _ => rfl
      have g5 : ∀ ν, eVar 5 (jE kd one two q A.length (some (E.enc p)) (some (.cell (A.length + 2 + Y.length))) y8 y9) ν = some (.ok (.cell A.length) ν) := fun _ => rfl
      have g7 : ∀ ν, eVar 7 (jE kd one two q A.length (some (E.enc p)) (some (.cell (A.length + 2 + Y.length))) y8 y9) ν = some (.ok (.cell (A.length + 2 + Y.length)) ν) := fun _ => rfl
      rw [g4, mt1_ok (as := [intsL N.2]) (μ1 := js E A N.1 S.2 (Y ++ [none])) (js_rw ..) (by rw [aCons_ap, eFrz_ap, g7, f7]; rfl) (js_rw ..), oAppend_ok (by rw [List.length_map]; omega) (by simp [pure_intsL])]
      have e2 : S.2.map intsL ++ [intsL N.2] = (S.2 ++ [N.2]).map intsL := by simp
      rw [e2, js_srw, drops_ok, seqs_nx, sIf_ap, eTest_ap, eOp_ap, eB_ap, aCons_ap, g5]
      simp [l5']
      by_cases h100 : (100 : Int) < N.1.length
      · simp [h100]
        refine .inl ⟨hnn (by rw [nxt]; show 100 < N.1.length; omega), _, _, rfl, js_take ..⟩
      · simp [h100]
        refine ⟨k + 1, some (E.enc p), some (.cell (A.length + 2 + Y.length)), y8, y9, Y ++ [none], by omega, ?_, ?_, rfl, ?_⟩
        · rw [nxt]; simp [hk]
        · rw [nxt]; show N.1.length ≤ 100; omega
        · rw [nxt]
end

/-! RF: joined, readers_of, reader_of. -/
/-- over a cell, any target, no test -/
theorem comps_cumap {α : Type} {ρ : G4.Env} {μ : Mu} {mk : List D → Mu → Ro D} {tg : Tv} {te : Ev D} {c : Nat} (e : α → D) (ρ' : α → G4.Env) (g : α → D) {xs : List α} (hc : μ[c]? = some (some (.lst (xs.map e)))) (hk : ∀ x ∈ xs, tg (e x) ρ μ = some (.ok (ρ' x) μ)) (hg : ∀ x ∈ xs, te (ρ' x) μ = some (.ok (g x) μ)) :
    comps mk (some (.ok (.cel c) μ)) tg eYes te ρ = mk (xs.map g) μ := by
  have cur : Src.cur μ (.cel c) = some (xs.map e) := by simp [Src.cur, viewL, hc]
  have gen : ∀ n i, n + i = xs.length → compN (.cel c) tg eYes te ρ n i μ = some (.ok ((xs.drop i).map g) μ) := by
    intro n
    induction n with
    | zero =>
      intro i hi
      rw [List.drop_eq_nil_of_le (by omega)]
      simp only [compN, cur]
      rw [if_pos (by rw [List.length_map]; omega)]
      rfl
    | succ n ih =>
      intro i hi
      have hl : i < xs.length := by omega
      rw [List.drop_eq_getElem_cons hl]
      simp only [compN, cur, List.getElem?_map, List.getElem?_eq_getElem hl, Option.map_some]
      simp only [stepC, hk _ (List.getElem_mem hl), eYes_ap, hg _ (List.getElem_mem hl), ih (i + 1) (by omega)]
      rfl
  rw [comps_cel hc (ys := xs.map g) (μ1 := μ)]
  have := gen xs.length 0 rfl
  rw [List.length_map]
  exact this
def jres (o : Bool) (q : Nat) (r t : Tb) : Option Tb := if o = true then (jn (nxO r t) q (0, 0)).map (mkT (acO r t)) else (jn (nxB r t) q (p0B r)).map (mkT (acB t))
def kdD (o : Bool) : D := if o = true then .str "or" else .str "behind"
def ResQ (o : Option Tb) (μ : Mu) : Rs D → Prop := fun x => match o with
  | none => x = .exc ⟨"TooManyStates", []⟩ μ
  | some t => x = .ok (.tup (rdL t)) μ
theorem orV_bb {b c : Bool} {k : Mu → Ro D} {μ : Mu} (h : k μ = some (.ok (.bl c) μ)) : orV (some (.ok (.bl b) μ)) k = some (.ok (.bl (b || c)) μ) := by
  cases b
  · rw [orV_f, h]; rfl
  · rfl
theorem oEq_ss (s t : Str) (hs : PyData.strOk s = true) (ht : PyData.strOk t = true) (μ : Mu) : oEq (.str s) (.str t) μ = some (.ok (.bl (s == t)) μ) := oEq_str hs ht μ
section
variable {q : Nat} {r t : Tb}
theorem jstep_or (R : Rdr q r) (S : Rdr q t) : JStep EO (nxO r t) q (okO r t) (.str "or") (.tup (rdL r)) (.tup (rdL t)) := by
  intro a x7 x9 p l ν hp l0 l1
  have h1 := oEq_ss _ _ ok_or ok_or ν
  have h2 := step_or_spec R S hp l0 l1 ν
  simp [jStep, jE, h1]
  exact call1_ok h2
theorem jstep_be (R : Rdr q r) (S : Rdr q t) : JStep EB (nxB r t) q (okB r t) (.str "behind") (.tup (rdL r)) (.tup (rdL t)) := by
  intro a x7 x9 p l ν hp l0 l1
  have h1 := oEq_ss _ _ ok_behind ok_or ν
  have h2 := step_behind_spec R S hp l0 l1 ν
  simp [jStep, jE, h1, l_bo]
  exact call1_ok h2
theorem js_none {P : Type} [DecidableEq P] (E : EncP P) (A : Mu) (ps : List P) (rows : List (List Int)) (Y : Mu) : ((js E A ps rows Y).set (A.length + 1) none)[A.length]? = some (some (.lst (ps.map E.enc))) ∧ ((js E A ps rows Y).set (A.length + 1) none).take A.length = A := by
  constructor
  · rw [List.getElem?_set]
    have : ¬ A.length + 1 = A.length := by omega
    rw [if_neg this]
    exact js_ps ..
  · rw [List.take_set_of_le (by omega)]
    exact js_take ..
theorem joined_or (R : Rdr q r) (S : Rdr q t) (hq : q ≤ 3) (μ : Mu) : Rt (m_joined [.str "or", .tup (rdL r), .tup (rdL t), .int q] μ) (ResQ ((jn (nxO r t) q (0, 0)).map (mkT (acO r t))) μ) := by
  refine Rt.run ?_
  have h1 := fun μ => oEq_ss _ _ ok_or ok_or μ
  simp [b_joined, h1]
  obtain ⟨fl, e, h⟩ := jloop_ok EO (nxO r t) q (0, 0) (okO r t) (.str "or") (.tup (rdL r)) (.tup (rdL t)) (jstep_or R S) hq (okO_0 R S) (okO_nx R S) μ
  have e : loopW _ _ fuel [some (.str "or"), some (.tup (rdL r)), some (.tup (rdL t)), some (.int q), some (.cell (μ.length + 1)), some (.cell μ.length), none, none, none, none, none, none, none, none, none] (μ ++ [some (.lst [.tup [.int 0, .int 0]]), some (.lst [])]) = some fl := e
  simp only [jTest, jBody, jFor, jTurn, jEnd, jStep] at e
  rw [e]
  rcases h with ⟨hn, ρ', μ', rfl, ht⟩ | ⟨s, x6, x7, x8, x9, Y, hs, rfl⟩
  · rw [hn]
    simp
    rw [ht]
    rfl
  · rw [hs]
    have hr := jn_rdr _ _ _ (acO r t) hs
    have sl := (jn_at _ _ _ hs).2
    have oks : ∀ x ∈ s.1, okO r t x := by
      rw [(jn_at _ _ _ hs).1]
      exact bs_ok _ _ _ (okO_0 R S) (okO_nx R S) _
    obtain ⟨n1, n2⟩ := js_none EO μ s.1 s.2 Y
    have f4 : frz1 (some (.ok (.cell (μ.length + 1)) (js EO μ s.1 s.2 Y))) = some (.ok (.lst (s.2.map intsL)) ((js EO μ s.1 s.2 Y).set (μ.length + 1) none)) := frz1_cell (js_rw ..) (pures_rows _)
    generalize (js EO μ s.1 s.2 Y).set (μ.length + 1) none = ν at *
    have cm := comps_cumap (mk := newL) (tg := tTupT 2 (tConss (tName 12) (tConss (tName 13) tNils))) (te := eOrV (eOp oIx (eOp oIx (eVar 1) (eC (.int 1))) (eVar 12)) (eOp oIx (eOp oIx (eVar 2) (eC (.int 1))) (eVar 13))) (ρ := [some (.str "or"), some (.tup (rdL r)), some (.tup (rdL t)), some (.int q), some (.cell (μ.length + 1)), some (.cell μ.length), x6, x7, x8, x9, none, none, none, none, none]) (μ := ν) (xs := s.1) encO (fun p => [some (.str "or"), some (.tup (rdL r)), some (.tup (rdL t)), some (.int q), some (.cell (μ.length + 1)), some (.cell μ.length), x6, x7, x8, x9, none, none, some (.int p.1), some (.int p.2), none]) (fun p => .bl (acO r t p)) n1 (fun p _ => by simp [encO]) (fun p hp => by
      obtain ⟨⟨a1, a2⟩, b1, b2⟩ := oks p hp
      have h1 := at_fin R a1 a2 ν
      have h2 := at_fin S b1 b2 ν
      simp [h1]
      rw [orV_bb (by simp [h2]; rfl)]
      rfl)
    simp [jE, h1, f4]
    rw [any1_cell n1, cm, newL_ok (by rw [List.length_map]; omega)]
    simp
    have e2 : s.1.map (fun p => D.bl (acO r t p)) = (mkT (acO r t) s).2.map D.bl := by simp [mkT]
    rw [e2]
    have e3 : D.tup [.lst (s.2.map intsL), .lst ((mkT (acO r t) s).2.map D.bl)] = .tup (rdL (mkT (acO r t) s)) := rfl
    rw [e3, leave_pure (show (D.tup (rdL _)).pure = true from pure_rdL _), n2]
    rw [Rt_ok]
    rfl
theorem joined_be (R : Rdr q r) (S : Rdr q t) (hq : q ≤ 3) (μ : Mu) : Rt (m_joined [.str "behind", .tup (rdL r), .tup (rdL t), .int q] μ) (ResQ ((jn (nxB r t) q (p0B r)).map (mkT (acB t))) μ) := by
  refine Rt.run ?_
  have h1 := fun μ => oEq_ss _ _ ok_behind ok_or μ
  have f0 := fun μ => at_fin R (s := 0) (Int.le_refl 0) (by have := R.2.1; omega) μ
  have st : ∀ ρ ν, ρ[1]? = some (some (.tup (rdL r))) → eTup (aCons (eC (.int 0)) (aCons (eIf (eTru (eOp oIx (eOp oIx (eVar 1) (eC (.int 1))) (eC (.int 0)))) (eTup (aCons (eC (.int 0)) aNil)) (eTup aNil)) aNil)) ρ ν = some (.ok (encB (p0B r)) ν) := by
    intro ρ ν h
    have g1 : eVar 1 ρ ν = some (.ok (.tup (rdL r)) ν) := by rw [eVar_ap, h]
    simp [g1, f0, -eVar_ap]
    by_cases hb : tf r 0 = true
    · simp [hb, encB, p0B, intsT]
    · have hb : tf r 0 = false := by simpa using hb
      simp [hb, encB, p0B, intsT]
  simp only [b_joined, sSeq_ap, sIf_ap, eTest_ap, eOp_ap, eVar_ap, List.map_cons, List.map_nil, List.cons_append, List.getElem?_cons_zero, op2_ok, eC_ap, op2'_ok, h1, l_bo, tst_ok, ifs_f, sSet_ap, eLstC_ap]
  rw [aCons_ap, st _ _ rfl]
  simp
  obtain ⟨fl, e, h⟩ := jloop_ok EB (nxB r t) q (p0B r) (okB r t) (.str "behind") (.tup (rdL r)) (.tup (rdL t)) (jstep_be R S) hq (okB_0 R S) (okB_nx R S) μ
  have e : loopW _ _ fuel [some (.str "behind"), some (.tup (rdL r)), some (.tup (rdL t)), some (.int q), some (.cell (μ.length + 1)), some (.cell μ.length), none, none, none, none, none, none, none, none, none] (μ ++ [some (.lst [encB (p0B r)]), some (.lst [])]) = some fl := e
  simp only [jTest, jBody, jFor, jTurn, jEnd, jStep] at e
  rw [e]
  rcases h with ⟨hn, ρ', μ', rfl, ht⟩ | ⟨s, x6, x7, x8, x9, Y, hs, rfl⟩
  · rw [hn]
    simp
    rw [ht]
    rfl
  · rw [hs]
    have hr := jn_rdr _ _ _ (acB t) hs
    have sl := (jn_at _ _ _ hs).2
    have oks : ∀ x ∈ s.1, okB r t x := by
      rw [(jn_at _ _ _ hs).1]
      exact bs_ok _ _ _ (okB_0 R S) (okB_nx R S) _
    obtain ⟨n1, n2⟩ := js_none EB μ s.1 s.2 Y
    have f4 : frz1 (some (.ok (.cell (μ.length + 1)) (js EB μ s.1 s.2 Y))) = some (.ok (.lst (s.2.map intsL)) ((js EB μ s.1 s.2 Y).set (μ.length + 1) none)) := frz1_cell (js_rw ..) (pures_rows _)
    generalize (js EB μ s.1 s.2 Y).set (μ.length + 1) none = ν at *
    have cm := comps_cumap (mk := newL) (tg := tTupT 2 (tConss (tName 10) (tConss (tName 11) tNils))) (te := eGen (iAnyD (eVar 11)) (tName 14) eYes (bY true (eOp oIx (eOp oIx (eVar 2) (eC (.int 1))) (eVar 14))) [14] true) (ρ := [some (.str "behind"), some (.tup (rdL r)), some (.tup (rdL t)), some (.int q), some (.cell (μ.length + 1)), some (.cell μ.length), x6, x7, x8, x9, none, none, none, none, none]) (μ := ν) (xs := s.1) encB (fun p => [some (.str "behind"), some (.tup (rdL r)), some (.tup (rdL t)), some (.int q), some (.cell (μ.length + 1)), some (.cell μ.length), x6, x7, x8, x9, some (.int p.1), some (intsT p.2), none, none, none]) (fun p => .bl (acB t p)) n1 (fun p _ => by simp [encB]) (fun p hp => by
      obtain ⟨_, _, b⟩ := oks p hp
      have an : ∀ μ, any1 (some (.ok (intsT p.2) μ)) = some (.ok (.its (p.2.map D.int)) μ) := fun μ => rfl
      simp [an]
      rw [gens_anyU D.int (fun k => [some (.str "behind"), some (.tup (rdL r)), some (.tup (rdL t)), some (.int q), some (.cell (μ.length + 1)), some (.cell μ.length), x6, x7, x8, x9, some (.int p.1), some (intsT p.2), none, none, some (.int k)]) (tf t) rfl (fun k _ => rfl) (fun k hk => by
        have h2 := at_fin S (b k hk).1 (b k hk).2 ν
        simp [h2])]
      rfl)
    simp [jE, h1, l_bo, f4]
    rw [any1_cell n1, cm, newL_ok (by rw [List.length_map]; omega)]
    simp
    have e2 : s.1.map (fun p => D.bl (acB t p)) = (mkT (acB t) s).2.map D.bl := by simp [mkT]
    rw [e2]
    have e3 : D.tup [.lst (s.2.map intsL), .lst ((mkT (acB t) s).2.map D.bl)] = .tup (rdL (mkT (acB t) s)) := rfl
    rw [e3, leave_pure (show (D.tup (rdL _)).pure = true from pure_rdL _), n2]
    rw [Rt_ok]
    rfl
end

/-! RG: readers_of, reader_of. -/
theorem rep_i (x : Int) (n : Nat) (hn : n ≤ 1000) (μ : Mu) : oRep (.lst [.int x]) (.int n) μ = some (.ok (intsL (List.replicate n x)) μ) := by
  have hs : small (1 * n) = true := by simp [small]; omega
  have e : repD [D.int x] n = (List.replicate n x).map D.int := by
    unfold repD
    rw [List.map_replicate]
    clear hn hs
    induction n with
    | zero => rfl
    | succ n ih =>
      rw [List.replicate_succ, List.replicate_succ, List.flatten_cons, ih]
      rfl
  have h1 : (n : Int).toNat = n := Int.toNat_natCast n
  have hv : viewK μ (.lst [D.int x]) = some [D.int x] := rfl
  have h3 : decide (-(2 ^ 63) ≤ (n : Int)) = true := decide_eq_true (by omega)
  have h4 : decide ((n : Int) < 2 ^ 63) = true := decide_eq_true (by omega)
  unfold oRep repL
  simp only [hv, h1, h3, h4, List.length_singleton, hs, Bool.and_self, if_true, e]
  rw [newL_ok (by simp; omega)]
  rfl
section
variable {q : Nat}
abbrev sTst (s : Str) : Ev Bool := eTest (eOp oEq (eOp oIx (eVar 0) (eC (.int 0))) (eC (.str s)))
abbrev eRp (op : D → D → Mu → Ro D) (i : Int) : Ev D := eOp op (eLst (aCons (eC (.int i)) aNil)) (eVar 1)
theorem sTst_ok {s u : Str} (hs : PyData.strOk s = true) (hu : PyData.strOk u = true) (ds : List D) (ρ : G4.Env) (μ : Mu) : sTst u (some (.tup (.str s :: ds)) :: ρ) μ = some (.ok (s == u) μ) := by
  have h := oEq_ss _ _ hs hu μ
  simp [ix_0, h]
theorem simple_N1 (op : D → D → Mu → Ro D) (k : Sv) (ρ : G4.Env) (μ : Mu) (r0 : ∀ μ, op (.lst [.int 0]) (.int q) μ = some (.ok (intsL (List.replicate q 0)) μ)) :
    sSeq (sIf (sTst "none") (sRet (eTup (aCons (eLst (aCons (eRp op 0) aNil)) (aCons (eLst (aCons (eC (.bl false)) aNil)) aNil)))) sNil) k (some (.tup [.str "none"]) :: some (.int q) :: ρ) μ = some (.rt (.tup (rdL (rdN q))) μ) := by
  rw [sSeq_ap, sIf_ap, sTst_ok ok_none ok_none, beq_self_eq_true, ifs_t, sRet_ap]
  have : eTup (aCons (eLst (aCons (eRp op 0) aNil)) (aCons (eLst (aCons (eC (.bl false)) aNil)) aNil)) (some (.tup [.str "none"]) :: some (.int q) :: ρ) μ = some (.ok (.tup (rdL (rdN q))) μ) := by
    simp [r0]
    rfl
  rw [this]
  rfl
theorem simple_E1 (op : D → D → Mu → Ro D) (k g : Sv) (ρ : G4.Env) (μ : Mu) (r1 : ∀ μ, op (.lst [.int 1]) (.int q) μ = some (.ok (intsL (List.replicate q 1)) μ)) :
    sSeq (sIf (sTst "none") g sNil) (sSeq (sIf (sTst "empty") (sRet (eTup (aCons (eLst (aCons (eRp op 1) (aCons (eRp op 1) aNil))) (aCons (eLst (aCons (eC (.bl true)) (aCons (eC (.bl false)) aNil))) aNil)))) sNil) k) (some (.tup [.str "empty"]) :: some (.int q) :: ρ) μ = some (.rt (.tup (rdL (rdE q))) μ) := by
  rw [sSeq_ap, sIf_ap, sTst_ok ok_empty ok_none, l_en, ifs_f, sNil_ap, seqs_nx, sSeq_ap, sIf_ap, sTst_ok ok_empty ok_empty, beq_self_eq_true, ifs_t, sRet_ap]
  have : eTup (aCons (eLst (aCons (eRp op 1) (aCons (eRp op 1) aNil))) (aCons (eLst (aCons (eC (.bl true)) (aCons (eC (.bl false)) aNil))) aNil)) (some (.tup [.str "empty"]) :: some (.int q) :: ρ) μ = some (.ok (.tup (rdL (rdE q))) μ) := by
    simp [r1]
    rfl
  rw [this]
  rfl
theorem simple_C1 (hq : q ≤ 3) (op : D → D → Mu → Ro D) (g h : Sv) (i : Int) (μ : Mu) (r2 : ∀ μ, op (.lst [.int 2]) (.int q) μ = some (.ok (intsL (List.replicate q 2)) μ)) :
    sSeq (sIf (sTst "none") g sNil) (sSeq (sIf (sTst "empty") h sNil) (sRet (eTup (aCons (eLst (aCons (eComp (iRg1 (aCons (eVar 1) aNil)) (tName 2) eYes (eIf (eTest (eOp oEq (eVar 2) (eOp oIx (eVar 0) (eC (.int 1))))) (eC (.int 1)) (eC (.int 2))) [2]) (aCons (eRp op 2) (aCons (eRp op 2) aNil)))) (aCons (eLst (aCons (eC (.bl false)) (aCons (eC (.bl true)) (aCons (eC (.bl false)) aNil)))) aNil))))) [some (.tup [.str "letter", .int i]), some (.int q), none] μ = some (.rt (.tup (rdL (rdC q i))) μ) := by
  have ln : (Str.ofString "letter" == Str.ofString "none") = false := by decide +kernel
  have rq : rOk (q : Int) = true := rOk_of (by omega) (by omega)
  have cm := comps_tmap (mk := newL) (k := 2) (te := eIf (eTest (eOp oEq (eVar 2) (eOp oIx (eVar 0) (eC (.int 1))))) (eC (.int 1)) (eC (.int 2))) (ρ := [some (.tup [.str "letter", .int i]), some (.int q), none]) (μ := μ) (xs := iota q) D.int (fun k => .int (if k = i then 1 else 2)) (fun k _ => by
    by_cases h : k = i
    · simp [ix_1, h]
    · have hb : (k == i) = false := by simpa using h
      simp [ix_1, h, hb])
  have e1 : (iota q).map (fun k => D.int (if k = i then 1 else 2)) = ((iota q).map fun k => if k = i then (1 : Int) else 2).map D.int := by simp
  rw [← rng_iota, e1, newL_ok (by rw [List.length_map, List.length_map, iota_len]; omega)] at cm
  have c2 : eComp (iRg1 (aCons (eVar 1) aNil)) (tName 2) eYes (eIf (eTest (eOp oEq (eVar 2) (eOp oIx (eVar 0) (eC (.int 1))))) (eC (.int 1)) (eC (.int 2))) [2] [some (.tup [.str "letter", .int i]), some (.int q), none] μ = some (.ok (intsL ((iota q).map fun k => if k = i then (1 : Int) else 2)) μ) := by
    rw [eComp_ap]
    have e4 : iRg1 (aCons (eVar 1) aNil) [some (.tup [.str "letter", .int i]), some (.int q), none] μ = some (.ok (.its (rngD 0 q)) μ) := by
      simp
      rw [rng1_ok rq, Int.toNat_natCast]
    rw [e4]
    exact cm
  have d2 : ∀ μ, eRp op 2 [some (.tup [.str "letter", .int i]), some (.int q), none] μ = some (.ok (intsL (List.replicate q 2)) μ) := fun μ => by
    simp [r2]
  rw [sSeq_ap, sIf_ap, sTst_ok ok_letter ok_none, ln, ifs_f, sNil_ap, seqs_nx, sSeq_ap, sIf_ap, sTst_ok ok_letter ok_empty, l_le, ifs_f, sNil_ap, seqs_nx, sRet_ap, eTup_ap, aCons_ap, eLst_ap, aCons_ap, c2, cons1_ok, aCons_ap, d2, cons1_ok, aCons_ap, d2]
  simp
  rfl
theorem simple_reader_spec (hq : q ≤ 3) {d : D} (hd : d = .tup [.str "none"] ∨ d = .tup [.str "empty"] ∨ ∃ i : Int, d = .tup [.str "letter", .int i]) (F : List Tb) (μ : Mu) :
    ∃ t, rd1 q F d = some t ∧ m_simple_reader [d, .int q] μ = some (.ok (.tup (rdL t)) μ) := by
  have lv : ∀ t : Tb, Rn (ends μ.length (some (.rt (.tup (rdL t)) μ))) (SpnQ (.tup (rdL t)) μ) := fun t => by
    rw [ends_rt, leave_pure (show (D.tup (rdL _)).pure = true from pure_rdL _)]
    exact ⟨_, _, rfl, rfl, by simp⟩
  rcases hd with rfl | rfl | ⟨i, rfl⟩
  · exact ⟨rdN q, by simp [rd1], SpnQ.out (Rn.run ⟨_, simple_N1 oRep _ _ μ fun μ => rep_i 0 q (by omega) μ, lv _⟩)⟩
  · exact ⟨rdE q, by simp [rd1, l_en], SpnQ.out (Rn.run ⟨_, simple_E1 oRep _ _ _ μ fun μ => rep_i 1 q (by omega) μ, lv _⟩)⟩
  · exact ⟨rdC q i, by simp [rd1], SpnQ.out (Rn.run ⟨_, simple_C1 hq oRep _ _ i μ fun μ => rep_i 2 q (by omega) μ, lv _⟩)⟩
end
abbrev tbT (t : Tb) : D := .tup (rdL t)
theorem pures_tbT (F : List Tb) : pures (F.map tbT) = true := by
  rw [pures_iff]
  intro d hd
  obtain ⟨t, _, rfl⟩ := List.mem_map.mp hd
  exact pure_rdL t
def ResF (o : Option (List Tb)) (μ : Mu) : Rs D → Prop := fun x => match o with
  | none => x = .exc ⟨"TooManyStates", []⟩ μ
  | some F => x = .ok (.lst (F.map tbT)) μ
def RfI (q : Nat) (ls : List D) (μ : Mu) : Nat → G4.Env → Mu → Prop := fun i ρ μ' => ∃ F x3 x4 x5, rds q (ls.take i) = some F ∧ ρ = [some (.tup ls), some (.int q), some (.cell μ.length), x3, x4, x5, none] ∧ μ' = μ ++ [some (.lst (F.map tbT))]
theorem at_F2 {F : List Tb} {i : Int} (h0 : 0 ≤ i) (h1 : i < F.length) : atI (F.map tbT) i = some (tbT (gT F i)) := atI_ok h0 (by rw [List.getElem?_map, gT_get h0 h1]; rfl)
theorem inOB (s : Str) (hs : PyData.strOk s = true) (μ : Mu) : oIn (.str s) (.lst [.str "or", .str "behind"]) μ = some (.ok (.bl (s == Str.ofString "or" || s == Str.ofString "behind")) μ) := inO hs μ
@[simp] theorem cons1_exc {x : XD} {μ : Mu} (k : Mu → Ro (List D)) : cons1 (some (.exc x μ)) k = some (.exc x μ) := rfl
theorem mt1_exc {op : Nat → List D → List D → Mu → Ro D} {c : Nat} {k : Mu → Ro (List D)} {xs : List D} {x : XD} {μ μ1 : Mu} (h : μ[c]? = some (some (.lst xs))) (e : k μ = some (.exc x μ1)) : G4.mt1 op (some (.ok (.cell c) μ)) k = some (.exc x μ1) := by
  simp [G4.mt1, h, e]
  rfl
theorem eCallX_some {m : Fd} {ds : List D} {μ : Mu} {r : Rs D} (h : m ds μ = some r) : Ro.bnd (some (.ok ds μ)) m = some r := h
theorem readers_of_spec {q : Nat} (hq : q ≤ 3) {ls : List D} (hG : Goods ls) (hl : ls.length ≤ 400) (μ : Mu) : Rt (m_readers_of [.tup ls, .int q] μ) (ResF (rds q ls) μ) := by
  refine Rt.run ?_
  simp [b_readers_of]
  refine Sk.seq_loop (RfI q ls μ) ⟨[], none, none, none, rfl, rfl, rfl⟩ ?_ ?_
  · rintro i d ρ μ' hd ⟨F, x3, x4, x5, hF, rfl, rfl⟩
    have hil := (List.getElem?_eq_some_iff.mp hd).1
    have lF : F.length = i := by rw [rds_len q _ F hF, List.length_take]; omega
    have hG' : Goods (ls.take i) := fun k x hx => hG k x (by
      have := (List.getElem?_eq_some_iff.mp hx).1
      rw [List.length_take] at this
      rw [List.getElem?_take_of_lt (by omega)] at hx
      exact hx)
    have hR := rds_rdr hG' F hF
    have hgd : Good d F.length := by rw [lF]; exact hG i d hd
    have st := rds_step q hd
    rw [hF] at st
    have st : rds q (ls.take (i + 1)) = (rd1 q F d).map fun t => F ++ [t] := st
    have nn := fun h => rds_none q ls (i := i + 1) h
    have gl := get_last μ (some (M.lst (F.map tbT)))
    have gR : ∀ {k : Int}, 0 ≤ k → k < F.length → Rdr q (gT F k) := fun h0 h1 => hR _ (List.mem_of_getElem? (gT_get h0 h1))
    rw [turn1_name]
    refine Go.of ?_
    have app : ∀ t, rd1 q F d = some t → ∀ (x3 x4 x5 : Option D), RfI q ls μ (i + 1) [some (.tup ls), some (.int q), some (.cell μ.length), x3, x4, x5, none] (μ ++ [some (.lst (F.map tbT ++ [tbT t]))]) := by
      intro t ht x3 x4 x5
      refine ⟨F ++ [t], _, _, _, by rw [st, ht]; rfl, rfl, by simp⟩
    have simp0 : (d = .tup [.str "none"] ∨ d = .tup [.str "empty"] ∨ ∃ i : Int, d = .tup [.str "letter", .int i]) → Sk (sDrop (eMt (oAppend μ.length) (eVar 2) (aCons (eCall m_simple_reader (aCons (eVar 3) (aCons (eVar 1) aNil))) aNil)) [some (.tup ls), some (.int q), some (.cell μ.length), some d, x4, x5, none] (μ ++ [some (.lst (F.map tbT))]))
        fun fl => Go (RfI q ls μ (i + 1)) (Then (fun fl => Rt (ends μ.length (some fl)) (ResF (rds q ls) μ)) (sRet (eFrz (eVar 2)))) (some fl) := by
      intro hd3
      obtain ⟨t, h1, h2⟩ := simple_reader_spec hq hd3 F (μ ++ [some (.lst (F.map tbT))])
      simp only [sDrop_ap, eMt_ap, eVar_ap, List.getElem?_cons_succ, List.getElem?_cons_zero]
      rw [mt1_ok (xs := F.map tbT) (ys := F.map tbT) (as := [tbT t]) (μ1 := μ ++ [some (.lst (F.map tbT))]) gl (by simp [call1_ok h2]) gl, oAppend_ok (by rw [List.length_map]; omega) (by simp), set_last]
      rw [drops_ok, Sk_ok, Go_nx]
      exact app t h1 _ _ _
    rcases good_cases hgd with rfl | rfl | ⟨k, rfl⟩ | ⟨k, k0, k1, rfl⟩ | ⟨k, j, k0, k1, j0, j1, rfl⟩ | ⟨k, j, k0, k1, j0, j1, rfl⟩
    · have h1 := fun μ => oEq_ss _ _ ok_none ok_not μ
      have h2 := fun μ => inOB _ ok_none μ
      simp [ix_0, h1, h2, l_nn, l_no, l_nb, -eMt_ap, -sDrop_ap]
      exact simp0 (.inl rfl)
    · have en : (Str.ofString "empty" == Str.ofString "not") = false := by decide +kernel
      have eo : (Str.ofString "empty" == Str.ofString "or") = false := by decide +kernel
      have eb : (Str.ofString "empty" == Str.ofString "behind") = false := by decide +kernel
      have h1 := fun μ => oEq_ss _ _ ok_empty ok_not μ
      have h2 := fun μ => inOB _ ok_empty μ
      simp [ix_0, h1, h2, en, eo, eb, -eMt_ap, -sDrop_ap]
      exact simp0 (.inr (.inl rfl))
    · have en : (Str.ofString "letter" == Str.ofString "not") = false := by decide +kernel
      have eo : (Str.ofString "letter" == Str.ofString "or") = false := by decide +kernel
      have eb : (Str.ofString "letter" == Str.ofString "behind") = false := by decide +kernel
      have h1 := fun μ => oEq_ss _ _ ok_letter ok_not μ
      have h2 := fun μ => inOB _ ok_letter μ
      simp [ix_0, h1, h2, en, eo, eb, -eMt_ap, -sDrop_ap]
      exact simp0 (.inr (.inr ⟨k, rfl⟩))
    · have h1 := fun μ => oEq_ss _ _ ok_not ok_not μ
      have ix := oIx_cell gl
      have e1 : rd1 q F (.tup [.str "not", .int k]) = some (ngT (gT F k)) := by simp [rd1, l_nl, l_tl]
      have r1 := gR k0 k1
      simp [ix_0, ix_1, h1, ix, at_F2 k0 k1]
      have tg : ∀ (u : Tvs) ρ μ, tTupT 2 u (tbT (gT F k)) ρ μ = u (rdL (gT F k)) ρ μ := fun _ _ _ => rfl
      have cm := comps_tmap (mk := newL) (k := 6) (te := eNotV (eVar 6)) (ρ := [some (.tup ls), some (.int q), some (.cell μ.length), some (.tup [.str "not", .int k]), some (.lst ((gT F k).1.map intsL)), some (.lst ((gT F k).2.map D.bl)), none]) (μ := μ ++ [some (.lst (F.map tbT))]) (xs := (gT F k).2) D.bl (fun b => .bl (!b)) (fun b _ => by simp)
      simp [tg, rdL]
      have e2 : (gT F k).2.map (fun b => D.bl (!b)) = (ngT (gT F k)).2.map D.bl := by simp [ngT]
      rw [e2] at cm
      rw [mt1_ok (xs := F.map tbT) (ys := F.map tbT) (as := [tbT (ngT (gT F k))]) (μ1 := μ ++ [some (.lst (F.map tbT))]) gl (by
        simp
        rw [cm, newL_ok (by rw [List.length_map]; have := (rdr_ng r1).2.2.1; have := (rdr_ng r1).1; omega)]
        simp
        rfl) gl, oAppend_ok (by rw [List.length_map]; omega) (by simp), set_last]
      rw [drops_ok, Sk_ok, Go_nx]
      exact app _ e1 _ _ _
    · have on : (Str.ofString "or" == Str.ofString "not") = false := by decide +kernel
      have h1 := fun μ => oEq_ss _ _ ok_or ok_not μ
      have h2 := fun μ => inOB _ ok_or μ
      have ix := oIx_cell gl
      have jo := joined_or (gR k0 k1) (gR j0 j1) hq (μ ++ [some (.lst (F.map tbT))])
      have e1 : rd1 q F (.tup [.str "or", .int k, .int j]) = (jn (nxO (gT F k) (gT F j)) q (0, 0)).map (mkT (acO (gT F k) (gT F j))) := by simp [rd1]
      rw [← e1] at jo
      obtain ⟨x, ex, hx⟩ := jo
      simp [ix_0, ix_1, ix_2, h1, h2, on]
      cases hr : rd1 q F (.tup [.str "or", .int k, .int j]) with
      | none =>
        rw [hr] at hx st
        obtain rfl : x = .exc ⟨"TooManyStates", []⟩ (μ ++ [some (M.lst (F.map tbT))]) := hx
        rw [mt1_exc (μ1 := μ ++ [some (.lst (F.map tbT))]) (x := ⟨"TooManyStates", []⟩) gl (by simp [ix, ix_0, ix_1, ix_2, at_F2 k0 k1, at_F2 j0 j1]; rw [ex]; rfl)]
        simp
        rw [nn st]
        rfl
      | some t =>
        rw [hr] at hx
        obtain rfl : x = .ok (tbT t) (μ ++ [some (M.lst (F.map tbT))]) := hx
        rw [mt1_ok (xs := F.map tbT) (ys := F.map tbT) (as := [tbT t]) (μ1 := μ ++ [some (.lst (F.map tbT))]) gl (by simp [ix, ix_0, ix_1, ix_2, at_F2 k0 k1, at_F2 j0 j1]; rw [ex]; rfl) gl, oAppend_ok (by rw [List.length_map]; omega) (by simp), set_last]
        rw [drops_ok, Sk_ok, Go_nx]
        exact app _ hr _ _ _
    · have on : (Str.ofString "behind" == Str.ofString "not") = false := by decide +kernel
      have h1 := fun μ => oEq_ss _ _ ok_behind ok_not μ
      have h2 := fun μ => inOB _ ok_behind μ
      have ix := oIx_cell gl
      have jo := joined_be (gR k0 k1) (gR j0 j1) hq (μ ++ [some (.lst (F.map tbT))])
      have e1 : rd1 q F (.tup [.str "behind", .int k, .int j]) = (jn (nxB (gT F k) (gT F j)) q (p0B (gT F k))).map (mkT (acB (gT F j))) := by simp [rd1, l_bo]
      rw [← e1] at jo
      obtain ⟨x, ex, hx⟩ := jo
      simp [ix_0, ix_1, ix_2, h1, h2, on]
      cases hr : rd1 q F (.tup [.str "behind", .int k, .int j]) with
      | none =>
        rw [hr] at hx st
        obtain rfl : x = .exc ⟨"TooManyStates", []⟩ (μ ++ [some (M.lst (F.map tbT))]) := hx
        rw [mt1_exc (μ1 := μ ++ [some (.lst (F.map tbT))]) (x := ⟨"TooManyStates", []⟩) gl (by simp [ix, ix_0, ix_1, ix_2, at_F2 k0 k1, at_F2 j0 j1]; rw [ex]; rfl)]
        simp
        rw [nn st]
        rfl
      | some t =>
        rw [hr] at hx
        obtain rfl : x = .ok (tbT t) (μ ++ [some (M.lst (F.map tbT))]) := hx
        rw [mt1_ok (xs := F.map tbT) (ys := F.map tbT) (as := [tbT t]) (μ1 := μ ++ [some (.lst (F.map tbT))]) gl (by simp [ix, ix_0, ix_1, ix_2, at_F2 k0 k1, at_F2 j0 j1]; rw [ex]; rfl) gl, oAppend_ok (by rw [List.length_map]; omega) (by simp), set_last]
        rw [drops_ok, Sk_ok, Go_nx]
        exact app _ hr _ _ _
  · rintro ρ μ' ⟨F, x3, x4, x5, hF, rfl, rfl⟩
    rw [List.take_length] at hF
    rw [hF]
    simp
    rw [frz1_cell (get_last _ _) (pures_tbT F)]
    simp
    rw [leave_pure (show (D.lst (F.map tbT)).pure = true from pures_tbT F)]
    simp [ResF]
theorem at_lastM {α : Type} (e : α → D) (z : α) {F : List α} (h : F ≠ []) : atI (F.map e) (-1) = some (e (F.getD (F.length - 1) z)) := by
  have hl : 0 < F.length := List.length_pos_iff.mpr h
  have e1 : ixN (F.map e).length (-1) = some (F.length - 1) := by
    unfold ixN
    rw [if_neg (by decide), if_pos (by rw [List.length_map]; omega), List.length_map]
    congr 1
    omega
  unfold atI
  rw [e1]
  show (F.map e)[F.length - 1]? = _
  rw [List.getElem?_map, List.getElem?_eq_getElem (by omega), List.getD_eq_getElem?_getD, List.getElem?_eq_getElem (by omega)]
  rfl
def ResR (o : Option (List Tb)) (μ : Mu) : Rs D → Prop := fun x => match o with
  | none => x = .exc ⟨"TooManyStates", []⟩ μ
  | some F => x = .ok (tbT (F.getD (F.length - 1) ([], []))) μ
theorem reader_of_spec {q : Nat} (hq : q ≤ 3) {ls : List D} (hG : Goods ls) (h0 : ls ≠ []) (hl : ls.length ≤ 300) (μ : Mu) : Rt (m_reader_of [.tup ls, .int q] μ) (ResR (rds q ls) μ) := by
  refine Rt.run ?_
  have ck := check_spec hG h0 hl μ
  obtain ⟨x, ex, hx⟩ := readers_of_spec hq hG (by omega) μ
  have lp := List.length_pos_iff.mpr h0
  simp [b_reader_of, call1_ok ck, ck]
  rw [ex]
  cases hr : rds q ls with
  | none =>
    rw [hr] at hx
    obtain rfl : x = .exc ⟨"TooManyStates", []⟩ μ := hx
    have : op2 oIx (some (.exc ⟨"TooManyStates", []⟩ μ)) (eUn oNeg (eC (.int 1)) [some (.tup ls), some (.int q)]) = some (.exc ⟨"TooManyStates", []⟩ μ) := rfl
    rw [this]
    simp
    rfl
  | some F =>
    rw [hr] at hx
    have hx : x = .ok (.lst (F.map tbT)) μ := hx
    subst hx
    have lF := rds_len q ls F hr
    have : atI (F.map tbT) (-1) = some (tbT (F.getD (F.length - 1) ([], []))) := at_lastM tbT ([], []) (fun z => by rw [z] at lF; simp at lF; omega)
    simp [this]
    rw [leave_pure (show (tbT _).pure = true from pure_rdL _)]
    simp [ResR]

theorem oIn_I (k : Int) {xs : List Int} {c : Nat} {μ : Mu} (h : μ[c]? = some (some (.lst (xs.map D.int)))) : inD false (.int k) (.cell c) μ = some (.ok (.bl (decide (k ∈ xs))) μ) := by
  have h1 : (D.lst (xs.map D.int)).nice 60 = true := nices_ints 59 xs
  have h2 : (D.int k).nice 60 = true := nice_int 60 k
  have e : G4.val μ (.cell c) = .lst (xs.map D.int) := val_cell h
  have e0 : G4.val μ (.int k) = .int k := rfl
  have e3 : (xs.map D.int).any (fun z => z.eqv (.int k)) = decide (k ∈ xs) := by
    rw [Bool.eq_iff_iff, decide_eq_true_eq, List.any_eq_true]
    constructor
    · rintro ⟨d, hd, h⟩
      obtain ⟨r, hr, rfl⟩ := List.mem_map.mp hd
      have : r = k := by simpa using h
      rw [← this]; exact hr
    · intro h
      exact ⟨_, List.mem_map.mpr ⟨k, h, rfl⟩, by simp⟩
  unfold inD
  simp only [e, e0, h1, h2, e3, Bool.and_self, if_true, Bool.false_xor]

/-! RH: one step of two readers, and the states, as the law goes on. -/
section
variable {q : Nat} {r t : Tb}
theorem law_after_or (R : Rdr q r) (S : Rdr q t) {p : Int × Int} {l : Int} (h : okO r t p) (l0 : 0 ≤ l) (l1 : l < q) (μ : Mu) : m__law_after [.str "or", .lst (rdL r), .lst (rdL t), encO p, .int l] μ = some (.ok (encO (nxO r t p l)) μ) := SpnQ.out (by
  refine Rn.run ?_
  obtain ⟨row, a1, a2⟩ := at_rows R h.1.1 h.1.2 l0 l1
  obtain ⟨row2, b1, b2⟩ := at_rows S h.2.1 h.2.2 l0 l1
  have h1 := oEq_ss _ _ ok_or ok_or μ
  simp [b__law_after, encO, ix_0, ix_1, a1, a2, b1, b2, h1]
  rw [leave_pure rfl]
  exact ⟨_, _, rfl, rfl, by simp⟩)
theorem law_after_be (R : Rdr q r) (S : Rdr q t) {p : Int × List Int} {l : Int} (h : okB r t p) (l0 : 0 ≤ l) (l1 : l < q) (μ : Mu) : m__law_after [.str "behind", .lst (rdL r), .lst (rdL t), encB p, .int l] μ = some (.ok (encB (nxB r t p l)) μ) := SpnQ.out (by
  refine Rn.run ?_
  obtain ⟨row, a1, a2⟩ := at_rows R h.1.1 h.1.2 l0 l1
  obtain ⟨_, _, _, g0, g1⟩ := R.ent h.1.1 h.1.2 l0 l1
  have hf := fun μ => at_fin R g0 g1 μ
  have hl := okB_len S h
  have h1 := oEq_ss _ _ ok_behind ok_or μ
  have rg := fdB_rg R S h l0 l1
  have n100 := S.2.2.1
  have n12 := S.1
  have rq : rOk (t.2.length : Int) = true := rOk_of (by omega) (by omega)
  have cm := comps_tmap (mk := newC) (k := 7) (te := eOp oIx (eOp oIx (eOp oIx (eVar 2) (eC (.int 0))) (eVar 7)) (eVar 4)) (ρ := [some (.str "behind"), some (.lst (rdL r)), some (.lst (rdL t)), some (encB p), some (.int l), some (.int (tx r p.1 l)), none, none]) (μ := μ) (xs := p.2) D.int (fun k => .int (tx t k l)) (fun k hk => by
    obtain ⟨row2, b1, b2⟩ := at_rows S (h.2.2 k hk).1 (h.2.2 k hk).2 l0 l1
    simp [b1, b2])
  rw [newC_ok (by rw [List.length_map]; omega)] at cm
  have x0 : ∀ μ, oIx (encB p) (.int 0) μ = some (.ok (.int p.1) μ) := fun μ => rfl
  have x1 : ∀ μ, oIx (encB p) (.int 1) μ = some (.ok (intsT p.2) μ) := fun μ => rfl
  have an : ∀ μ, any1 (some (.ok (intsT p.2) μ)) = some (.ok (.its (p.2.map D.int)) μ) := fun μ => rfl
  have e0 : p.2.map (fun k => D.int (tx t k l)) = (p.2.map fun k => tx t k l).map D.int := by simp
  rw [e0] at cm
  have ln : oLen [.lst (t.2.map D.bl)] = fun μ => some (.ok (.int t.2.length) μ) := by
    funext μ
    rw [oLen_lst, List.length_map]
  have fin : ∀ xs : List Int, xs = fdB r t p l → Sk (sRet (eTup (aCons (eVar 5) (aCons (eB oTuple (aCons (eComp (iRg1 (aCons (eB oLen (aCons (eOp oIx (eVar 2) (eC (.int 1))) aNil)) aNil)) (tName 7) (eTest (eOp oIn (eVar 7) (eVar 6))) (eVar 7) [7]) aNil)) aNil)))
      [some (.str "behind"), some (.lst (rdL r)), some (.lst (rdL t)), some (encB p), some (.int l), some (.int (tx r p.1 l)), some (.cell μ.length), none] (μ ++ [some (.lst (xs.map D.int))])) fun fl => Rn (ends μ.length (some fl)) (SpnQ (encB (nxB r t p l)) μ) := by
    rintro xs rfl
    have cg := comps_gmap (mk := newL) (tg := tName 7) (tt := eTest (eOp oIn (eVar 7) (eVar 6))) (te := eVar 7) (ρ := [some (.str "behind"), some (.lst (rdL r)), some (.lst (rdL t)), some (encB p), some (.int l), some (.int (tx r p.1 l)), some (.cell μ.length), none]) (μ := μ ++ [some (.lst ((fdB r t p l).map D.int))]) (xs := iota t.2.length) D.int
      (fun k => [some (.str "behind"), some (.lst (rdL r)), some (.lst (rdL t)), some (encB p), some (.int l), some (.int (tx r p.1 l)), some (.cell μ.length), some (.int k)]) (fun k => decide (k ∈ fdB r t p l)) (fun k => .int k) (fun _ _ => rfl) (fun k _ => by
        have := oIn_I k (get_last μ (some (.lst ((fdB r t p l).map D.int))))
        simp [this]) (fun _ _ _ => rfl)
    have e1 : (iota t.2.length).filter (fun k => decide (k ∈ fdB r t p l)) = srt (fdB r t p l) := by
      refine sorted_ext ?_ (srt_sorted _) fun k => ?_
      · refine List.Pairwise.filter _ ?_
        exact List.pairwise_map.mpr (List.pairwise_lt_range.imp fun h => by omega)
      · rw [mem_srt, List.mem_filter, decide_eq_true_eq]
        refine ⟨fun h => h.2, fun h => ⟨?_, h⟩⟩
        have := rg k h
        exact List.mem_map.mpr ⟨k.toNat, List.mem_range.mpr (by omega), by omega⟩
    rw [e1, ← rng_iota] at cg
    have l2 : (srt (fdB r t p l)).length ≤ 200 := by
      refine Nat.le_trans (srt_len _) ?_
      unfold fdB
      split <;> simp <;> omega
    have e2 : (srt (fdB r t p l)).map (fun k => D.int k) = (srt (fdB r t p l)).map D.int := rfl
    rw [e2, newL_ok (by rw [List.length_map]; omega)] at cg
    simp [ln, rq]
    rw [cg]
    simp
    rw [leave_pure (d := .tup [.int (tx r p.1 l), .tup ((srt (fdB r t p l)).map D.int)]) (by simp [D.pure, pures]), take_end]
    exact ⟨_, _, rfl, rfl, rfl⟩
  have fb : ∀ b, tf r (tx r p.1 l) = b → fdB r t p l = (p.2.map fun k => tx t k l) ++ if b = true then [0] else [] := fun b hb => by unfold fdB; rw [hb]
  have jl : (p.2.map fun k => tx t k l).length ≤ 100 := by rw [List.length_map]; exact hl
  generalize (p.2.map fun k => tx t k l) = js at cm fb jl
  simp [b__law_after, x0, x1, an, a1, a2, h1, l_bo, -sRet_ap]
  rw [cm]
  simp [hf, -sRet_ap]
  refine Sk.seq_ifs (fun hb => ?_) fun hb => ?_
  · simp [-sRet_ap]
    rw [mt1_ok (xs := js.map D.int) (ys := js.map D.int) (as := [.int 0]) (μ1 := μ ++ [some (.lst (js.map D.int))]) (by simp) rfl (by simp), oAppend_ok (by rw [List.length_map]; omega) (by simp)]
    have := fin (js ++ [0]) (by rw [fb _ hb]; rfl)
    simpa [-sRet_ap] using this
  · simp [-sRet_ap]
    have := fin js (by rw [fb _ hb]; simp)
    simpa [-sRet_ap] using this)
end

/-! RI: the states of two readers joined, as the law goes on. -/
noncomputable def kTurn (n0 : Nat) : Sv := sSeq (sSet 10 (eCall m__law_after (aCons (eVar 0) (aCons (eVar 1) (aCons (eVar 2) (aCons (eOp oIx (eVar 5) (eVar 8)) (aCons (eVar 12) aNil)))))))
    (sSeq (sIf (eTest (eOp (oDNIn true) (eVar 10) (eVar 6))) (sSeq (sAsg (eB oLen (aCons (eVar 5) aNil)) (tSubN (eVar 6) (eVar 10))) (sDrop (eMt (oAppend n0) (eVar 5) (aCons (eVar 10) aNil)))) sNil)
    (sDrop (eMt (oAppend n0) (eVar 11) (aCons (eOp dnget (eVar 6) (eVar 10)) aNil))))
noncomputable def kFor (n0 : Nat) : Sv := sFor (iRg1 (aCons (eVar 3) aNil)) (tName 12) (kTurn n0)
noncomputable def kOne (n0 : Nat) : Sv := sIf (eTest (eOp oLt (eVar 8) (eB oLen (aCons (eVar 5) aNil)))) (sSeq (sSet 11 (eLstC aNil)) (sSeq (kFor n0) (sDrop (eMt (oAppend n0) (eVar 7) (aCons (eFrz (eVar 11)) aNil))))) sNil
noncomputable def kTwo : Sv := sIf (eTest (eOp oGt (eB oLen (aCons (eVar 5) aNil)) (eC (.int 100)))) (sRet (eC .non)) sNil
section
variable {P : Type} [DecidableEq P] (E : EncP P)
def ks (A : Mu) (ps : List P) (rows : List (List Int)) (Y : Mu) : Mu := A ++ some (.lst (ps.map E.enc)) :: some (.dN (kv E ps)) :: some (.lst (rows.map intsL)) :: Y
theorem ks_ps (A : Mu) (ps : List P) (rows : List (List Int)) (Y : Mu) : (ks E A ps rows Y)[A.length]? = some (some (.lst (ps.map E.enc))) := by simp [ks]
theorem ks_dn (A : Mu) (ps : List P) (rows : List (List Int)) (Y : Mu) : (ks E A ps rows Y)[A.length + 1]? = some (some (.dN (kv E ps))) := by simp [ks]
theorem ks_rw (A : Mu) (ps : List P) (rows : List (List Int)) (Y : Mu) : (ks E A ps rows Y)[A.length + 2]? = some (some (.lst (rows.map intsL))) := by simp [ks]
theorem ks_yy (A : Mu) (ps : List P) (rows : List (List Int)) (Y : Mu) (x : Option M) : (ks E A ps rows (Y ++ [x]))[A.length + 3 + Y.length]? = some x := by
  unfold ks
  rw [List.getElem?_append_right (by omega)]
  have : A.length + 3 + Y.length - A.length = Y.length + 1 + 1 + 1 := by omega
  rw [this]
  simp
theorem ks_srw (A : Mu) (ps : List P) (rows rows' : List (List Int)) (Y : Mu) : (ks E A ps rows Y).set (A.length + 2) (some (.lst (rows'.map intsL))) = ks E A ps rows' Y := by
  unfold ks
  rw [List.set_append_right _ _ (by omega)]
  have : A.length + 2 - A.length = 2 := by omega
  rw [this]
  rfl
theorem ks_syy (A : Mu) (ps : List P) (rows : List (List Int)) (Y : Mu) (x y : Option M) : (ks E A ps rows (Y ++ [x])).set (A.length + 3 + Y.length) y = ks E A ps rows (Y ++ [y]) := by
  unfold ks
  rw [List.set_append_right _ _ (by omega)]
  have : A.length + 3 + Y.length - A.length = Y.length + 1 + 1 + 1 := by omega
  rw [this]
  simp
theorem ks_app (A : Mu) (ps : List P) (rows : List (List Int)) (Y Z : Mu) : ks E A ps rows Y ++ Z = ks E A ps rows (Y ++ Z) := by simp [ks]
theorem ks_len (A : Mu) (ps : List P) (rows : List (List Int)) (Y : Mu) : (ks E A ps rows Y).length = A.length + 3 + Y.length := by simp [ks]; omega
theorem ks_take (A : Mu) (ps : List P) (rows : List (List Int)) (Y : Mu) : (ks E A ps rows Y).take A.length = A := by simp [ks]
theorem ks_dn2 (A : Mu) (ps : List P) (r : P) (rows : List (List Int)) (Y : Mu) : ((ks E A ps rows Y).set (A.length + 1) (some (.dN (kv E ps ++ [(E.key r, (ps.length : Int))]))))[A.length]? = some (some (.lst (ps.map E.enc))) := by
  rw [List.getElem?_set, if_neg (by omega)]
  exact ks_ps ..
theorem ks_add (A : Mu) (ps : List P) (r : P) (rows : List (List Int)) (Y : Mu) : ((ks E A ps rows Y).set (A.length + 1) (some (.dN (kv E ps ++ [(E.key r, (ps.length : Int))])))).set A.length (some (.lst ((ps ++ [r]).map E.enc))) = ks E A (ps ++ [r]) rows Y := by
  unfold ks
  rw [List.set_append_right _ _ (by omega), List.set_append_right _ _ (by omega)]
  have : A.length + 1 - A.length = 1 := by omega
  rw [this, Nat.sub_self, ← kv_snoc]
  rfl
def kE (kd one two : D) (q : Nat) (a : Nat) (x4 x8 x10 x11 x12 : Option D) : G4.Env := [some kd, some one, some two, some (.int q), x4, some (.cell a), some (.cell (a + 1)), some (.cell (a + 2)), x8, none, x10, x11, x12, none]
variable (nx : P → Int → P) (q : Nat) (p0 : P) (ok : P → Prop) (kd one two : D)
def KStep : Prop := ∀ (p : P) (l : Int) (ν : Mu), ok p → 0 ≤ l → l < q → m__law_after [kd, one, two, E.enc p, .int l] ν = some (.ok (E.enc (nx p l)) ν)
def KTurn (A : Mu) (ps : List P) (rows : List (List Int)) (Y : Mu) (p : P) (x4 x8 : Option D) (c : Nat) : Nat → G4.Env → Mu → Prop := fun i ρ μ => ∃ x10 x12, ρ = kE kd one two q A.length x4 x8 x10 (some (.cell c)) x12 ∧
  μ = ks E A (rowS nx p ps i).1 rows (Y ++ [some (.lst ((rowS nx p ps i).2.map D.int))])
theorem kfor_ok (hst : KStep E nx q ok kd one two) (hq : q ≤ 3) {A : Mu} {ps : List P} (hps : ps.length ≤ 100) {rows : List (List Int)} {Y : Mu} {p : P} {a : Nat} (ha : ps[a]? = some p) (hp : ok p) (x4 x10 x12 : Option D) :
    Sk (kFor A.length (kE kd one two q A.length x4 (some (.int a)) x10 (some (.cell (A.length + 3 + Y.length))) x12) (ks E A ps rows (Y ++ [some (.lst [])]))) fun fl => ∃ y10 y12, fl = .nx (kE kd one two q A.length x4 (some (.int a)) y10 (some (.cell (A.length + 3 + Y.length))) y12) (ks E A (rowS nx p ps q).1 rows (Y ++ [some (.lst ((rowS nx p ps q).2.map D.int))])) := by
  have rq : rOk (q : Int) = true := rOk_of (by omega) (by omega)
  unfold kFor
  simp [kE, rq]
  refine Sk.loop (KTurn E nx q kd one two A ps rows Y p x4 (some (.int a)) (A.length + 3 + Y.length)) ⟨x10, x12, rfl, rfl⟩ ?_ ?_
  · rintro i d ρ μ hd ⟨y10, y12, rfl, rfl⟩
    obtain ⟨hi, rfl⟩ := rng_get hd
    rw [turn1_name]
    refine Go.of ?_
    have hs := hst p (0 + (i : Int)) (ks E A (rowS nx p ps i).1 rows (Y ++ [some (.lst ((rowS nx p ps i).2.map D.int))])) hp (by omega) (by omega)
    have sz := rowS_size nx p ps i
    have ln := rowS_len nx p ps i
    have hpre := pre_get (rowS_pre nx p ps i) ha
    have e1 : rowS nx p ps (i + 1) = (addP (rowS nx p ps i).1 (nx p i), (rowS nx p ps i).2 ++ [(((addP (rowS nx p ps i).1 (nx p i)).idxOf (nx p i) : Nat) : Int)]) := rfl
    generalize rowS nx p ps i = S at *
    rw [Int.zero_add] at hs ⊢
    generalize nx p (i : Int) = r at *
    obtain ⟨ρ, hρ⟩ : ∃ ρ, ρ = kE kd one two q A.length x4 (some (.int a)) (some (E.enc r)) (some (.cell (A.length + 3 + Y.length))) (some (.int i)) := ⟨_, rfl⟩
    have hb : (kE kd one two q A.length x4 (some (.int a)) y10 (some (.cell (A.length + 3 + Y.length))) y12).set 12 (some (.int i)) = kE kd one two q A.length x4 (some (.int a)) y10 (some (.cell (A.length + 3 + Y.length))) (some (.int i)) := rfl
    rw [hb]
    have hix := fun Y => oIx_cell (ks_ps E A S.1 rows Y) (a : Int)
    have eat : atI (S.1.map E.enc) (a : Int) = some (E.enc p) := atI_ok (by omega) (by rw [Int.toNat_natCast, List.getElem?_map, hpre]; rfl)
    have c10 : eCall m__law_after (aCons (eVar 0) (aCons (eVar 1) (aCons (eVar 2) (aCons (eOp oIx (eVar 5) (eVar 8)) (aCons (eVar 12) aNil))))) (kE kd one two q A.length x4 (some (.int a)) y10 (some (.cell (A.length + 3 + Y.length))) (some (.int i))) (ks E A S.1 rows (Y ++ [some (.lst (S.2.map D.int))])) = some (.ok (E.enc r) (ks E A S.1 rows (Y ++ [some (.lst (S.2.map D.int))]))) := by
      simp [kE, hix, eat]
      rw [call1_ok hs]
    unfold kTurn
    rw [sSeq_ap, sSet_ap, c10]
    have hset : (kE kd one two q A.length x4 (some (.int a)) y10 (some (.cell (A.length + 3 + Y.length))) (some (.int i))).set 10 (some (E.enc r)) = ρ := by rw [hρ]; rfl
    simp only [sets_ok, seqs_nx, sSeq_ap, sIf_ap, eTest_ap, eOp_ap, hset]
    have g10 : ∀ ν, eVar 10 ρ ν = some (.ok (E.enc r) ν) := fun _ => by rw [hρ]; rfl
    have g5 : ∀ ν, eVar 5 ρ ν = some (.ok (.cell A.length) ν) := fun _ => by rw [hρ]; rfl
    have g6 : ∀ ν, eVar 6 ρ ν = some (.ok (.cell (A.length + 1)) ν) := fun _ => by rw [hρ]; rfl
    have g11 : ∀ ν, eVar 11 ρ ν = some (.ok (.cell (A.length + 3 + Y.length)) ν) := fun _ => by rw [hρ]; rfl
    have kl : (kv E S.1).length ≤ 1000000 := by rw [kv_len]; omega
    have al : (addP S.1 r).length ≤ S.1.length + 1 := by unfold addP; split <;> simp
    have ni := oDNIn_ok true (E.hk r) (ks_dn E A S.1 rows (Y ++ [some (.lst (S.2.map D.int))])) kl
    rw [lk_kv] at ni
    have fin : ∀ ps', ps' = addP S.1 r → Sk (sDrop (eMt (oAppend A.length) (eVar 11) (aCons (eOp dnget (eVar 6) (eVar 10)) aNil)) ρ (ks E A ps' rows (Y ++ [some (.lst (S.2.map D.int))]))) fun fl => Go (KTurn E nx q kd one two A ps rows Y p x4 (some (.int a)) (A.length + 3 + Y.length) (i + 1))
        (fun fl => ∃ y10 y12, fl = .nx (kE kd one two q A.length x4 (some (.int a)) y10 (some (.cell (A.length + 3 + Y.length))) y12) (ks E A (rowS nx p ps q).1 rows (Y ++ [some (.lst ((rowS nx p ps q).2.map D.int))]))) (some fl) := by
      rintro _ rfl
      have dg := dnget_ok (E.hk r) (ks_dn E A (addP S.1 r) rows (Y ++ [some (.lst (S.2.map D.int))])) (by rw [kv_len]; omega) (by rw [lk_kv, if_pos (addP_mem _ _)])
      rw [sDrop_ap, eMt_ap, g11, mt1_ok (as := [.int ((addP S.1 r).idxOf r : Nat)]) (ks_yy ..) (by rw [aCons_ap, eOp_ap, g6, op2_ok, g10, op2'_ok, dg]; rfl) (ks_yy ..), oAppend_ok (by rw [List.length_map]; omega) (by simp [D.pure]), ks_syy]
      rw [drops_ok, Sk_ok, Go_nx]
      refine ⟨some (E.enc r), some (.int i), hρ, ?_⟩
      rw [e1]
      simp
    rw [g10, op2_ok, g6, op2'_ok, ni]
    by_cases hm : r ∈ S.1
    · have ea : addP S.1 r = S.1 := if_pos hm
      simp only [hm, if_true, Option.isSome_some, Bool.xor_self, tst_ok, ifs_f, sNil_ap, seqs_nx]
      exact fin _ ea.symm
    · have ea : addP S.1 r = S.1 ++ [r] := if_neg hm
      have lk : lkN (kv E S.1) (E.key r) = none := by rw [lk_kv, if_neg hm]
      have ts := tSubN_ok (i := (S.1.length : Int)) (g6 (ks E A S.1 rows (Y ++ [some (.lst (S.2.map D.int))]))) (g10 _) (E.hk r) (ks_dn E A S.1 rows (Y ++ [some (.lst (S.2.map D.int))])) kl lk
      have l5 := oLen_cell (ks_ps E A S.1 rows (Y ++ [some (.lst (S.2.map D.int))]))
      rw [List.length_map] at l5
      simp only [hm, if_false, Option.isSome_none, Bool.xor_false, tst_ok, ifs_t, sSeq_ap, sAsg_ap, eB_ap, aCons_ap, g5, cons1_ok, aNil_ap, cons2_ok, bnd_ok, l5, asgs_ok, ts, tg_ok, seqs_nx, sDrop_ap, eMt_ap]
      rw [mt1_ok (as := [E.enc r]) (ks_dn2 ..) (by rw [aCons_ap, g10]; rfl) (ks_dn2 ..), oAppend_ok (by rw [List.length_map]; omega) (by simp [E.pure]), drops_ok, seqs_nx]
      have e2 : S.1.map E.enc ++ [E.enc r] = (S.1 ++ [r]).map E.enc := by simp
      rw [e2, ks_add]
      exact fin _ ea.symm
  · rintro ρ μ ⟨y10, y12, rfl, rfl⟩
    rw [rngD_length]
    exact ⟨y10, y12, rfl⟩
def KI (A : Mu) (x4 : Option D) : Nat → G4.Env → Mu → Prop := fun k ρ μ => ∃ x8 x10 x11 x12 Y, (bs nx q p0 k).1.length ≤ 100 ∧ ρ = kE kd one two q A.length x4 x8 x10 x11 x12 ∧ μ = ks E A (bs nx q p0 k).1 (bs nx q p0 k).2 Y
theorem kloop_ok (hst : KStep E nx q ok kd one two) (hq : q ≤ 3) (h0 : ok p0) (hn : ∀ p l, ok p → 0 ≤ l → l < (q : Int) → ok (nx p l)) (A : Mu) (x4 : Option D) (k : Sv) (Q : Fl → Prop)
    (hN : jn nx q p0 = none → ∀ μ, μ.take A.length = A → Q (.rt .non μ)) (hS : ∀ s x8 x10 x11 x12 Y, jn nx q p0 = some s → Sk (k (kE kd one two q A.length x4 x8 x10 x11 x12) (ks E A s.1 s.2 Y)) Q) :
    Sk (seqs (loopL (tName 8) (sSeq (kOne A.length) kTwo) (rngD 0 101) (kE kd one two q A.length x4 none none none none) (ks E A [p0] [] [])) k) Q := by
  refine Sk.seq_loop (KI E nx q p0 kd one two A x4) ⟨none, none, none, none, [], by simp [bs], rfl, rfl⟩ ?_ ?_
  · rintro i d ρ μ hd ⟨x8, x10, x11, x12, Y, h1, rfl, rfl⟩
    obtain ⟨hi, rfl⟩ := rng_get hd
    have inv := bs_inv nx q p0 i
    have hok := bs_ok nx q p0 h0 hn i
    have cp := cap_eq
    have hln := bs_len nx q p0 i
    have nxt : bs nx q p0 (i + 1) = bstep nx q (bs nx q p0 i) := rfl
    have hnn := fun h => jn_none nx q p0 (k := i + 1) (by omega) h
    have KIs : ∀ x8 x10 x11 x12 Y, (bs nx q p0 (i + 1)).1.length ≤ 100 → KI E nx q p0 kd one two A x4 (i + 1) (kE kd one two q A.length x4 x8 x10 x11 x12) (ks E A (bs nx q p0 (i + 1)).1 (bs nx q p0 (i + 1)).2 Y) := fun x8 x10 x11 x12 Y h => ⟨_, _, _, _, _, h, rfl, rfl⟩
    generalize hS' : bs nx q p0 i = S at *
    have hle := inv.le
    rw [turn1_name]
    refine Go.of ?_
    have hb : (kE kd one two q A.length x4 x8 x10 x11 x12).set 8 (some (.int (0 + (i : Int)))) = kE kd one two q A.length x4 (some (.int (i : Int))) x10 x11 x12 := by rw [Int.zero_add]; rfl
    rw [hb, sSeq_ap]
    have two_ : ∀ x10 x11 x12 Y, Sk (kTwo (kE kd one two q A.length x4 (some (.int (i : Int))) x10 x11 x12) (ks E A (bs nx q p0 (i + 1)).1 (bs nx q p0 (i + 1)).2 Y)) fun fl => Go (KI E nx q p0 kd one two A x4 (i + 1)) (Then Q k) (some fl) := by
      intro x10 x11 x12 Y
      have l5 := oLen_cell (ks_ps E A (bs nx q p0 (i + 1)).1 (bs nx q p0 (i + 1)).2 Y)
      rw [List.length_map] at l5
      unfold kTwo
      by_cases h100 : (100 : Int) < (bs nx q p0 (i + 1)).1.length
      · simp [kE, l5, h100]
        exact hN (hnn (by omega)) _ (ks_take ..)
      · have c : Sk (some (.nx (kE kd one two q A.length x4 (some (.int (i : Int))) x10 x11 x12) (ks E A (bs nx q p0 (i + 1)).1 (bs nx q p0 (i + 1)).2 Y))) fun fl => Go (KI E nx q p0 kd one two A x4 (i + 1)) (Then Q k) (some fl) := by
          rw [Sk_ok, Go_nx]
          exact KIs _ _ _ _ _ (by omega)
        simp [kE, l5, h100]
        simpa [kE] using c
    have l5 := fun Y => oLen_cell (ks_ps E A S.1 S.2 Y)
    simp only [List.length_map] at l5
    by_cases hlt : i < S.1.length
    · have hil : S.2.length = i := by
        rcases hln with h | h <;> omega
      have hp := List.getElem?_eq_getElem hlt
      have pok := hok _ (List.getElem_mem hlt)
      generalize S.1[i] = p at hp pok
      have nx1 : bstep nx q S = ((rowS nx p S.1 q).1, S.2 ++ [(rowS nx p S.1 q).2]) := by
        unfold bstep
        rw [hil, hp]
      rw [nx1] at nxt
      refine Sk.cut (fun ρ μ => ∃ x10 x11 x12 Y, ρ = kE kd one two q A.length x4 (some (.int (i : Int))) x10 x11 x12 ∧ μ = ks E A (bs nx q p0 (i + 1)).1 (bs nx q p0 (i + 1)).2 Y) ?_ ?_
      · unfold kOne
        have ct : eTest (eOp oLt (eVar 8) (eB oLen (aCons (eVar 5) aNil))) (kE kd one two q A.length x4 (some (.int (i : Int))) x10 x11 x12) (ks E A S.1 S.2 Y) = some (.ok true (ks E A S.1 S.2 Y)) := by
          have : (i : Int) < S.1.length := by omega
          simp [kE, l5, hlt]
        rw [sIf_ap, ct, ifs_t, sSeq_ap, sSet_ap]
        have e11 : eLstC aNil (kE kd one two q A.length x4 (some (.int (i : Int))) x10 x11 x12) (ks E A S.1 S.2 Y) = some (.ok (.cell (A.length + 3 + Y.length)) (ks E A S.1 S.2 (Y ++ [some (.lst [])]))) := by
          simp
          rw [ks_app, ks_len]
          exact ⟨rfl, rfl⟩
        rw [e11, sets_ok, seqs_nx, sSeq_ap]
        obtain ⟨fl, e, y10, y12, rfl⟩ := kfor_ok E nx q ok kd one two hst hq (A := A) (ps := S.1) h1 (rows := S.2) (Y := Y) hp pok x4 x10 x12
        have e : kFor A.length ((kE kd one two q A.length x4 (some (.int (i : Int))) x10 x11 x12).set 11 (some (.cell (A.length + 3 + Y.length)))) (ks E A S.1 S.2 (Y ++ [some (.lst [])])) = _ := e
        rw [e, seqs_nx]
        have rl := rowS_len nx p S.1 q
        generalize rowS nx p S.1 q = N at *
        have f7 : frz1 (some (.ok (.cell (A.length + 3 + Y.length)) (ks E A N.1 S.2 (Y ++ [some (.lst (N.2.map D.int))])))) = some (.ok (intsL N.2) (ks E A N.1 S.2 (Y ++ [none]))) := by
          rw [frz1_cell (ks_yy ..) (by simp), ks_syy]
          rfl
        have g7 : ∀ ν, eVar 7 (kE kd one two q A.length x4 (some (.int (i : Int))) y10 (some (.cell (A.length + 3 + Y.length))) y12) ν = some (.ok (.cell (A.length + 2)) ν) := fun _ => rfl
        have g11 : ∀ ν, eVar 11 (kE kd one two q A.length x4 (some (.int (i : Int))) y10 (some (.cell (A.length + 3 + Y.length))) y12) ν = some (.ok (.cell (A.length + 3 + Y.length)) ν) := fun _ => rfl
        rw [sDrop_ap, eMt_ap, g7, mt1_ok (as := [intsL N.2]) (μ1 := ks E A N.1 S.2 (Y ++ [none])) (ks_rw ..) (by rw [aCons_ap, eFrz_ap, g11, f7]; rfl) (ks_rw ..), oAppend_ok (by rw [List.length_map]; omega) (by simp [pure_intsL])]
        have e2 : S.2.map intsL ++ [intsL N.2] = (S.2 ++ [N.2]).map intsL := by simp
        rw [e2, ks_srw, drops_ok, Sk_ok, Mid_nx]
        exact ⟨_, _, _, Y ++ [none], rfl, by rw [nxt]⟩
      · rintro ρ μ ⟨z10, z11, z12, Y', rfl, rfl⟩
        exact two_ _ _ _ _
    · have st : bs nx q p0 (i + 1) = S := by
        rw [nxt]
        unfold bstep
        rw [List.getElem?_eq_none (by rcases hln with h | h <;> omega)]
      have ct : eTest (eOp oLt (eVar 8) (eB oLen (aCons (eVar 5) aNil))) (kE kd one two q A.length x4 (some (.int (i : Int))) x10 x11 x12) (ks E A S.1 S.2 Y) = some (.ok false (ks E A S.1 S.2 Y)) := by
        simp [kE, l5]
        omega
      unfold kOne
      rw [sIf_ap, ct, ifs_f, sNil_ap, seqs_nx]
      have := two_ x10 x11 x12 Y
      rw [st] at this
      rw [st] at *
      exact this
  · rintro ρ μ ⟨x8, x10, x11, x12, Y, h1, rfl, rfl⟩
    rw [rngD_length] at h1 ⊢
    have e : jn nx q p0 = some (bs nx q p0 101) := by
      have := jn_some nx q p0 (k := 101) (by rw [cap_eq]; exact Nat.le_refl _)
      have inv := (bs_inv nx q p0 101).le
      have ln := bs_len nx q p0 101
      exact this (by rcases ln with h | h <;> omega) h1
    exact hS _ _ _ _ _ _ e
end

/-! RJ: the law's joined readers. -/
noncomputable def kFin (n0 : Nat) : Sv := sIf (eTest (eOp oEq (eVar 0) (eC (.str "or")))) (sDrop (eMt (oAppend n0) (eVar 9) (aCons (eOrV (eOp oIx (eOp oIx (eVar 1) (eC (.int 1))) (eOp oIx (eVar 10) (eC (.int 0)))) (eOp oIx (eOp oIx (eVar 2) (eC (.int 1))) (eOp oIx (eVar 10) (eC (.int 1))))) aNil))) (sDrop (eMt (oAppend n0) (eVar 9) (aCons (eOp oGt (eB oLen (aCons (eComp (iAnyD (eOp oIx (eVar 10) (eC (.int 1)))) (tName 13) (eTru (eOp oIx (eOp oIx (eVar 2) (eC (.int 1))) (eVar 13))) (eVar 13) [13]) aNil)) (eC (.int 0))) aNil)))
noncomputable def kTail (n0 : Nat) : Sv := sSeq (sSet 9 (eLstC aNil)) (sSeq (sFor (iAnyD (eVar 5)) (tName 10) (kFin n0)) (sRet (eLst (aCons (eFrz (eVar 7)) (aCons (eFrz (eVar 9)) aNil)))))
def lawRes : Option Tb → D
  | none => .non
  | some t => .lst (rdL t)
section
variable {P : Type} [DecidableEq P] (E : EncP P)
def kE2 (kd one two : D) (q : Nat) (a c : Nat) (x4 x8 x10 x11 x12 : Option D) : G4.Env := [some kd, some one, some two, some (.int q), x4, some (.cell a), some (.cell (a + 1)), some (.cell (a + 2)), x8, some (.cell c), x10, x11, x12, none]
variable (q : Nat) (kd one two : D) (acc : P → Bool)
def KAcc (ps : List P) : Prop := ∀ (n0 a c : Nat) (x4 x8 x11 x12 : Option D) (ν : Mu) (xs : List D) (p : P), p ∈ ps → ν[c]? = some (some (.lst xs)) → xs.length ≤ 1000 →
  kFin n0 (kE2 kd one two q a c x4 x8 (some (E.enc p)) x11 x12) ν = some (.nx (kE2 kd one two q a c x4 x8 (some (E.enc p)) x11 x12) (ν.set c (some (.lst (xs ++ [.bl (acc p)])))))
theorem ktail_ok {s : BS P} (hA : KAcc E q kd one two acc s.1) (h1 : s.1.length ≤ 100) (h2 : s.2.length = s.1.length) (A : Mu) (x4 x8 x10 x11 x12 : Option D) (Y : Mu) :
    Sk (kTail A.length (kE kd one two q A.length x4 x8 x10 x11 x12) (ks E A s.1 s.2 Y)) fun fl => Rn (ends A.length (some fl)) (SpnQ (.lst (rdL (mkT acc s))) A) := by
  unfold kTail
  rw [sSeq_ap, sSet_ap]
  have e9 : eLstC aNil (kE kd one two q A.length x4 x8 x10 x11 x12) (ks E A s.1 s.2 Y) = some (.ok (.cell (A.length + 3 + Y.length)) (ks E A s.1 s.2 (Y ++ [some (.lst [])]))) := by
    simp
    rw [ks_app, ks_len]
    exact ⟨rfl, rfl⟩
  have st : (kE kd one two q A.length x4 x8 x10 x11 x12).set 9 (some (.cell (A.length + 3 + Y.length))) = kE2 kd one two q A.length (A.length + 3 + Y.length) x4 x8 x10 x11 x12 := rfl
  rw [e9, sets_ok, seqs_nx, st, sSeq_ap, sFor_ap, iAnyD_ap]
  have g5 : ∀ ν, eVar 5 (kE2 kd one two q A.length (A.length + 3 + Y.length) x4 x8 x10 x11 x12) ν = some (.ok (.cell A.length) ν) := fun _ => rfl
  rw [g5, any1_cell (ks_ps ..)]
  refine Sk.seq_loopN (ds := s.1.map E.enc) (fun i ρ μ => ∃ x10, ρ = kE2 kd one two q A.length (A.length + 3 + Y.length) x4 x8 x10 x11 x12 ∧ μ = ks E A s.1 s.2 (Y ++ [some (.lst ((s.1.take i).map fun p => D.bl (acc p)))])) ⟨x10, rfl, rfl⟩ ?_ ?_ ?_
  · rintro i ρ μ ⟨y10, rfl, rfl⟩
    exact ks_ps ..
  · rintro i d ρ μ hd ⟨y10, rfl, rfl⟩
    rw [List.getElem?_map] at hd
    cases hx : s.1[i]? with
    | none => rw [hx] at hd; exact absurd hd (by simp)
    | some p =>
      rw [hx] at hd
      obtain rfl : E.enc p = d := by simpa using hd
      rw [turn1_name]
      refine Go.of ?_
      have := hA A.length A.length (A.length + 3 + Y.length) x4 x8 x11 x12 (ks E A s.1 s.2 (Y ++ [some (.lst ((s.1.take i).map fun p => D.bl (acc p)))])) _ p (List.mem_of_getElem? hx) (ks_yy ..) (by rw [List.length_map, List.length_take]; omega)
      rw [show (kE2 kd one two q A.length (A.length + 3 + Y.length) x4 x8 y10 x11 x12).set 10 (some (E.enc p)) = kE2 kd one two q A.length (A.length + 3 + Y.length) x4 x8 (some (E.enc p)) x11 x12 from rfl, this, ks_syy, Sk_ok, Go_nx]
      refine ⟨_, rfl, ?_⟩
      rw [List.take_add_one, hx]
      simp
  · rintro ρ μ ⟨y10, rfl, rfl⟩
    rw [List.length_map, List.take_length]
    have g7 : ∀ ν, eVar 7 (kE2 kd one two q A.length (A.length + 3 + Y.length) x4 x8 y10 x11 x12) ν = some (.ok (.cell (A.length + 2)) ν) := fun _ => rfl
    have g9 : ∀ ν, eVar 9 (kE2 kd one two q A.length (A.length + 3 + Y.length) x4 x8 y10 x11 x12) ν = some (.ok (.cell (A.length + 3 + Y.length)) ν) := fun _ => rfl
    have f7 := frz1_cell (ks_rw E A s.1 s.2 (Y ++ [some (.lst (s.1.map fun p => D.bl (acc p)))])) (pures_rows s.2)
    have e9 : s.1.map (fun p => D.bl (acc p)) = (s.1.map acc).map D.bl := by simp
    have k9 : ((ks E A s.1 s.2 (Y ++ [some (.lst (s.1.map fun p => D.bl (acc p)))])).set (A.length + 2) none)[A.length + 3 + Y.length]? = some (some (.lst ((s.1.map acc).map D.bl))) := by
      rw [List.getElem?_set, if_neg (by omega), ks_yy, e9]
    have f9 := frz1_cell k9 (pures_bls _)
    have tk : (((ks E A s.1 s.2 (Y ++ [some (.lst (s.1.map fun p => D.bl (acc p)))])).set (A.length + 2) none).set (A.length + 3 + Y.length) none).take A.length = A := by
      rw [List.take_set_of_le (by omega), List.take_set_of_le (by omega)]
      exact ks_take ..
    rw [sRet_ap, eLst_ap, aCons_ap, eFrz_ap, g7, f7, cons1_ok, aCons_ap, eFrz_ap, g9, f9, cons1_ok, aNil_ap, cons2_ok, cons2_ok, bnd_ok, newL_2, rets_ok, Sk_ok, ends_rt]
    have e3 : D.lst [.lst (s.2.map intsL), .lst ((s.1.map acc).map D.bl)] = .lst (rdL (mkT acc s)) := rfl
    rw [e3, leave_pure (show (D.lst (rdL _)).pure = true from pure_rdL _), tk]
    exact ⟨_, _, rfl, rfl, rfl⟩
end
section
variable {q : Nat} {r t : Tb}
theorem kacc_or (R : Rdr q r) (S : Rdr q t) {ps : List (Int × Int)} (h : ∀ x ∈ ps, okO r t x) : KAcc EO q (.str "or") (.lst (rdL r)) (.lst (rdL t)) (acO r t) ps := by
  intro n0 a c x4 x8 x11 x12 ν xs p hp hc hl
  obtain ⟨⟨a1, a2⟩, b1, b2⟩ := h p hp
  have h1 := at_fin R a1 a2 ν
  have h2 := at_fin S b1 b2 ν
  have hq := oEq_ss _ _ ok_or ok_or ν
  have x0 : oIx (EO.enc p) (.int 0) ν = some (.ok (.int p.1) ν) := rfl
  have x1 : oIx (EO.enc p) (.int 1) ν = some (.ok (.int p.2) ν) := rfl
  have ov : orV (some (.ok (.bl (tf r p.1)) ν)) (eOp oIx (eOp oIx (eVar 2) (eC (.int 1))) (eOp oIx (eVar 10) (eC (.int 1))) (kE2 (.str "or") (.lst (rdL r)) (.lst (rdL t)) q a c x4 x8 (some (EO.enc p)) x11 x12)) = some (.ok (.bl (acO r t p)) ν) := by
    rw [orV_bb (by simp [kE2, x1, h2]; rfl)]
    rfl
  unfold kFin
  have t1 : eTest (eOp oEq (eVar 0) (eC (.str "or"))) (kE2 (.str "or") (.lst (rdL r)) (.lst (rdL t)) q a c x4 x8 (some (EO.enc p)) x11 x12) ν = some (.ok true ν) := by simp [kE2, hq]
  have g9 : eVar 9 (kE2 (.str "or") (.lst (rdL r)) (.lst (rdL t)) q a c x4 x8 (some (EO.enc p)) x11 x12) ν = some (.ok (.cell c) ν) := rfl
  have o1 : eOp oIx (eOp oIx (eVar 1) (eC (.int 1))) (eOp oIx (eVar 10) (eC (.int 0))) (kE2 (.str "or") (.lst (rdL r)) (.lst (rdL t)) q a c x4 x8 (some (EO.enc p)) x11 x12) ν = some (.ok (.bl (tf r p.1)) ν) := by simp [kE2, x0, h1]
  rw [sIf_ap, t1, ifs_t, sDrop_ap, eMt_ap, g9, mt1_ok (as := [.bl (acO r t p)]) (μ1 := ν) hc (by rw [aCons_ap, eOrV_ap, o1, ov]; rfl) hc, oAppend_ok (by omega) (by simp [D.pure]), drops_ok]
theorem kacc_be (R : Rdr q r) (S : Rdr q t) {ps : List (Int × List Int)} (h : ∀ x ∈ ps, okB r t x) : KAcc EB q (.str "behind") (.lst (rdL r)) (.lst (rdL t)) (acB t) ps := by
  intro n0 a c x4 x8 x11 x12 ν xs p hp hc hl
  obtain ⟨_, _, b⟩ := h p hp
  have l100 := okB_len S (h p hp)
  have hq := oEq_ss _ _ ok_behind ok_or ν
  have x1 : oIx (EB.enc p) (.int 1) ν = some (.ok (intsT p.2) ν) := rfl
  have an : any1 (some (.ok (intsT p.2) ν)) = some (.ok (.its (p.2.map D.int)) ν) := rfl
  unfold kFin
  have t1 : eTest (eOp oEq (eVar 0) (eC (.str "or"))) (kE2 (.str "behind") (.lst (rdL r)) (.lst (rdL t)) q a c x4 x8 (some (EB.enc p)) x11 x12) ν = some (.ok false ν) := by simp [kE2, hq, l_bo]
  have g9 : eVar 9 (kE2 (.str "behind") (.lst (rdL r)) (.lst (rdL t)) q a c x4 x8 (some (EB.enc p)) x11 x12) ν = some (.ok (.cell c) ν) := rfl
  have cg := comps_gmap (mk := newL) (tg := tName 13) (tt := eTru (eOp oIx (eOp oIx (eVar 2) (eC (.int 1))) (eVar 13))) (te := eVar 13) (ρ := kE2 (.str "behind") (.lst (rdL r)) (.lst (rdL t)) q a c x4 x8 (some (EB.enc p)) x11 x12) (μ := ν) (xs := p.2) D.int (fun k => (kE2 (.str "behind") (.lst (rdL r)) (.lst (rdL t)) q a c x4 x8 (some (EB.enc p)) x11 x12).set 13 (some (.int k))) (tf t) (fun k => .int k) (fun _ _ => rfl) (fun k hk => by
    have h2 := at_fin S (b k hk).1 (b k hk).2 ν
    simp [kE2, h2]) (fun k _ _ => by simp [kE2])
  have fl : (p.2.filter (tf t)).length ≤ 100 := Nat.le_trans (List.length_filter_le _ _) l100
  rw [newL_ok (by rw [List.length_map]; omega)] at cg
  have o1 : eOp oGt (eB oLen (aCons (eComp (iAnyD (eOp oIx (eVar 10) (eC (.int 1)))) (tName 13) (eTru (eOp oIx (eOp oIx (eVar 2) (eC (.int 1))) (eVar 13))) (eVar 13) [13]) aNil)) (eC (.int 0)) (kE2 (.str "behind") (.lst (rdL r)) (.lst (rdL t)) q a c x4 x8 (some (EB.enc p)) x11 x12) ν = some (.ok (.bl (acB t p)) ν) := by
    have ie : iAnyD (eOp oIx (eVar 10) (eC (.int 1))) (kE2 (.str "behind") (.lst (rdL r)) (.lst (rdL t)) q a c x4 x8 (some (EB.enc p)) x11 x12) ν = some (.ok (.its (p.2.map D.int)) ν) := by
      simp [kE2, x1, an]
    have we : wipeE (kE2 (.str "behind") (.lst (rdL r)) (.lst (rdL t)) q a c x4 x8 (some (EB.enc p)) x11 x12) [13] = kE2 (.str "behind") (.lst (rdL r)) (.lst (rdL t)) q a c x4 x8 (some (EB.enc p)) x11 x12 := rfl
    rw [eOp_ap, eB_ap, aCons_ap, eComp_ap, ie, we, cg]
    simp
    rw [Bool.eq_iff_iff, decide_eq_true_eq, acB, List.any_eq_true]
  rw [sIf_ap, t1, ifs_f, sDrop_ap, eMt_ap, g9, mt1_ok (as := [.bl (acB t p)]) (μ1 := ν) hc (by rw [aCons_ap, o1]; rfl) hc, oAppend_ok (by omega) (by simp [D.pure]), drops_ok]
theorem law_joined_or (R : Rdr q r) (S : Rdr q t) (hq : q ≤ 3) (μ : Mu) : m__law_joined [.str "or", .lst (rdL r), .lst (rdL t), .int q] μ = some (.ok (lawRes ((jn (nxO r t) q (0, 0)).map (mkT (acO r t)))) μ) := SpnQ.out (by
  refine Rn.run ?_
  have hob : (Str.ofString "or" == Str.ofString "behind") = false := by decide +kernel
  have h1 := oEq_ss _ _ ok_or ok_behind μ
  have rg : rOk 101 = true := rOk_of (by decide) (by decide)
  have dn : dn1a (μ.length + 1) (some (.ok (.tup [.int 0, .int 0]) (μ ++ [some (.lst [.tup [.int 0, .int 0]]), some (.dN [])]))) (fun μ => some (.ok (.int 0) μ)) = some (.ok (.cell (μ.length + 1)) (μ ++ [some (.lst [.tup [.int 0, .int 0]]), some (.dN [(EO.key (0, 0), 0)])])) := by
    have d0 := dn1a_ok (μ := μ ++ [some (.lst [.tup [.int 0, .int 0]]), some (.dN [])]) (μ1 := μ ++ [some (.lst [.tup [.int 0, .int 0]]), some (.dN [])]) (q := μ.length + 1) (k := fun μ => some (.ok (.int 0) μ)) (kd := EO.enc (0, 0)) (i := 0) rfl (EO.hk (0, 0)) (by simp)
    rw [List.set_append_right _ _ (by omega), show μ.length + 1 - μ.length = 1 by omega] at d0
    exact d0
  have hst : KStep EO (nxO r t) q (okO r t) (.str "or") (.lst (rdL r)) (.lst (rdL t)) := fun p l ν hp l0 l1 => law_after_or R S hp l0 l1 ν
  have main := kloop_ok EO (nxO r t) q (0, 0) (okO r t) (.str "or") (.lst (rdL r)) (.lst (rdL t)) hst hq (okO_0 R S) (okO_nx R S) μ (some (encO (0, 0))) (kTail μ.length) (fun fl => Rn (ends μ.length (some fl)) (SpnQ (lawRes ((jn (nxO r t) q (0, 0)).map (mkT (acO r t)))) μ)) (fun hn μ' ht => by
    rw [hn, ends_rt, leave_non, ht]
    exact ⟨_, _, rfl, rfl, rfl⟩) (fun s x8 x10 x11 x12 Y hs => by
    rw [hs]
    have sl := (jn_at _ _ _ hs).2
    exact ktail_ok EO q _ _ _ (acO r t) (kacc_or R S (by
      rw [(jn_at _ _ _ hs).1]
      exact bs_ok _ _ _ (okO_0 R S) (okO_nx R S) _)) sl.1 sl.2 μ _ _ _ _ _ Y)
  have e0 : (fun μ => some (Rs.ok (D.int 0) μ)) = eC (D.int 0) [some (.str "or"), some (.lst (rdL r)), some (.lst (rdL t)), some (.int q), some (.tup [.int 0, .int 0]), some (.cell μ.length), none, none, none, none, none, none, none, none] := rfl
  rw [e0] at dn
  simp [b__law_joined, h1, hob, dn, rg]
  exact main)
theorem law_joined_be (R : Rdr q r) (S : Rdr q t) (hq : q ≤ 3) (μ : Mu) : m__law_joined [.str "behind", .lst (rdL r), .lst (rdL t), .int q] μ = some (.ok (lawRes ((jn (nxB r t) q (p0B r)).map (mkT (acB t)))) μ) := SpnQ.out (by
  refine Rn.run ?_
  have h1 := oEq_ss _ _ ok_behind ok_behind μ
  have rg : rOk 101 = true := rOk_of (by decide) (by decide)
  have f0 := fun μ => at_fin R (s := 0) (Int.le_refl 0) (by have := R.2.1; omega) μ
  have dn : dn1a (μ.length + 1) (some (.ok (encB (p0B r)) (μ ++ [some (.lst [encB (p0B r)]), some (.dN [])]))) (fun μ => some (.ok (.int 0) μ)) = some (.ok (.cell (μ.length + 1)) (μ ++ [some (.lst [encB (p0B r)]), some (.dN [(EB.key (p0B r), 0)])])) := by
    have d0 := dn1a_ok (μ := μ ++ [some (.lst [encB (p0B r)]), some (.dN [])]) (μ1 := μ ++ [some (.lst [encB (p0B r)]), some (.dN [])]) (q := μ.length + 1) (k := fun μ => some (.ok (.int 0) μ)) (kd := EB.enc (p0B r)) (i := 0) rfl (EB.hk (p0B r)) (by simp)
    rw [List.set_append_right _ _ (by omega), show μ.length + 1 - μ.length = 1 by omega] at d0
    exact d0
  have hst : KStep EB (nxB r t) q (okB r t) (.str "behind") (.lst (rdL r)) (.lst (rdL t)) := fun p l ν hp l0 l1 => law_after_be R S hp l0 l1 ν
  have main := kloop_ok EB (nxB r t) q (p0B r) (okB r t) (.str "behind") (.lst (rdL r)) (.lst (rdL t)) hst hq (okB_0 R S) (okB_nx R S) μ (some (encB (p0B r))) (kTail μ.length) (fun fl => Rn (ends μ.length (some fl)) (SpnQ (lawRes ((jn (nxB r t) q (p0B r)).map (mkT (acB t)))) μ)) (fun hn μ' ht => by
    rw [hn, ends_rt, leave_non, ht]
    exact ⟨_, _, rfl, rfl, rfl⟩) (fun s x8 x10 x11 x12 Y hs => by
    rw [hs]
    have sl := (jn_at _ _ _ hs).2
    exact ktail_ok EB q _ _ _ (acB t) (kacc_be R S (by
      rw [(jn_at _ _ _ hs).1]
      exact bs_ok _ _ _ (okB_0 R S) (okB_nx R S) _)) sl.1 sl.2 μ _ _ _ _ _ Y)
  have rest : Sk (seqs (some (.nx [some (.str "behind"), some (.lst (rdL r)), some (.lst (rdL t)), some (.int q), some (encB (p0B r)), none, none, none, none, none, none, none, none, none] μ)) (sSeq (sSet 5 (eLstC (aCons (eVar 4) aNil))) (sSeq (sSet 6 (eDN1 (eVar 4) (eC (.int 0)))) (sSeq (sSet 7 (eLstC aNil)) (sSeq (sFor (iRg1 (aCons (eC (.int 101)) aNil)) (tName 8) (sSeq (kOne μ.length) kTwo)) (kTail μ.length))))))
      fun fl => Rn (ends μ.length (some fl)) (SpnQ (lawRes ((jn (nxB r t) q (p0B r)).map (mkT (acB t)))) μ) := by
    have e0 : (fun μ => some (Rs.ok (D.int 0) μ)) = eC (D.int 0) [some (.str "behind"), some (.lst (rdL r)), some (.lst (rdL t)), some (.int q), some (encB (p0B r)), some (.cell μ.length), none, none, none, none, none, none, none, none] := rfl
    rw [e0] at dn
    simp [dn, rg]
    exact main
  have pb : encB (p0B r) = .tup [.int 0, if tf r 0 = true then .tup [.int 0] else .tup []] := by
    unfold encB p0B intsT
    split <;> rfl
  simp [b__law_joined, h1, f0]
  by_cases hb : tf r 0 = true
  · rw [if_pos hb] at pb
    rw [pb] at rest
    simp [hb]
    simp at rest
    exact rest
  · rw [if_neg hb] at pb
    have hb : tf r 0 = false := by simpa using hb
    rw [pb] at rest
    simp [hb]
    simp at rest
    exact rest)
end

/-! RK: the law's readers. -/
theorem sTst_ok2 {s u : Str} (hs : PyData.strOk s = true) (hu : PyData.strOk u = true) (ds : List D) (ρ : G4.Env) (μ : Mu) : eTest (eOp oEq (eOp oIx (eVar 0) (eC (.int 0))) (eC (.str u))) (some (.tup (.str s :: ds)) :: ρ) μ = some (.ok (s == u) μ) := sTst_ok hs hu ds ρ μ
theorem comps_c {mk : List D → Mu → Ro D} {k : Nat} (x : Int) (n : Nat) (ρ : G4.Env) (μ : Mu) : comps mk (some (.ok (.its (rngD 0 n)) μ)) (tName k) eYes (eC (.int x)) ρ = mk ((List.replicate n x).map D.int) μ := by
  rw [comps_map (f := fun _ => D.int x) (fun d _ => rfl), List.map_const', rngD_length, List.map_replicate]
theorem letter_rg {i : Int} {k : Nat} (h : Good (.tup [.str "letter", .int i]) k) : 0 ≤ i ∧ i < 3 := by
  obtain ⟨s, is, e, _, hv⟩ := h
  simp only [lnD, D.tup.injEq, List.cons.injEq, D.str.injEq] at e
  obtain ⟨rfl, e⟩ := e
  cases is with
  | nil => simp at e
  | cons x is =>
    simp only [List.map_cons, List.cons.injEq, D.int.injEq] at e
    obtain ⟨rfl, e⟩ := e
    cases is with
    | cons y is => simp at e
    | nil =>
      have hv : vl2 (Str.ofString "letter") [i] k = true := hv
      simp [vl2] at hv
      omega
theorem rep_set (q : Nat) {i : Int} (h0 : 0 ≤ i) : (if i < q then (List.replicate q (2 : Int)).set i.toNat 1 else List.replicate q 2) = (iota q).map fun k => if k = i then (1 : Int) else 2 := by
  apply List.ext_getElem?
  intro j
  rw [List.getElem?_map]
  unfold iota
  rw [List.getElem?_map]
  by_cases hj : j < q
  · rw [List.getElem?_range hj]
    simp only [Option.map_some]
    split
    · rw [List.getElem?_set]
      by_cases e : i.toNat = j
      · have : (j : Int) = i := by omega
        simp [e, this, hj]
      · have : ¬ (j : Int) = i := by omega
        simp [e, this, hj]
    · have : ¬ (j : Int) = i := by omega
      simp [this, hj]
  · rw [List.getElem?_eq_none (l := List.range q) (by rw [List.length_range]; omega)]
    simp only [Option.map_none]
    rw [List.getElem?_eq_none_iff]
    split <;> simp <;> omega
section
variable {q : Nat} (hq : q ≤ 3)
include hq
theorem atom_N (μ : Mu) : m__law_atom [.tup [.str "none"], .int q] μ = some (.ok (.lst (rdL (rdN q))) μ) := by
  refine SpnQ.out (Rn.run ?_)
  have rq : rOk (q : Int) = true := rOk_of (by omega) (by omega)
  have h1 := oEq_ss _ _ ok_none ok_none μ
  have e3 : D.lst [.lst [.lst ((List.replicate q 0).map D.int)], .lst [.bl false]] = .lst (rdL (rdN q)) := rfl
  simp only [b__law_atom]
  rw [sSeq_ap, sIf_ap, show ([D.tup [.str "none"], .int q].map some ++ List.replicate (5 - [D.tup [.str "none"], .int q].length) none) = [some (.tup [.str "none"]), some (.int q), none, none, none] from rfl, sTst_ok2 ok_none ok_none, beq_self_eq_true, ifs_t]
  simp [rng1_ok rq, -List.map_replicate]
  rw [comps_c, newL_ok (by rw [List.length_map, List.length_replicate]; omega)]
  simp [-List.map_replicate]
  rw [e3, leave_pure (show (D.lst (rdL _)).pure = true from pure_rdL _), List.take_length]
  exact ⟨_, _, rfl, rfl, rfl⟩
theorem atom_E (μ : Mu) : m__law_atom [.tup [.str "empty"], .int q] μ = some (.ok (.lst (rdL (rdE q))) μ) := by
  refine SpnQ.out (Rn.run ?_)
  have rq : rOk (q : Int) = true := rOk_of (by omega) (by omega)
  have e3 : D.lst [.lst [.lst ((List.replicate q 1).map D.int), .lst ((List.replicate q 1).map D.int)], .lst [.bl true, .bl false]] = .lst (rdL (rdE q)) := rfl
  simp only [b__law_atom]
  rw [sSeq_ap, sIf_ap, show ([D.tup [.str "empty"], .int q].map some ++ List.replicate (5 - [D.tup [.str "empty"], .int q].length) none) = [some (.tup [.str "empty"]), some (.int q), none, none, none] from rfl, sTst_ok2 ok_empty ok_none, l_en, ifs_f, sNil_ap, seqs_nx, sSeq_ap, sIf_ap, sTst_ok2 ok_empty ok_empty, beq_self_eq_true, ifs_t]
  simp [rng1_ok rq, -List.map_replicate]
  rw [comps_c]
  have jl : ((List.replicate q (1 : Int)).map D.int).length ≤ 3 := by rw [List.length_map, List.length_replicate]; exact hq
  have jp : pures ((List.replicate q (1 : Int)).map D.int) = true := pures_ints _
  generalize (List.replicate q (1 : Int)).map D.int = js at *
  rw [newC_ok (by omega)]
  have ol : oList [.cell μ.length] (μ ++ [some (.lst js)]) = some (.ok (.lst js) (μ ++ [some (.lst js)])) := by
    simp [oList, viewS, viewL]
    rfl
  simp [ol]
  rw [frzL_1 (d := .lst js) (frz_cell (get_last _ _) jp) jp]
  simp
  rw [e3, leave_pure (show (D.lst (rdL _)).pure = true from pure_rdL _)]
  exact ⟨_, _, rfl, rfl, by simp⟩
theorem atom_C {i : Int} (h0 : 0 ≤ i) (h3 : i < 3) (μ : Mu) : m__law_atom [.tup [.str "letter", .int i], .int q] μ = some (.ok (.lst (rdL (rdC q i))) μ) := by
  refine SpnQ.out (Rn.run ?_)
  have ln : (Str.ofString "letter" == Str.ofString "none") = false := by decide +kernel
  have rq : rOk (q : Int) = true := rOk_of (by omega) (by omega)
  have e3 : ∀ js : List Int, js = (if i < q then (List.replicate q (2 : Int)).set i.toNat 1 else List.replicate q 2) → D.lst [.lst [.lst (js.map D.int), .lst ((List.replicate q 2).map D.int), .lst ((List.replicate q 2).map D.int)], .lst [.bl false, .bl true, .bl false]] = .lst (rdL (rdC q i)) := by
    rintro js rfl
    rw [rep_set q h0]
    rfl
  simp only [b__law_atom]
  rw [sSeq_ap, sIf_ap, show ([D.tup [.str "letter", .int i], .int q].map some ++ List.replicate (5 - [D.tup [.str "letter", .int i], .int q].length) none) = [some (.tup [.str "letter", .int i]), some (.int q), none, none, none] from rfl, sTst_ok2 ok_letter ok_none, ln, ifs_f, sNil_ap, seqs_nx, sSeq_ap, sIf_ap, sTst_ok2 ok_letter ok_empty, l_le, ifs_f, sNil_ap, seqs_nx]
  have jl : ((List.replicate q (2 : Int)).map D.int).length ≤ 3 := by rw [List.length_map, List.length_replicate]; exact hq
  have c2 := fun ρ μ => comps_c (mk := newC) (k := 4) 2 q ρ μ
  have c3 := fun ρ μ => comps_c (mk := newL) (k := 4) 2 q ρ μ
  have rest : ∀ js : List Int, js.length ≤ 3 → js = (if i < q then (List.replicate q (2 : Int)).set i.toNat 1 else List.replicate q 2) → Sk (sSeq (sSet 3 (eComp (iRg1 (aCons (eVar 1) aNil)) (tName 4) eYes (eC (.int 2)) [4])) (sRet (eLst (aCons (eLst (aCons (eFrz (eVar 2)) (aCons (eVar 3) (aCons (eB oList (aCons (eVar 3) aNil)) aNil)))) (aCons (eLst (aCons (eC (.bl false)) (aCons (eC (.bl true)) (aCons (eC (.bl false)) aNil)))) aNil))))
      [some (.tup [.str "letter", .int i]), some (.int q), some (.cell μ.length), none, none] (μ ++ [some (.lst (js.map D.int))])) fun fl => Rn (ends μ.length (some fl)) (SpnQ (.lst (rdL (rdC q i))) μ) := by
    intro js jl2 hj
    have e3 := e3 js hj
    generalize (List.replicate q (2 : Int)).map D.int = ks at *
    simp [rng1_ok rq]
    rw [c3, newL_ok (by omega)]
    simp
    rw [frz1_cell (get_last _ _) (pures_ints _)]
    simp
    rw [e3, leave_pure (show (D.lst (rdL _)).pure = true from pure_rdL _)]
    exact ⟨_, _, rfl, rfl, by simp⟩
  have s2 : sSet 2 (eCompC (iRg1 (aCons (eVar 1) aNil)) (tName 4) eYes (eC (.int 2)) [4]) [some (.tup [.str "letter", .int i]), some (.int q), none, none, none] μ = some (.nx [some (.tup [.str "letter", .int i]), some (.int q), some (.cell μ.length), none, none] (μ ++ [some (.lst ((List.replicate q (2 : Int)).map D.int))])) := by
    simp [rng1_ok rq, -List.map_replicate]
    rw [c2, newC_ok (by omega)]
    rfl
  rw [sSeq_ap, s2, seqs_nx, sSeq_ap, sIf_ap]
  by_cases hi : i < (q : Int)
  · have t1 : eTest (eOp oLt (eOp oIx (eVar 0) (eC (.int 1))) (eVar 1)) [some (.tup [.str "letter", .int i]), some (.int q), some (.cell μ.length), none, none] (μ ++ [some (.lst ((List.replicate q (2 : Int)).map D.int))]) = some (.ok true (μ ++ [some (.lst ((List.replicate q (2 : Int)).map D.int))])) := by
      simp [ix_1, hi, -List.map_replicate]
    have ts := tSub_ok (n0 := μ.length) (d := .int 1) (ρ := [some (.tup [.str "letter", .int i]), some (.int q), some (.cell μ.length), none, none]) (μ := μ ++ [some (.lst ((List.replicate q (2 : Int)).map D.int))]) (μ1 := μ ++ [some (.lst ((List.replicate q (2 : Int)).map D.int))]) (μ2 := μ ++ [some (.lst ((List.replicate q (2 : Int)).map D.int))]) (f := eVar 2) (g := eOp oIx (eVar 0) (eC (.int 1))) (k := μ.length) (i := i) (j := i.toNat) (xs := (List.replicate q (2 : Int)).map D.int) rfl (by simp [ix_1]) (get_last _ _) h0 rfl (by rw [List.length_map, List.length_replicate]; omega) (by simp)
    have eset : ((List.replicate q (2 : Int)).map D.int).set i.toNat (.int 1) = ((List.replicate q (2 : Int)).set i.toNat 1).map D.int := by rw [List.map_set]
    rw [set_last, eset] at ts
    rw [t1, ifs_t, sAsg_ap, eC_ap, asgs_ok, ts, tg_ok, seqs_nx]
    exact rest _ (by simp; omega) (by rw [if_pos hi])
  · have t1 : eTest (eOp oLt (eOp oIx (eVar 0) (eC (.int 1))) (eVar 1)) [some (.tup [.str "letter", .int i]), some (.int q), some (.cell μ.length), none, none] (μ ++ [some (.lst ((List.replicate q (2 : Int)).map D.int))]) = some (.ok false (μ ++ [some (.lst ((List.replicate q (2 : Int)).map D.int))])) := by
      simp [ix_1, -List.map_replicate]
      omega
    rw [t1, ifs_f, sNil_ap, seqs_nx]
    exact rest _ (by simp; omega) (by rw [if_neg hi])
end
def lbT (t : Tb) : D := .lst (rdL t)
theorem pures_lbT (F : List Tb) : pures (F.map lbT) = true := by
  rw [pures_iff]
  intro d hd
  obtain ⟨t, _, rfl⟩ := List.mem_map.mp hd
  exact pure_rdL t
theorem at_L2 {F : List Tb} {i : Int} (h0 : 0 ≤ i) (h1 : i < F.length) : atI (F.map lbT) i = some (.lst (rdL (gT F i))) := atI_ok h0 (by rw [List.getElem?_map, gT_get h0 h1]; rfl)
def lrdD : Option (List Tb) → D
  | none => .non
  | some F => lbT (F.getD (F.length - 1) ([], []))
def LrI (q : Nat) (ls : List D) (μ : Mu) : Nat → G4.Env → Mu → Prop := fun i ρ μ' => ∃ F x3 x4, rds q (ls.take i) = some F ∧ ρ = [some (.tup ls), some (.int q), some (.cell μ.length), x3, x4, none] ∧ μ' = μ ++ [some (.lst (F.map lbT))]
theorem law_reader_spec {q : Nat} (hq : q ≤ 3) {ls : List D} (hG : Goods ls) (h0 : ls ≠ []) (hl : ls.length ≤ 400) (μ : Mu) : m__law_reader [.tup ls, .int q] μ = some (.ok (lrdD (rds q ls)) μ) := SpnQ.out (by
  refine Rn.run ?_
  have lp := List.length_pos_iff.mpr h0
  simp [b__law_reader]
  refine Sk.seq_loop (LrI q ls μ) ⟨[], none, none, rfl, rfl, rfl⟩ ?_ ?_
  · rintro i d ρ μ' hd ⟨F, x3, x4, hF, rfl, rfl⟩
    have hil := (List.getElem?_eq_some_iff.mp hd).1
    have lF : F.length = i := by rw [rds_len q _ F hF, List.length_take]; omega
    have hG' : Goods (ls.take i) := fun k x hx => hG k x (by
      have := (List.getElem?_eq_some_iff.mp hx).1
      rw [List.length_take] at this
      rw [List.getElem?_take_of_lt (by omega)] at hx
      exact hx)
    have hR := rds_rdr hG' F hF
    have hgd : Good d F.length := by rw [lF]; exact hG i d hd
    have st := rds_step q hd
    rw [hF] at st
    have st : rds q (ls.take (i + 1)) = (rd1 q F d).map fun t => F ++ [t] := st
    have nn := fun h => rds_none q ls (i := i + 1) h
    have gl := get_last μ (some (M.lst (F.map lbT)))
    have gR : ∀ {k : Int}, 0 ≤ k → k < F.length → Rdr q (gT F k) := fun h0 h1 => hR _ (List.mem_of_getElem? (gT_get h0 h1))
    have fin : ∀ o, rd1 q F d = o → ∀ x3 : Option D, Sk (sSeq (sIf (eTest (eOp oIsN (eVar 4) (eC .non))) (sRet (eC .non)) sNil) (sDrop (eMt (oAppend μ.length) (eVar 2) (aCons (eVar 4) aNil))) [some (.tup ls), some (.int q), some (.cell μ.length), x3, some (lawRes o), none] (μ ++ [some (.lst (F.map lbT))]))
        fun fl => Go (LrI q ls μ (i + 1)) (Then (fun fl => Rn (ends μ.length (some fl)) (SpnQ (lrdD (rds q ls)) μ)) (sRet (eOp oIx (eVar 2) (eUn oNeg (eC (.int 1)))))) (some fl) := by
      intro o ho x3
      cases o with
      | none =>
        rw [ho] at st
        simp [lawRes]
        rw [nn st]
        exact ⟨rfl, by simp⟩
      | some t =>
        rw [ho] at st
        simp [lawRes]
        rw [mt1_ok (xs := F.map lbT) (ys := F.map lbT) (as := [lbT t]) (μ1 := μ ++ [some (.lst (F.map lbT))]) gl (by simp [lbT]) gl, oAppend_ok (by rw [List.length_map]; omega) (by simp), set_last]
        rw [drops_ok, Sk_ok, Go_nx]
        exact ⟨F ++ [t], _, _, st, rfl, by simp⟩
    rw [turn1_name]
    refine Go.of ?_
    rcases good_cases hgd with rfl | rfl | ⟨k, rfl⟩ | ⟨k, k0, k1, rfl⟩ | ⟨k, j, k0, k1, j0, j1, rfl⟩ | ⟨k, j, k0, k1, j0, j1, rfl⟩
    · have h1 := fun μ => oEq_ss _ _ ok_none ok_not μ
      have h2 := fun μ => oEq_ss _ _ ok_none ok_or μ
      have h3 := fun μ => oEq_ss _ _ ok_none ok_behind μ
      have at0 := atom_N hq (μ ++ [some (.lst (F.map lbT))])
      have := fin (some (rdN q)) (by simp [rd1]) (some (.tup [.str "none"]))
      simp [ix_0, h1, h2, h3, l_nn, l_no, l_nb, call1_ok at0]
      simpa [lawRes] using this
    · have en : (Str.ofString "empty" == Str.ofString "not") = false := by decide +kernel
      have eo : (Str.ofString "empty" == Str.ofString "or") = false := by decide +kernel
      have eb : (Str.ofString "empty" == Str.ofString "behind") = false := by decide +kernel
      have h1 := fun μ => oEq_ss _ _ ok_empty ok_not μ
      have h2 := fun μ => oEq_ss _ _ ok_empty ok_or μ
      have h3 := fun μ => oEq_ss _ _ ok_empty ok_behind μ
      have at0 := atom_E hq (μ ++ [some (.lst (F.map lbT))])
      have := fin (some (rdE q)) (by simp [rd1, l_en]) (some (.tup [.str "empty"]))
      simp [ix_0, h1, h2, h3, en, eo, eb, call1_ok at0]
      simpa [lawRes] using this
    · have en : (Str.ofString "letter" == Str.ofString "not") = false := by decide +kernel
      have eo : (Str.ofString "letter" == Str.ofString "or") = false := by decide +kernel
      have eb : (Str.ofString "letter" == Str.ofString "behind") = false := by decide +kernel
      have h1 := fun μ => oEq_ss _ _ ok_letter ok_not μ
      have h2 := fun μ => oEq_ss _ _ ok_letter ok_or μ
      have h3 := fun μ => oEq_ss _ _ ok_letter ok_behind μ
      have lr := letter_rg hgd
      have at0 := atom_C hq lr.1 lr.2 (μ ++ [some (.lst (F.map lbT))])
      have := fin (some (rdC q k)) (by simp [rd1]) (some (.tup [.str "letter", .int k]))
      simp [ix_0, h1, h2, h3, en, eo, eb, call1_ok at0]
      simpa [lawRes] using this
    · have h1 := fun μ => oEq_ss _ _ ok_not ok_not μ
      have ix := oIx_cell gl
      have e1 : rd1 q F (.tup [.str "not", .int k]) = some (ngT (gT F k)) := by simp [rd1, l_nl, l_tl]
      have r1 := gR k0 k1
      have cm := comps_tmap (mk := newL) (k := 5) (te := eNotV (eVar 5)) (ρ := [some (.tup ls), some (.int q), some (.cell μ.length), some (.tup [.str "not", .int k]), x4, none]) (μ := μ ++ [some (.lst (F.map lbT))]) (xs := (gT F k).2) D.bl (fun b => .bl (!b)) (fun b _ => by simp)
      have e2 : (gT F k).2.map (fun b => D.bl (!b)) = (ngT (gT F k)).2.map D.bl := by simp [ngT]
      rw [e2, newL_ok (by rw [List.length_map]; have := (rdr_ng r1).2.2.1; have := (rdr_ng r1).1; omega)] at cm
      have := fin _ e1 (some (.tup [.str "not", .int k]))
      simp [ix_0, ix_1, h1, ix, at_L2 k0 k1, cm]
      simpa [lawRes, rdL, ngT] using this
    · have on : (Str.ofString "or" == Str.ofString "not") = false := by decide +kernel
      have h1 := fun μ => oEq_ss _ _ ok_or ok_not μ
      have h2 := fun μ => oEq_ss _ _ ok_or ok_or μ
      have ix := oIx_cell gl
      have jo := law_joined_or (gR k0 k1) (gR j0 j1) hq (μ ++ [some (.lst (F.map lbT))])
      have e1 : rd1 q F (.tup [.str "or", .int k, .int j]) = (jn (nxO (gT F k) (gT F j)) q (0, 0)).map (mkT (acO (gT F k) (gT F j))) := by simp [rd1]
      have := fin _ e1 (some (.tup [.str "or", .int k, .int j]))
      simp [ix_0, ix_1, ix_2, h1, h2, on, ix, at_L2 k0 k1, at_L2 j0 j1, call1_ok jo]
      simpa using this
    · have on : (Str.ofString "behind" == Str.ofString "not") = false := by decide +kernel
      have h1 := fun μ => oEq_ss _ _ ok_behind ok_not μ
      have h2 := fun μ => oEq_ss _ _ ok_behind ok_or μ
      have h3 := fun μ => oEq_ss _ _ ok_behind ok_behind μ
      have ix := oIx_cell gl
      have jo := law_joined_be (gR k0 k1) (gR j0 j1) hq (μ ++ [some (.lst (F.map lbT))])
      have e1 : rd1 q F (.tup [.str "behind", .int k, .int j]) = (jn (nxB (gT F k) (gT F j)) q (p0B (gT F k))).map (mkT (acB (gT F j))) := by simp [rd1, l_bo]
      have := fin _ e1 (some (.tup [.str "behind", .int k, .int j]))
      simp [ix_0, ix_1, ix_2, h1, h2, h3, on, l_bo, ix, at_L2 k0 k1, at_L2 j0 j1, call1_ok jo]
      simpa using this
  · rintro ρ μ' ⟨F, x3, x4, hF, rfl, rfl⟩
    rw [List.take_length] at hF
    have lF := rds_len q ls F hF
    rw [hF]
    have al := at_lastM lbT ([], []) (F := F) (fun z => by rw [z] at lF; simp at lF; omega)
    have ix := oIx_cell (get_last μ (some (M.lst (F.map lbT))))
    simp [ix, al]
    rw [leave_pure (show (lbT _).pure = true from pure_rdL _)]
    exact ⟨_, _, rfl, rfl, by simp⟩)

/-! SD: told or refused; the law's words, states and levels. -/
theorem tryO_rt {names : List Str} {body : Sv} {suite : Str → Sv} {ρ : G4.Env} {μ μ' : Mu} {d : D} (h : body ρ μ = some (.rt d μ')) : sTryO names body suite ρ μ = some (.rt d μ') := by
  unfold sTryO; rw [h]
theorem tryO_ex {names : List Str} {body : Sv} {suite : Str → Sv} {ρ ρ' : G4.Env} {μ μ' μ2 : Mu} {c : Str} {d : D} (h : body ρ μ = some (.ex ⟨c, []⟩ ρ' μ')) (hc : c ∈ names) (hs : suite c ρ' μ' = some (.rt d μ2)) : sTryO names body suite ρ μ = some (.rt d μ2) := by
  unfold sTryO; rw [h]
  simp only
  rw [if_pos ⟨hc, rfl⟩, hs]
/-! ### levels -/
/-! XA: words of one length, counted (plain). -/
def wordsQ (q : Nat) : Nat → List (List Int)
  | 0 => [[]]
  | k + 1 => (wordsQ q k).flatMap fun w => (List.range q).map fun (l : Nat) => w ++ [(l : Int)]
def sumN {α : Type} (xs : List α) (f : α → Int) : Int := (xs.map f).sum
theorem sumN_nil {α : Type} (f : α → Int) : sumN [] f = 0 := rfl
theorem sumN_cons {α : Type} (x : α) (xs : List α) (f : α → Int) : sumN (x :: xs) f = f x + sumN xs f := by simp [sumN]
theorem sumN_append {α : Type} (xs ys : List α) (f : α → Int) : sumN (xs ++ ys) f = sumN xs f + sumN ys f := by simp [sumN]
theorem sumN_flatMap {α β : Type} (g : α → List β) (f : β → Int) : ∀ xs : List α, sumN (xs.flatMap g) f = sumN xs fun x => sumN (g x) f
  | [] => rfl
  | x :: xs => by rw [List.flatMap_cons, sumN_append, sumN_cons, sumN_flatMap g f xs]
theorem sumN_map {α β : Type} (g : α → β) (f : β → Int) (xs : List α) : sumN (xs.map g) f = sumN xs fun x => f (g x) := by simp [sumN, List.map_map, Function.comp_def]
theorem sumN_zero {α : Type} : ∀ xs : List α, sumN xs (fun _ => 0) = 0
  | [] => rfl
  | x :: xs => by rw [sumN_cons, sumN_zero xs]; rfl
theorem sumN_add {α : Type} (f g : α → Int) : ∀ xs : List α, sumN xs (fun x => f x + g x) = sumN xs f + sumN xs g
  | [] => rfl
  | x :: xs => by rw [sumN_cons, sumN_cons, sumN_cons, sumN_add f g xs]; omega
theorem sumN_swap {α β : Type} (h : α → β → Int) (ys : List β) : ∀ xs : List α, sumN xs (fun x => sumN ys fun y => h x y) = sumN ys fun y => sumN xs fun x => h x y
  | [] => by simp only [sumN_nil]; exact (sumN_zero ys).symm
  | x :: xs => by
    rw [sumN_cons, sumN_swap h ys xs, ← sumN_add]
    simp only [sumN_cons]
theorem words_succ (q k : Nat) (f : List Int → Int) : sumN (wordsQ q (k + 1)) f = sumN (wordsQ q k) fun w => sumN (List.range q) fun (l : Nat) => f (w ++ [(l : Int)]) := by
  rw [wordsQ, sumN_flatMap]
  congr 1
  funext w
  rw [sumN_map]
/-- counted by their first letters -/
theorem words_first (q : Nat) : ∀ (k : Nat) (f : List Int → Int), sumN (wordsQ q (k + 1)) f = sumN (List.range q) fun (l : Nat) => sumN (wordsQ q k) fun w => f ((l : Int) :: w)
  | 0, f => by
    rw [words_succ]
    simp [wordsQ, sumN]
  | k + 1, f => by
    rw [words_succ, words_first q k]
    congr 1
    funext l
    rw [words_succ]
    rfl
theorem words_len (q : Nat) : ∀ k, (wordsQ q k).length = q ^ k
  | 0 => by simp [wordsQ]
  | k + 1 => by
    have : ∀ xs : List (List Int), (xs.flatMap fun w => (List.range q).map fun (l : Nat) => w ++ [(l : Int)]).length = xs.length * q := fun xs => by
      induction xs with
      | nil => simp
      | cons x xs ih => rw [List.flatMap_cons, List.length_append, ih, List.length_map, List.length_range, List.length_cons, Nat.succ_mul, Nat.add_comm]
    rw [wordsQ, this, words_len q k, Nat.pow_succ]
theorem words_rg (q : Nat) : ∀ (k : Nat) (w : List Int), w ∈ wordsQ q k → w.length = k ∧ ∀ x ∈ w, 0 ≤ x ∧ x < (q : Int)
  | 0, w, h => by
    have : w = [] := by simpa [wordsQ] using h
    subst this
    exact ⟨rfl, by simp⟩
  | k + 1, w, h => by
    obtain ⟨u, hu, hw⟩ := List.mem_flatMap.mp h
    obtain ⟨l, hl, rfl⟩ := List.mem_map.mp hw
    obtain ⟨h1, h2⟩ := words_rg q k u hu
    refine ⟨by simp [h1], fun x hx => ?_⟩
    rcases List.mem_append.mp hx with hx | hx
    · exact h2 x hx
    · have : x = (l : Int) := by simpa using hx
      have := List.mem_range.mp hl
      omega
/-- how many of the words are taken from a state on -/
theorem sumN_filter {α : Type} (p : α → Bool) : ∀ xs : List α, sumN xs (fun x => if p x = true then 1 else 0) = ((xs.filter p).length : Int)
  | [] => rfl
  | x :: xs => by
    rw [sumN_cons, sumN_filter p xs, List.filter_cons]
    cases p x <;> simp <;> omega

/-! XB: a reader's counts. -/
def cn (t : Tb) : Nat → List Int
  | 0 => t.2.map fun b => if b = true then 1 else 0
  | k + 1 => t.1.map fun row => (row.map fun s => (cn t k).getD s.toNat 0).sum
theorem cn_len {q : Nat} {t : Tb} (R : Rdr q t) : ∀ k, (cn t k).length = t.1.length
  | 0 => by show (t.2.map _).length = _; rw [List.length_map, ← R.1]
  | k + 1 => by show (t.1.map _).length = _; rw [List.length_map]
theorem range_getD (q : Nat) (row : List Int) (h : row.length = q) : (List.range q).map (fun l => row.getD l 0) = row := by
  apply List.ext_getElem
  · simp [h]
  · intro i h1 h2
    simp [List.getD_eq_getElem?_getD, List.getElem?_eq_getElem h2]
theorem cn_words {q : Nat} {t : Tb} (R : Rdr q t) : ∀ (k : Nat) (s : Int), 0 ≤ s → s < (t.1.length : Int) → (cn t k).getD s.toNat 0 = sumN (wordsQ q k) fun w => if tf t (runT t s w) = true then 1 else 0 := by
  intro k
  induction k with
  | zero =>
    intro s h0 h1
    have hs : s.toNat < t.2.length := by have := R.1; omega
    show (t.2.map fun b => if b = true then (1 : Int) else 0).getD s.toNat 0 = sumN [[]] _
    rw [List.getD_eq_getElem?_getD, List.getElem?_map, List.getElem?_eq_getElem hs, sumN_cons, sumN_nil]
    have : tf t (runT t s []) = t.2[s.toNat] := by
      show t.2.getD s.toNat false = _
      rw [List.getD_eq_getElem?_getD, List.getElem?_eq_getElem hs]
      rfl
    rw [this]
    simp
  | succ k ih =>
    intro s h0 h1
    obtain ⟨row, g1, g2, hl, hx⟩ := R.row h0 h1
    have hs : s.toNat < t.1.length := by omega
    show (t.1.map fun row => (row.map fun s => (cn t k).getD s.toNat 0).sum).getD s.toNat 0 = _
    rw [List.getD_eq_getElem?_getD, List.getElem?_map, g1, words_first]
    show (row.map fun s => (cn t k).getD s.toNat 0).sum = _
    have e : row.map (fun s => (cn t k).getD s.toNat 0) = (List.range q).map fun l => (cn t k).getD (row.getD l 0).toNat 0 := by
      conv => lhs; rw [← range_getD q row hl]
      rw [List.map_map]
      rfl
    rw [e]
    show sumN (List.range q) (fun l => (cn t k).getD (row.getD l 0).toNat 0) = _
    unfold sumN
    congr 1
    apply List.map_congr_left
    intro l hl'
    have hlq := List.mem_range.mp hl'
    have hm : row.getD l 0 ∈ row := by
      rw [List.getD_eq_getElem?_getD, List.getElem?_eq_getElem (by omega : l < row.length)]
      exact List.getElem_mem _
    have := hx _ hm
    rw [ih (row.getD l 0) this.1 this.2]
    have tx1 : tx t s (l : Int) = row.getD l 0 := by
      unfold tx
      rw [g2, Int.toNat_natCast]
    unfold sumN
    congr 1
    apply List.map_congr_left
    intro w _
    show _ = if tf t (runT t (tx t s (l : Int)) w) = true then (1 : Int) else 0
    rw [tx1]
theorem cn_at {q : Nat} {t : Tb} (R : Rdr q t) (k : Nat) : (cn t k).getD 0 0 = sumN (wordsQ q k) fun w => if tf t (runT t 0 w) = true then 1 else 0 := by
  have := cn_words R k 0 (by omega) (by have := R.2.1; omega)
  exact this
theorem getD_nonneg {xs : List Int} (h : ∀ x ∈ xs, 0 ≤ x) (j : Nat) : 0 ≤ xs.getD j 0 := by
  rw [List.getD_eq_getElem?_getD]
  cases e : xs[j]? with
  | none => exact Int.le_refl 0
  | some x => exact h x (List.mem_of_getElem? e)
theorem sumN_bound {α : Type} (f : α → Int) (c : Int) : ∀ xs : List α, (∀ x ∈ xs, 0 ≤ f x ∧ f x ≤ c) → 0 ≤ sumN xs f ∧ sumN xs f ≤ xs.length * c
  | [], _ => by simp [sumN]
  | x :: xs, h => by
    have h1 := h x (by simp)
    have h2 := sumN_bound f c xs fun y hy => h y (by simp [hy])
    rw [sumN_cons, List.length_cons, Int.natCast_add, Int.add_mul]
    simp only [Int.natCast_one, Int.one_mul]
    omega
/-- a count is at most q ^ k -/
theorem cn_bound {q : Nat} {t : Tb} (R : Rdr q t) (k : Nat) : ∀ x ∈ cn t k, 0 ≤ x ∧ x ≤ ((q ^ k : Nat) : Int) := by
  intro x hx
  obtain ⟨j, hj, rfl⟩ := List.getElem_of_mem hx
  have hj2 : j < t.1.length := by rw [← cn_len R k]; exact hj
  have e := cn_words R k (j : Int) (by omega) (by omega)
  rw [Int.toNat_natCast, List.getD_eq_getElem?_getD, List.getElem?_eq_getElem hj] at e
  have e : (cn t k)[j] = _ := e
  rw [e]
  have := sumN_bound (fun w => if tf t (runT t (j : Int) w) = true then (1 : Int) else 0) 1 (wordsQ q k) fun w _ => by split <;> omega
  rw [words_len] at this
  omega

/-! XC: count_taken and the law's own count. -/
theorem sumR_map {ρ : G4.Env} {μ : Mu} {i : Nat} {fe : Ev D} {f : Int → Int} : ∀ {row : List Int}, (∀ s ∈ row, fe (ρ.set i (some (.int s))) μ = some (.ok (.int (f s)) μ)) → G4.sumR (tName i) fe ρ (row.map D.int) μ = some (row.map f, μ)
  | [], _ => rfl
  | s :: row, h => by
    have h1 := h s (by simp)
    have h2 := sumR_map (row := row) fun x hx => h x (by simp [hx])
    show G4.sumR (tName i) fe ρ (.int s :: row.map D.int) μ = _
    simp only [G4.sumR, tName, h1, h2]
    rfl
theorem okS_of {c : Int} (hc : c ≤ 1000000000000000) : ∀ {is : List Int} {t : Int}, 0 ≤ t → (∀ x ∈ is, 0 ≤ x ∧ x ≤ c) → t + is.length * c ≤ 1000000000000000000 → okS t is = true
  | [], t, _, _, _ => rfl
  | x :: is, t, ht, h, hs => by
    have h1 := h x (by simp)
    have hc0 : 0 ≤ c := by omega
    have hl : (0 : Int) ≤ is.length * c := Int.mul_nonneg (by omega) hc0
    rw [List.length_cons, Int.natCast_add, Int.add_mul] at hs
    simp only [Int.natCast_one, Int.one_mul] at hs
    have := okS_of hc (is := is) (t := t + x) (by omega) (fun y hy => h y (by simp [hy])) (by omega)
    have i1 : PySem.InLong x ∧ PySem.InLong (t + x) := ⟨⟨by omega, by omega⟩, by omega, by omega⟩
    simp only [okS, this, Bool.and_true, decide_eq_true_eq]
    exact i1
theorem pow_le {q k : Nat} (hq : q ≤ 3) (hk : k ≤ 30) : ((q ^ k : Nat) : Int) ≤ 205891132094649 := by
  have h1 : q ^ k ≤ 3 ^ k := Nat.pow_le_pow_left hq k
  have h2 : 3 ^ k ≤ 3 ^ 30 := Nat.pow_le_pow_right (by decide) hk
  have h3 : 3 ^ 30 = 205891132094649 := by decide +kernel
  omega
def cnF (t : Tb) (k : Nat) (s : Int) : Int := (cn t k).getD s.toNat 0
theorem cn_succ (t : Tb) (k : Nat) : cn t (k + 1) = t.1.map fun row => (row.map (cnF t k)).sum := rfl
theorem ok_row {q k : Nat} {t : Tb} (R : Rdr q t) (hq : q ≤ 3) (hk : k ≤ 30) {row : List Int} (hr : row ∈ t.1) : okS 0 (row.map (cnF t k)) = true := by
  obtain ⟨hl, hx⟩ := R.2.2.2 row hr
  have pb := pow_le hq hk
  refine okS_of (c := 205891132094649) (by omega) (Int.le_refl _) (fun x hx' => ?_) (by rw [List.length_map, hl]; omega)
  obtain ⟨s, hs, rfl⟩ := List.mem_map.mp hx'
  have h := hx s hs
  have hj : s.toNat < (cn t k).length := by rw [cn_len R k]; omega
  have e : cnF t k s = (cn t k)[s.toNat] := by
    unfold cnF
    rw [List.getD_eq_getElem?_getD, List.getElem?_eq_getElem hj]
    rfl
  rw [e]
  have := cn_bound R k _ (List.getElem_mem hj)
  omega
theorem ix_cn {q k : Nat} {t : Tb} (R : Rdr q t) {s : Int} (h0 : 0 ≤ s) (h1 : s < (t.1.length : Int)) : atI ((cn t k).map D.int) s = some (.int (cnF t k s)) := atI_ok h0 (by
  have hj : s.toNat < (cn t k).length := by rw [cn_len R k]; omega
  rw [List.getElem?_map, List.getElem?_eq_getElem hj]
  unfold cnF
  rw [List.getD_eq_getElem?_getD, List.getElem?_eq_getElem hj]
  rfl)
def ResC (o : Option (List Tb)) (k : Nat) (μ : Mu) : Rs D → Prop := fun x => match o with
  | none => x = .exc ⟨"TooManyStates", []⟩ μ
  | some F => x = .ok (.int ((cn (F.getD (F.length - 1) ([], [])) k).getD 0 0)) μ
theorem count_taken_spec {q : Nat} (hq : q ≤ 3) {ls : List D} (hG : Goods ls) (h0 : ls ≠ []) (hl : ls.length ≤ 300) {k : Nat} (hk : k ≤ 30) (μ : Mu) : Rt (m_count_taken [.tup ls, .int q, .int (k : Nat)] μ) (ResC (rds q ls) k μ) := by
  refine Rt.run ?_
  obtain ⟨r, er, hr⟩ := reader_of_spec hq hG h0 hl μ
  cases hrd : rds q ls with
  | none =>
    rw [hrd] at hr
    obtain rfl : r = .exc ⟨"TooManyStates", []⟩ μ := hr
    have ax : ∀ (tg : Tv) (ρ : G4.Env), G4.asgs tg (some (.exc ⟨"TooManyStates", []⟩ μ)) ρ = some (.ex ⟨"TooManyStates", []⟩ ρ μ) := fun _ _ => rfl
    simp [b_count_taken, er, ax]
    exact rfl
  | some F =>
    rw [hrd] at hr
    have hr : r = .ok (tbT (F.getD (F.length - 1) ([], []))) μ := hr
    subst hr
    obtain ⟨t, ht, R, _⟩ := rds_takes (q := q) (w := []) (by intro x hx; simp at hx) hG h0 hrd
    have gF : F.getD (F.length - 1) ([], []) = t := by rw [List.getD_eq_getElem?_getD, ht]; rfl
    have hC : ResC (some F) k μ = fun x => x = .ok (.int ((cn t k).getD 0 0)) μ := by
      funext x
      show (x = .ok (.int ((cn (F.getD (F.length - 1) ([], [])) k).getD 0 0)) μ) = _
      rw [gF]
    rw [hC]
    rw [gF] at er
    have tt : tTupT 2 (tConss (tName 5) (tConss (tName 6) tNils)) (tbT t) [some (.tup ls), some (.int q), some (.int (k : Nat)), none, none, none, none, none, none, none] μ = some (.ok [some (.tup ls), some (.int q), some (.int (k : Nat)), none, none, some (.lst (t.1.map intsL)), some (.lst (t.2.map D.bl)), none, none, none] μ) := rfl
    have rk : rOk (k : Int) = true := rOk_of (by omega) (by omega)
    have l1 := R.2.2.1
    have l2 := R.1
    simp [b_count_taken, er, tt]
    rw [comps_fmap D.bl (fun _ => true) (fun b => D.int (if b = true then 1 else 0)) (fun b _ => rfl) (fun b _ _ => by cases b <;> simp), newL_ok (by rw [List.length_map]; exact Nat.le_trans (List.length_filter_le _ _) (by omega))]
    have f1 : t.2.filter (fun _ => true) = t.2 := List.filter_eq_self.mpr fun _ _ => rfl
    have f2 : (t.2.map fun b => D.int (if b = true then 1 else 0)) = (cn t 0).map D.int := by
      show _ = (t.2.map fun b => if b = true then (1 : Int) else 0).map D.int
      rw [List.map_map]
      rfl
    rw [f1, f2]
    simp [rk]
    refine Sk.seq_loop (fun i ρ' μ' => ∃ x4, ρ' = [some (.tup ls), some (.int q), some (.int (k : Nat)), some (.lst ((cn t i).map D.int)), x4, some (.lst (t.1.map intsL)), some (.lst (t.2.map D.bl)), none, none, none] ∧ μ' = μ ∧ i ≤ k) ⟨none, rfl, rfl, Nat.zero_le _⟩ ?_ ?_
    · rintro i y ρ' μ' hi ⟨x4, rfl, rfl, hik⟩
      obtain ⟨hil, rfl⟩ := rng_get hi
      rw [turn1_name]
      refine Go.of ?_
      simp
      rw [comps_fmap intsL (fun _ => true) (fun row => D.int ((row.map (cnF t i)).sum)) (fun row _ => rfl) (fun row hrow _ => by
        have ok := ok_row R hq (k := i) (by omega) hrow
        have hx := (R.2.2.2 row hrow).2
        have sr := sumR_map (ρ := wipeE ([some (.tup ls), some (.int q), some (.int (k : Nat)), some (.lst ((cn t i).map D.int)), some (.int (0 + (i : Int))), some (.lst (t.1.map intsL)), some (.lst (t.2.map D.bl)), none, none, none].set 8 (some (intsL row))) [9]) (μ := μ') (i := 9) (fe := eOp oIx (eVar 3) (eVar 9)) (f := cnF t i) (row := row) (fun s hs => by
          have := ix_cn (k := i) R (hx s hs).1 (by have := (hx s hs).2; omega)
          simp [this])
        show Ro.bnd (some (Rs.ok (Src.its (row.map D.int)) μ')) _ = _
        show (match G4.sumR (tName 9) (eOp oIx (eVar 3) (eVar 9)) _ (row.map D.int) μ' with | some (is, μ2) => if okS 0 is = true then some (Rs.ok (D.int is.sum) μ2) else none | none => none) = _
        rw [show (0 + (i : Int)) = (i : Int) by omega] at sr
        rw [sr]
        show (if okS 0 (row.map (cnF t i)) = true then _ else none) = _
        rw [if_pos ok]), newL_ok (by rw [List.length_map]; exact Nat.le_trans (List.length_filter_le _ _) (by omega))]
      have g1 : t.1.filter (fun _ => true) = t.1 := List.filter_eq_self.mpr fun _ _ => rfl
      have g2 : (t.1.map fun row => D.int ((row.map (cnF t i)).sum)) = (cn t (i + 1)).map D.int := by
        rw [cn_succ, List.map_map]
        rfl
      rw [g1, g2]
      simp
      omega
    · rintro ρ' μ' ⟨x4, rfl, rfl, _⟩
      rw [rngD_length]
      have ix := ix_cn (k := k) R (s := 0) (by omega) (by have := R.2.1; omega)
      have c0 : cnF t k 0 = (cn t k)[0]?.getD 0 := by simp [cnF, List.getD_eq_getElem?_getD]
      simp [ix, c0]
def countD (o : Option (List Tb)) (k : Nat) : D := match o with
  | none => .lst [.str "refused"]
  | some F => .lst [.str "told", .int ((cn (F.getD (F.length - 1) ([], [])) k).getD 0 0)]
theorem law_count_spec {q : Nat} (hq : q ≤ 3) {ls : List D} (hG : Goods ls) (h0 : ls ≠ []) (hl : ls.length ≤ 300) {k : Nat} (hk : k ≤ 30) (μ : Mu) : m__law_count [.tup ls, .int q, .int (k : Nat)] μ = some (.ok (countD (rds q ls) k) μ) := SpnQ.out (by
  refine Rn.run ?_
  obtain ⟨x, ex, hx⟩ := count_taken_spec hq hG h0 hl hk μ
  cases hr : rds q ls with
  | none =>
    rw [hr] at hx
    obtain rfl : x = .exc ⟨"TooManyStates", []⟩ μ := hx
    have hb : sRet (eLst (aCons (eC (.str "told")) (aCons (eCallX m_count_taken (aCons (eVar 0) (aCons (eVar 1) (aCons (eVar 2) aNil)))) aNil))) [some (.tup ls), some (.int q), some (.int (k : Nat))] μ = some (.ex ⟨"TooManyStates", []⟩ [some (.tup ls), some (.int q), some (.int (k : Nat))] μ) := by
      simp [ex]
      rfl
    simp only [b__law_count]
    rw [show ([D.tup ls, .int q, .int (k : Nat)].map some ++ List.replicate (3 - [D.tup ls, .int q, .int (k : Nat)].length) none) = [some (.tup ls), some (.int q), some (.int (k : Nat))] from rfl]
    rw [tryO_ex (d := .lst [.str "refused"]) (μ2 := μ) hb (by simp) (by simp)]
    rw [Sk_ok, ends_rt, leave_pure rfl]
    exact ⟨_, _, rfl, rfl, by simp⟩
  | some F =>
    rw [hr] at hx
    have hx : x = .ok (.int ((cn (F.getD (F.length - 1) ([], [])) k).getD 0 0)) μ := hx
    subst hx
    have hb : sRet (eLst (aCons (eC (.str "told")) (aCons (eCallX m_count_taken (aCons (eVar 0) (aCons (eVar 1) (aCons (eVar 2) aNil)))) aNil))) [some (.tup ls), some (.int q), some (.int (k : Nat))] μ = some (.rt (countD (some F) k) μ) := by
      simp [ex, countD]
    simp only [b__law_count]
    rw [show ([D.tup ls, .int q, .int (k : Nat)].map some ++ List.replicate (3 - [D.tup ls, .int q, .int (k : Nat)].length) none) = [some (.tup ls), some (.int q), some (.int (k : Nat))] from rfl]
    rw [tryO_rt hb, Sk_ok, ends_rt, leave_pure rfl]
    exact ⟨_, _, rfl, rfl, by simp⟩)

/-! XD: the law's own count. -/
theorem intsD_map : ∀ is : List Int, intsD (is.map D.int) = some is
  | [] => rfl
  | i :: is => by
    have := intsD_map is
    simp [intsD, this]
theorem sumL_ok {is : List Int} (h : okS 0 is = true) (μ : Mu) : oSumL [.lst (is.map D.int)] μ = some (.ok (.int is.sum) μ) := by
  have h1 : viewL μ (.lst (is.map D.int)) = some (is.map D.int) := rfl
  simp only [oSumL, sumLD, h1, intsD_map, h, if_true]
theorem law_due_spec {q : Nat} {t : Tb} (R : Rdr q t) (hq : q ≤ 3) {k : Nat} (hk : k ≤ 30) (μ : Mu) : m__law_due [lbT t, .int (k : Nat)] μ = some (.ok (.int ((cn t k).getD 0 0)) μ) := SpnQ.out (by
  refine Rn.run ?_
  have l1 := R.2.2.1
  have l2 := R.1
  have rk : rOk (k : Int) = true := rOk_of (by omega) (by omega)
  have i0 : ∀ μ, oIxA (lbT t) (.int 0) μ = some (.ok (.lst (t.1.map intsL)) μ) := fun μ => rfl
  have i1 : ∀ μ, oIxA (lbT t) (.int 1) μ = some (.ok (.lst (t.2.map D.bl)) μ) := fun μ => rfl
  have ib : ∀ (b : Bool) μ, oIxA (.lst [.int 0, .int 1]) (.bl b) μ = some (.ok (.int (if b = true then 1 else 0)) μ) := fun b μ => by cases b <;> rfl
  simp [b__law_due, i1]
  refine Sk.seq_loop (fun i ρ' μ' => ∃ x3, ρ' = [some (lbT t), some (.int (k : Nat)), some (.cell μ.length), x3, none, none, none] ∧ μ' = μ ++ [some (.lst (((t.2.take i).map fun b => if b = true then (1 : Int) else 0).map D.int))]) ⟨none, rfl, rfl⟩ ?_ ?_
  · rintro i d ρ' μ' hd ⟨x3, rfl, rfl⟩
    rw [List.getElem?_map] at hd
    cases hx : t.2[i]? with
    | none => rw [hx] at hd; exact absurd hd (by simp)
    | some b =>
      rw [hx] at hd
      obtain rfl : D.bl b = d := by simpa using hd
      rw [turn1_name]
      refine Go.of ?_
      generalize hX : ((t.2.take i).map fun b => if b = true then (1 : Int) else 0) = X
      have hXl : X.length ≤ 100 := by rw [← hX, List.length_map, List.length_take]; omega
      simp [-List.map_map]
      rw [mt1_ok (xs := X.map D.int) (ys := X.map D.int) (as := [.int (if b = true then 1 else 0)]) (get_last ..) (by simp [ib]) (get_last ..), oAppend_ok (by rw [List.length_map]; omega) (by simp), set_last]
      simp only [drops_ok, Sk_ok, Go_nx]
      refine ⟨⟨_, rfl⟩, ?_⟩
      rw [← hX]
      simp [hx]
      rw [List.take_add_one, List.getElem?_map, hx]
      rfl
  · rintro ρ' μ' ⟨x3, rfl, rfl⟩
    rw [List.length_map, List.take_length]
    have c0 : (t.2.map fun b => if b = true then (1 : Int) else 0) = cn t 0 := rfl
    rw [c0]
    simp [rk]
    refine Sk.seq_loop (fun i ρ' μ' => ∃ x3 x4 c rest, ρ' = [some (lbT t), some (.int (k : Nat)), some (.cell c), x3, x4, none, none] ∧ μ' = μ ++ rest ∧ μ'[c]? = some (some (.lst ((cn t i).map D.int)))) ⟨x3, none, μ.length, _, rfl, rfl, get_last ..⟩ ?_ ?_
    · rintro i y ρ' μ' hi ⟨x3, x4, c, rest, rfl, rfl, hc⟩
      obtain ⟨hil, rfl⟩ := rng_get hi
      rw [turn1_name]
      refine Go.of ?_
      simp [i0]
      have te : ∀ row ∈ t.1, ∀ ρ : G4.Env, ρ.length = 7 → ρ[5]? = some (some (intsL row)) → ρ[2]? = some (some (.cell c)) → eB oSumL (aCons (eComp (iAnyD (eVar 5)) (tName 6) eYes (eOp oIxA (eVar 2) (eVar 6)) [6]) aNil) ρ (μ ++ rest) = some (.ok (.int ((row.map (cnF t i)).sum)) (μ ++ rest)) := fun row hrow ρ hρ h5 h2 => by
        have ok := ok_row R hq (k := i) (by omega) hrow
        obtain ⟨hl, hx⟩ := R.2.2.2 row hrow
        have w2 : (wipeE ρ [6])[2]? = some (some (.cell c)) := by simp [List.getElem?_set, h2]
        have wl : (wipeE ρ [6]).length = 7 := by rw [wipeE_length]; exact hρ
        have cm : comps newL (some (.ok (.its (row.map D.int)) (μ ++ rest))) (tName 6) eYes (eOp oIxA (eVar 2) (eVar 6)) (wipeE ρ [6]) = some (.ok (.lst ((row.map (cnF t i)).map D.int)) (μ ++ rest)) := by
          generalize wipeE ρ [6] = ρ1 at w2 wl
          rw [comps_fmap D.int (fun _ => true) (fun s => D.int (cnF t i s)) (fun s _ => rfl) (fun s hs _ => by
            have y2 : (ρ1.set 6 (some (.int s)))[2]? = some (some (.cell c)) := by rw [List.getElem?_set_ne (by decide)]; exact w2
            have y6 : (ρ1.set 6 (some (.int s)))[6]? = some (some (.int s)) := List.getElem?_set_self (by omega)
            have ix := ix_cn (k := i) R (hx s hs).1 (by have := (hx s hs).2; omega)
            simp [y2, y6, oIx_cell hc, ix])]
          have g1 : row.filter (fun _ => true) = row := List.filter_eq_self.mpr fun _ _ => rfl
          rw [g1, newL_ok (by rw [List.length_map]; omega), List.map_map]
          rfl
        have i5 : iAnyD (eVar 5) ρ (μ ++ rest) = some (.ok (.its (row.map D.int)) (μ ++ rest)) := by simp [iAnyD, eVar, h5, srcOf, intsL]
        have ec : eComp (iAnyD (eVar 5)) (tName 6) eYes (eOp oIxA (eVar 2) (eVar 6)) [6] ρ (μ ++ rest) = some (.ok (.lst ((row.map (cnF t i)).map D.int)) (μ ++ rest)) := by
          rw [← cm, ← i5]
          rfl
        generalize eComp (iAnyD (eVar 5)) (tName 6) eYes (eOp oIxA (eVar 2) (eVar 6)) [6] = EC at ec
        simp only [eB_ap, aCons_ap, aNil_ap, ec]
        exact sumL_ok ok _
      rw [comps_fmap intsL (fun _ => true) (fun row => D.int ((row.map (cnF t i)).sum)) (fun row _ => rfl) (fun row hrow _ => te row hrow _ rfl rfl rfl), newC_ok (by rw [List.length_map]; exact Nat.le_trans (List.length_filter_le _ _) (by omega))]
      have g1 : t.1.filter (fun _ => true) = t.1 := List.filter_eq_self.mpr fun _ _ => rfl
      have g2 : (t.1.map fun row => D.int ((row.map (cnF t i)).sum)) = (cn t (i + 1)).map D.int := by
        rw [cn_succ, List.map_map]
        rfl
      rw [g1, g2]
      simp only [sets_ok, Sk_ok, Go_nx]
      exact ⟨_, _, (μ ++ rest).length, rfl, ⟨_, by rw [List.append_assoc]⟩, get_last ..⟩
    · rintro ρ' μ' ⟨x3, x4, c, rest, rfl, rfl, hc⟩
      rw [rngD_length] at hc
      have ix := ix_cn (k := k) R (s := 0) (by omega) (by have := R.2.1; omega)
      have oi : oIxA (.cell c) (.int 0) (μ ++ rest) = some (.ok (.int (cnF t k 0)) (μ ++ rest)) := by
        show oIx (.cell c) (.int 0) (μ ++ rest) = _
        rw [oIx_cell hc, ix]
        rfl
      have c0 : cnF t k 0 = (cn t k).getD 0 0 := rfl
      simp [oi, c0]
      exact ⟨rfl, rfl⟩)

/-! M_k51: the law. -/
def TrQ : D → Mu → Prop := fun d _ => d = .bl true
theorem taken_count {q : Nat} {ls : List D} (hG : Goods ls) (h0 : ls ≠ []) {F : List Tb} (hr : rds q ls = some F) (k : Nat) : ∃ t, F[F.length - 1]? = some t ∧ Rdr q t ∧ ((((wordsQ q k).filter fun w => tkn w ls).length : Nat) : Int) = (cn t k).getD 0 0 := by
  obtain ⟨t, ht, R, _⟩ := rds_takes (q := q) (w := []) (by intro x hx; simp at hx) hG h0 hr
  refine ⟨t, ht, R, ?_⟩
  rw [cn_at R k, ← sumN_filter]
  unfold sumN
  congr 1
  apply List.map_congr_left
  intro w hw
  obtain ⟨t2, ht2, _, e⟩ := rds_takes (q := q) (w := w) (fun x hx => (words_rg q k w hw).2 x hx) hG h0 hr
  rw [ht] at ht2
  cases ht2
  rw [e]
def wD (w : List Int) : D := .lst (w.map D.int)
theorem pure_wD (w : List Int) : (wD w).pure = true := pure_intsL w
theorem pures_wD (xs : List (List Int)) : pures (xs.map wD) = true := by
  rw [pures_iff]
  intro d hd
  obtain ⟨w, _, rfl⟩ := List.mem_map.mp hd
  exact pure_wD w
def extW (w : List Int) (b : Nat) : List (List Int) := (List.range b).map fun (l : Nat) => w ++ [(l : Int)]
theorem plus_w {w : List Int} (hw : w.length ≤ 1000) (l : Int) (μ : Mu) : oPlus (wD w) (.lst [.int l]) μ = some (.ok (wD (w ++ [l])) μ) := by
  have lg : (w ++ [l]).map D.int = w.map D.int ++ [.int l] := by simp
  unfold wD
  rw [lg, oPlus_lst, newL_ok (by rw [List.length_append, List.length_map]; simp; omega)]
theorem words_small (q k : Nat) (hq : q ≤ 3) (hk : k ≤ 3) : (wordsQ q k).length ≤ 27 := by
  rw [words_len]
  have h1 : q ^ k ≤ 3 ^ k := Nat.pow_le_pow_left hq k
  have h2 : 3 ^ k ≤ 3 ^ 3 := Nat.pow_le_pow_right (by decide) hk
  omega
theorem flat_len (q : Nat) : ∀ xs : List (List Int), (xs.flatMap fun w => extW w q).length = xs.length * q
  | [] => by simp
  | x :: xs => by rw [List.flatMap_cons, List.length_append, flat_len q xs, extW, List.length_map, List.length_range, List.length_cons, Nat.succ_mul, Nat.add_comm]
theorem comps_taken {ρ : G4.Env} {μ : Mu} {ls : List D} (hG : Goods ls) (h0 : ls ≠ []) (hl : ls.length ≤ 400) {W : List (List Int)} (hW : ∀ w ∈ W, w.length ≤ 100) (h11 : ∀ d, (ρ.set 11 (some d))[11]? = some (some d)) (h2 : ∀ d, (ρ.set 11 (some d))[2]? = some (some (.tup ls))) :
    comps newL (some (.ok (.its (W.map wD)) μ)) (tName 11) (eTest (eCall m__law_taken (aCons (eVar 2) (aCons (eVar 11) aNil)))) (eVar 11) ρ = newL ((W.filter fun w => tkn w ls).map wD) μ := by
  refine comps_fmap wD (fun w => tkn w ls) wD (fun w hw => ?_) fun w _ _ => ?_
  · have := law_taken_spec hG h0 hl (hW w hw) μ
    have : m__law_taken [.tup ls, wD w] μ = _ := this
    simp [h11, h2, call1_ok this]
  · simp [h11]
theorem math (ns : List Int) (h : ns.length ≤ 63) : ∃ μ, m_law [.scr (ns.map D.int)] [] = some (.ok (.bl true) μ) := by
  have key : Rn (m_law [.scr (ns.map D.int)] []) TrQ := by
    refine Rn.run ?_
    obtain ⟨B0, hB0, e0⟩ := box_spec ns h
    obtain ⟨r1, B1, p0, p1, hB1, e1⟩ := next_spec hB0 [] (m := 6) (by decide)
    obtain ⟨B2, ls, hB2, hG, hl, e2⟩ := lines_spec hB1 [] (size := 1 + r1) (by omega) (by omega)
    have hne : ls ≠ [] := fun z => by rw [z] at hl; simp at hl; omega
    obtain ⟨r3, B3, q0, q1, hB3, e3⟩ := next_spec hB2 [] (m := 3) (by decide)
    obtain ⟨q, hq⟩ : ∃ q : Nat, 1 + r3 = (q : Int) := ⟨(1 + r3).toNat, by omega⟩
    have hq3 : q ≤ 3 := by omega
    have e4 := law_reader_spec hq3 hG hne (by omega) [some B3]
    simp [b_law, call1_ok e0]
    simp [call1_ok e1]
    simp [call1_ok e2]
    simp [call1_ok e3, hq]
    simp [call1_ok e4]
    cases hr : rds q ls with
    | none =>
      have ec := law_count_spec hq3 hG hne (by omega) (k := 2) (by omega) [some B3]
      rw [hr] at ec
      have ec : m__law_count [.tup ls, .int q, .int 2] [some B3] = some (.ok (.lst [.str "refused"]) [some B3]) := ec
      have qe : oEq (.lst [.str "refused"]) (.lst [.str "refused"]) [some B3] = some (.ok (.bl true) [some B3]) := oEq_self (by decide +kernel) _
      simp [lrdD, D.isNon, call1_ok ec, qe]
      rfl
    | some F =>
      obtain ⟨r5, B5, a0, a1, hB5, e5⟩ := next_spec hB3 [] (m := 4) (by decide)
      obtain ⟨k, rfl⟩ : ∃ k : Nat, r5 = (k : Int) := ⟨r5.toNat, by omega⟩
      obtain ⟨t, ht, R, tc⟩ := taken_count hG hne hr k
      have gF : F.getD (F.length - 1) ([], []) = t := by rw [List.getD_eq_getElem?_getD, ht]; rfl
      have eL : lrdD (some F) = lbT t := by show lbT (F.getD (F.length - 1) ([], [])) = _; rw [gF]
      rw [eL]
      have nn : (lbT t).isNon = false := rfl
      have rk : rOk (k : Int) = true := rOk_of (by omega) (by omega)
      simp [nn, call1_ok e5, rk]
      refine Sk.seq_loop (fun i ρ' μ' => ∃ x7 x10 x11 x12 rest, ρ' = [some (.scr (ns.map D.int)), some (.cell 0), some (.tup ls), some (.int q), some (lbT t), some (.int (k : Nat)), some (.lst ((wordsQ q i).map wD)), x7, none, none, x10, x11, x12] ∧ μ' = some B5 :: rest ∧ i ≤ k) ⟨none, none, none, none, [], rfl, rfl, Nat.zero_le _⟩ ?_ ?_
      · rintro i y ρ' μ' hi ⟨x7, x10, x11, x12, rest, rfl, rfl, hik⟩
        obtain ⟨hil, rfl⟩ := rng_get hi
        rw [turn1_name]
        refine Go.of ?_
        generalize hm0 : some B5 :: rest = μ0
        have wsm := words_small q i hq3 (by omega)
        have rq : rOk (q : Int) = true := rOk_of (by omega) (by omega)
        simp [-List.map_map]
        refine Sk.seq_loop (fun a ρ' μ' => ∃ x11 x12, ρ' = [some (.scr (ns.map D.int)), some (.cell 0), some (.tup ls), some (.int q), some (lbT t), some (.int (k : Nat)), some (.lst ((wordsQ q i).map wD)), some (.int (i : Nat)), none, none, some (.cell μ0.length), x11, x12] ∧ μ' = μ0 ++ [some (.lst ((((wordsQ q i).take a).flatMap fun w => extW w q).map wD))]) ⟨x11, x12, rfl, rfl⟩ ?_ ?_
        · rintro a d ρ' μ' hd ⟨x11, x12, rfl, rfl⟩
          rw [List.getElem?_map] at hd
          cases hx : (wordsQ q i)[a]? with
          | none => rw [hx] at hd; exact absurd hd (by simp)
          | some w =>
            rw [hx] at hd
            obtain rfl : wD w = d := by simpa using hd
            rw [turn1_name]
            refine Go.of ?_
            obtain ⟨wl, _⟩ := words_rg q i w (List.mem_of_getElem? hx)
            generalize hX : ((wordsQ q i).take a).flatMap (fun w => extW w q) = X
            have hXl : X.length ≤ 81 := by
              rw [← hX, flat_len, List.length_take]
              have : min a (wordsQ q i).length ≤ 27 := by omega
              calc min a (wordsQ q i).length * q ≤ 27 * 3 := Nat.mul_le_mul this hq3
                _ = 81 := rfl
            simp [-List.map_map, rq]
            refine Sk.loop (fun b ρ' μ' => ∃ x12, ρ' = [some (.scr (ns.map D.int)), some (.cell 0), some (.tup ls), some (.int q), some (lbT t), some (.int (k : Nat)), some (.lst ((wordsQ q i).map wD)), some (.int (i : Nat)), none, none, some (.cell μ0.length), some (wD w), x12] ∧ μ' = μ0 ++ [some (.lst ((X ++ extW w b).map wD))]) ⟨x12, rfl, by simp [extW]⟩ ?_ ?_
            · rintro b y ρ' μ' hb ⟨x12, rfl, rfl⟩
              obtain ⟨hbl, rfl⟩ := rng_get hb
              rw [turn1_name]
              refine Go.of ?_
              have pw := plus_w (w := w) (by omega) (b : Int)
              have hYl : (X ++ extW w b).length ≤ 1000 := by rw [List.length_append, extW, List.length_map, List.length_range]; omega
              have es : extW w (b + 1) = extW w b ++ [w ++ [(b : Int)]] := by simp [extW, List.range_succ]
              rw [es, ← List.append_assoc]
              generalize X ++ extW w b = Y at hYl
              simp [-List.map_map]
              rw [mt1_ok (xs := Y.map wD) (ys := Y.map wD) (as := [wD (w ++ [(b : Int)])]) (get_last ..) (by simp [pw]) (get_last ..), oAppend_ok (by rw [List.length_map]; omega) (by simp [pure_wD]), set_last]
              simp
            · rintro ρ' μ' ⟨x12, rfl, rfl⟩
              rw [rngD_length]
              have ts : ((wordsQ q i).take (a + 1)).flatMap (fun w => extW w q) = X ++ extW w q := by
                rw [List.take_add_one, hx, List.flatMap_append, hX]
                simp
              rw [ts]
              exact ⟨⟨_, _, rfl⟩, rfl⟩
        · rintro ρ' μ' ⟨x11, x12, rfl, rfl⟩
          rw [List.length_map, List.take_length]
          have ws : (wordsQ q i).flatMap (fun w => extW w q) = wordsQ q (i + 1) := rfl
          rw [ws]
          simp [-List.map_map]
          rw [frz1_cell (xs := (wordsQ q (i + 1)).map wD) (get_last ..) (pures_wD _), set_last]
          simp
          exact ⟨⟨rest ++ [none], by rw [← hm0]; rfl⟩, by omega⟩
      · rintro ρ' μ' ⟨x7, x10, x11, x12, rest, rfl, rfl, _⟩
        rw [rngD_length]
        have wsm := words_small q k hq3 (by omega)
        have hW : ∀ w ∈ wordsQ q k, w.length ≤ 100 := fun w hw => by have := (words_rg q k w hw).1; omega
        have fl : ((wordsQ q k).filter fun w => tkn w ls).length ≤ 27 := Nat.le_trans (List.length_filter_le _ _) wsm
        simp [-List.map_map]
        rw [comps_taken hG hne (by omega) hW (fun d => rfl) (fun d => rfl), newL_ok (by rw [List.length_map]; omega)]
        have c1 := law_count_spec hq3 hG hne (by omega) (k := k) (by omega) (some B5 :: rest)
        rw [hr] at c1
        have c1 : m__law_count [.tup ls, .int q, .int (k : Nat)] (some B5 :: rest) = some (.ok (.lst [.str "told", .int ((cn t k).getD 0 0)]) (some B5 :: rest)) := by
          rw [c1]
          show some (Rs.ok (D.lst [.str "told", .int ((cn (F.getD (F.length - 1) ([], [])) k).getD 0 0)]) _) = _
          rw [gF]
        have d1 := law_due_spec R hq3 (k := k) (by omega) (some B5 :: rest)
        have nS : ∀ i : Int, (D.lst [.str "told", .int i]).nice 60 = true := fun i => by
          have h1 : PyData.strOk (Str.ofString "told") = true := by decide +kernel
          simp [D.nice, nices, h1]
        have n1 := oNe_self (nS ((cn t k).getD 0 0)) (some B5 :: rest)
        obtain ⟨r6, B6, b0, b1, hB6, e6⟩ := next_spec hB5 rest (m := 31) (by decide)
        obtain ⟨m, rfl⟩ : ∃ m : Nat, r6 = (m : Int) := ⟨r6.toNat, by omega⟩
        have c2 := law_count_spec hq3 hG hne (by omega) (k := m) (by omega) (some B6 :: rest)
        rw [hr] at c2
        have c2 : m__law_count [.tup ls, .int q, .int (m : Nat)] (some B6 :: rest) = some (.ok (.lst [.str "told", .int ((cn t m).getD 0 0)]) (some B6 :: rest)) := by
          rw [c2]
          show some (Rs.ok (D.lst [.str "told", .int ((cn (F.getD (F.length - 1) ([], [])) m).getD 0 0)]) _) = _
          rw [gF]
        have d2 := law_due_spec R hq3 (k := m) (by omega) (some B6 :: rest)
        have n2 := oNe_self (nS ((cn t m).getD 0 0)) (some B6 :: rest)
        rw [← tc] at c1 d1 n1
        generalize (cn t m).getD 0 0 = Y at *
        simp [call1_ok c1, call1_ok d1, n1, call1_ok e6, call1_ok c2, call1_ok d2, n2, ix_1]
        rfl
  obtain ⟨d, μ, e, rfl⟩ := key
  exact ⟨μ, e⟩

end Law
open PySem PySem.W PyProof.Rows
set_option maxRecDepth 100000 in
set_option maxHeartbeats 0 in
theorem PySem.Challenge.cw_partfilter_k51_numbers_of_words_holds : PySem.Challenge.rw_partfilter_k51_numbers_of_words.Holds := by
  w_on; o_law; k_head; (case hw => w_witness2)
  k_fill
  refine G4.walk_tabs (l := PySem.Challenge.rw_partfilter_k51_numbers_of_words) (k := 7) (x := "_law_script") rfl rfl ⟨rfl, by decide, by decide⟩ (fun w h Y => PySem.W.kIn_of Y) (["joined", "count_taken"] : List Str) (by decide +kernel) ?F
  case F =>
    intro w mg fa h KX G hmg tabs
    refine' Law.all_mk Law.math KX G hmg tabs ?a0 ?l0 ?c0 ?k0 ?a1 ?l1 ?c1 ?k1 ?a2 ?l2 ?c2 ?k2 ?a3 ?l3 ?c3 ?k3 ?a4 ?l4 ?c4 ?k4 ?a5 ?l5 ?c5 ?k5 ?a6 ?l6 ?c6 ?k6 ?a7 ?l7 ?c7 ?k7 ?a8 ?l8 ?c8 ?k8 ?a9 ?l9 ?c9 ?k9 ?a10 ?l10 ?c10 ?k10 ?a11 ?l11 ?c11 ?k11 ?a12 ?l12 ?c12 ?k12 ?a13 ?l13 ?c13 ?k13 ?q13 ?p13 ?r13 ?a14 ?l14 ?c14 ?k14 ?a15 ?l15 ?c15 ?k15 ?a16 ?l16 ?c16 ?k16 ?a17 ?l17 ?c17 ?k17 ?q17 ?p17 ?r17 ?a18 ?l18 ?c18 ?k18 ?a19 ?l19 ?c19 ?k19 ?a20 ?l20 ?c20 ?k20 ?a21 ?l21 ?c21 ?k21 ?a22 ?l22 ?c22 ?k22 ?xa_TooManyStates ?xx_TooManyStates ?xk_TooManyStates ?xe1_TooManyStates ?xe2_TooManyStates ?xe5_TooManyStates ?xe8_TooManyStates ?xb_TooManyStates ?xt_TooManyStates ?xe4_TooManyStates ?xe6 ?xe7 ?xs_TooManyStates_TooManyStates ?z_any ?z_bool ?z_enumerate ?z_int ?z_isinstance ?z_len ?z_list ?z_range ?z_sorted ?z_sum ?z_tuple ?y_MOST_LINES ?y_MOST_STATES
    (case xa_TooManyStates => k_is)
    (case a0 => k_is)
    (case l0 => k_is)
    (case c0 => k_is)
    (case k0 => k_is)
    (case a1 => k_is)
    (case l1 => k_is)
    (case c1 => k_is)
    (case k1 => k_is)
    (case a2 => k_is)
    (case l2 => k_is)
    (case c2 => k_is)
    (case k2 => k_is)
    (case a3 => k_is)
    (case l3 => k_is)
    (case c3 => k_is)
    (case k3 => k_is)
    (case a4 => k_is)
    (case l4 => k_is)
    (case c4 => k_is)
    (case k4 => k_is)
    (case a5 => k_is)
    (case l5 => k_is)
    (case c5 => k_is)
    (case k5 => k_is)
    (case a6 => k_is)
    (case l6 => k_is)
    (case c6 => k_is)
    (case k6 => k_is)
    (case a7 => k_is)
    (case l7 => k_is)
    (case c7 => k_is)
    (case k7 => k_is)
    (case a8 => k_is)
    (case l8 => k_is)
    (case c8 => k_is)
    (case k8 => k_is)
    (case a9 => k_is)
    (case l9 => k_is)
    (case c9 => k_is)
    (case k9 => k_is)
    (case a10 => k_is)
    (case l10 => k_is)
    (case c10 => k_is)
    (case k10 => k_is)
    (case a11 => k_is)
    (case l11 => k_is)
    (case c11 => k_is)
    (case k11 => k_is)
    (case a12 => k_is)
    (case l12 => k_is)
    (case c12 => k_is)
    (case k12 => k_is)
    (case a13 => k_is)
    (case l13 => k_is)
    (case c13 => k_is)
    (case k13 => k_is)
    (case q13 => k_is)
    (case p13 => rfl)
    (case r13 => rfl)
    (case a14 => k_is)
    (case l14 => k_is)
    (case c14 => k_is)
    (case k14 => k_is)
    (case a15 => k_is)
    (case l15 => k_is)
    (case c15 => k_is)
    (case k15 => k_is)
    (case a16 => k_is)
    (case l16 => k_is)
    (case c16 => k_is)
    (case k16 => k_is)
    (case a17 => k_is)
    (case l17 => k_is)
    (case c17 => k_is)
    (case k17 => k_is)
    (case q17 => k_is)
    (case p17 => rfl)
    (case r17 => rfl)
    (case a18 => k_is)
    (case l18 => k_is)
    (case c18 => k_is)
    (case k18 => k_is)
    (case a19 => k_is)
    (case l19 => k_is)
    (case c19 => k_is)
    (case k19 => k_is)
    (case a20 => k_is)
    (case l20 => k_is)
    (case c20 => k_is)
    (case k20 => k_is)
    (case a21 => k_is)
    (case l21 => k_is)
    (case c21 => k_is)
    (case k21 => k_is)
    (case a22 => k_is)
    (case l22 => k_is)
    (case c22 => k_is)
    (case k22 => k_is)
    (case xx_TooManyStates => k_exc)
    (case xk_TooManyStates => k_is)
    (case xe1_TooManyStates => k_is)
    (case xe2_TooManyStates => k_is)
    (case xe5_TooManyStates => k_is)
    (case xe8_TooManyStates => k_is)
    (case xb_TooManyStates => k_is)
    (case xt_TooManyStates => k_is)
    (case xe4_TooManyStates => k_is)
    (case xe6 => k_is)
    (case xe7 => k_is)
    (case xs_TooManyStates_TooManyStates => k_is)
    (case z_any => k_is)
    (case z_bool => k_is)
    (case z_enumerate => k_is)
    (case z_int => k_is)
    (case z_isinstance => k_is)
    (case z_len => k_is)
    (case z_list => k_is)
    (case z_range => k_is)
    (case z_sorted => k_is)
    (case z_sum => k_is)
    (case z_tuple => k_is)
    (case y_MOST_LINES => k_is)
    (case y_MOST_STATES => k_is)
