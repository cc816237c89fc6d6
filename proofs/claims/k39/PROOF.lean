import PyProof.Rows.All
import Wide.All
import OpenK.AllK
import Wide.FinOn
import HandS.ForMost
import HandS.Deep
import HandS.ForExc
import HandS.IsInst
import HandS.CallSlots
import KE.KNest
import HandS.Strs
import KE.KDictDisplayH
import KE.KDictCopyH
import HandS.TupSets
import HandS.SetKeys
import KE.KeyNested
import KE.GoesEnum
import HandS.TupAny
import HandS.SetBool
import HandS.SetFor
import PyProof.GenQ
import PyProof.GenRules
import HandS.GenOver
import HandS.GenYield
import HandS.AnyAll
import HandS.EndTab
import HandS.Conv
import PyProof.WalksMore
import PyProof.WalkInts
import PyProof.SeqI3
import PyProof.MinMaxWalk
import HandS.ExcIs
import HandS.TryMany
import HandS.More
import HandS.SortInts
import KE.DataCmp
import PyProof.FactsAll.bool_1
import HandS.FStr
import PySem.Challenge.RW_partfilter_k39_whole_beginnings_and_ends
set_option Elab.async false
set_option linter.all false
set_option maxRecDepth 100000
set_option maxHeartbeats 4000000
/-! G0: dicts whose keys are tuples, nested; their values whole numbers (readings and rules). -/
namespace G4
open PySem PySem.Spec PyProof.Rows L2
mutual
/-- the value is the key -/
def KeyH (H : Hp) : NestedKey → V → Prop
  | .none, v => v = .non
  | .num i, v => v = .int i
  | .text x, v => v = .str x
  | .tup ks, v => ∃ b vs, v = .ref b ∧ H b = some (.tup vs) ∧ KeysH H ks vs
def KeysH (H : Hp) : List NestedKey → List V → Prop
  | [], vs => vs = []
  | k :: ks, vs => ∃ v r, vs = v :: r ∧ KeyH H k v ∧ KeysH H ks r
end
mutual
theorem keyH_is {P : Program} {w : World} {H : Hp} {h : Heap} (ok : HOk P w H h) : ∀ {k : NestedKey} {v : V} {u : Value}, KeyH H k v → RelV v u → NestedIs h k u
  | .none, _, u, e, r => by
    have e : _ = V.non := e
    subst e
    have r : u = .none := r
    subst r
    exact .none
  | .num i, _, u, e, r => by
    have e : _ = V.int i := e
    subst e
    obtain ⟨t, rfl⟩ := r
    exact .int i t
  | .text x, _, u, e, r => by
    have e : _ = V.str x := e
    subst e
    obtain ⟨t, rfl⟩ := r
    exact .text x t
  | .tup ks, _, u, ⟨b, vs, e, hb, hk⟩, r => by
    subst e
    have r : u = .ref b := r
    subst r
    obtain ⟨_, its, rv, o, h1, h2, n, h3⟩ := (show ObjOk P w H h b (.tup vs) from ok b _ hb)
    exact .tup h1 h2 h3 (by simpa using keysH_is ok hk rv)
theorem keysH_is {P : Program} {w : World} {H : Hp} {h : Heap} (ok : HOk P w H h) : ∀ {ks : List NestedKey} {vs : List V} {us : List Value}, KeysH H ks vs → Vals vs us → NestedAll h ks us
  | [], vs, us, e, r => by
    have e : vs = [] := e
    subst e
    cases r
    exact .nil
  | k :: ks, vs, us, ⟨v, rr, e, h1, h2⟩, r => by
    subst e
    cases r with
    | cons a b => exact .cons (keyH_is ok h1 a) (keysH_is ok h2 b)
end
/-- the entries of the dict, as they lie -/
abbrev Ent := NestedKey × Addr × Int
def EntsR (xs : List Ent) (ys : List (NestedKey × Addr × Value)) : Prop := Paired (fun (x : Ent) (y : NestedKey × Addr × Value) => x.1 = y.1 ∧ x.2.1 = y.2.1 ∧ RelV (.int x.2.2) y.2.2) xs ys
/-- the dict at a -/
def DNx (w : World) (a : Addr) (xs : List Ent) : HO := .ext fun h => (a == sysModules) = false ∧ ∃ ys, EntsR xs ys ∧ ∃ o es ep, h.get? a = some o ∧ o.ExactDict ∧ o.data = .dict es ep ∧ es.toList = ys.map (fun y => (⟨y.1.hash w, .ref y.2.1, y.2.2⟩ : DictEntry)) ∧ (ys.map (·.1)).Nodup
def KeyO (H : Hp) (k : NestedKey) (b : Addr) : Prop := KeyH H k (.ref b) ∧ k.depth ≤ 8
/-- it is a dict, its keys are there -/
structure DNg (w : World) (H : Hp) (a : Addr) (xs : List Ent) : Prop where
  at_ : H a = some (DNx w a xs)
  len : xs.length ≤ 1000000
  keys : ∀ x ∈ xs, KeyO H x.1 x.2.1
def lookN (xs : List Ent) (k : NestedKey) : Option Int := (xs.find? fun x => decide (x.1 = k)).map (·.2.2)
section
variable {X : Cx} {pins : List (Addr × Obj)} {σ : L2.St} {H : Hp} {s : Shared} {a : Addr} {xs : List Ent}
theorem dn_of (I : Inv X pins σ H s) (g : DNg X.w H a xs) : (a == sysModules) = false ∧ ∃ ys, EntsR xs ys ∧ s.heap.DictOfH (nestedKind X.prog X.w) a ys := by
  obtain ⟨⟨hd, ys, r, o, es, ep, h1, h2, h3, h4, h5⟩, _⟩ := (show ObjOk X.prog X.w H s.heap a (DNx X.w a xs) from I.hok a _ g.at_)
  refine ⟨hd, ys, r, o, es, ep, h1, h2, h3, h4, fun y hy => ?_, h5⟩
  have all : ∀ {l : List Ent} {m : List (NestedKey × Addr × Value)}, EntsR l m → (∀ x ∈ l, KeyO H x.1 x.2.1) → ∀ y ∈ m, (nestedKind X.prog X.w).is s.heap y.1 y.2.1 := by
    intro l m q
    induction q with
    | nil => intro _ y hy; exact nomatch hy
    | @cons p q ps qs hq t ih =>
      intro hk y hy
      rcases List.mem_cons.mp hy with e | hy
      · subst e
        obtain ⟨k1, k2⟩ := hk p (List.mem_cons_self ..)
        rw [hq.1, hq.2.1] at k1
        rw [hq.1] at k2
        exact ⟨keyH_is I.hok k1 rfl, k2⟩
      · exact ih (fun x hx => hk x (List.mem_cons_of_mem _ hx)) y hy
  exact all r g.keys y hy
theorem dn_is (I : Inv X pins σ H s) {k : NestedKey} {b : Addr} (h : KeyO H k b) : (nestedKind X.prog X.w).is s.heap k b := ⟨keyH_is I.hok h.1 rfl, h.2⟩
theorem ents_look {xs : List Ent} {ys : List (NestedKey × Addr × Value)} (r : EntsR xs ys) (k : NestedKey) : (lookN xs k = none ↔ atKey ys k = none) ∧ ∀ i, lookN xs k = some i → ∃ p, atKey ys k = some p ∧ RelV (.int i) p.2 := by
  unfold lookN atKey
  induction r with
  | nil => exact ⟨⟨fun _ => rfl, fun _ => rfl⟩, fun i h => nomatch h⟩
  | @cons p q ps qs hq t ih =>
    by_cases h : p.1 = k
    · have h' : q.1 = k := hq.1 ▸ h
      rw [List.find?_cons_of_pos (by simpa using h), List.find?_cons_of_pos (by simpa using h')]
      refine ⟨⟨fun z => (nomatch z), fun z => (nomatch z)⟩, fun i hi => ?_⟩
      cases hi
      exact ⟨_, rfl, hq.2.2⟩
    · have h' : ¬ q.1 = k := hq.1 ▸ h
      rw [List.find?_cons_of_neg (by simpa using h), List.find?_cons_of_neg (by simpa using h')]
      exact ih
theorem ents_snoc {xs : List Ent} {ys : List (NestedKey × Addr × Value)} (r : EntsR xs ys) {k : NestedKey} {b : Addr} {i : Int} {v : Value} (hv : RelV (.int i) v) : EntsR (xs ++ [(k, b, i)]) (ys ++ [(k, b, v)]) := by
  induction r with
  | nil => exact .cons ⟨rfl, rfl, hv⟩ .nil
  | cons hq t ih => exact .cons hq ih
theorem ents_len {xs : List Ent} {ys : List (NestedKey × Addr × Value)} (r : EntsR xs ys) : xs.length = ys.length := by
  induction r with
  | nil => rfl
  | cons hq t ih => simp [ih]
theorem dn_new {P : Program} {w : World} {H : Hp} {h : Heap} {xs : List Ent} {ys : List (NestedKey × Addr × Value)} (hd : (a == sysModules) = false) (r : EntsR xs ys) (dd : h.DictOfH (nestedKind P w) a ys) : ObjOk P w H h a (DNx w a xs) := by
  obtain ⟨o, es, ep, h1, h2, h3, h4, _, h5⟩ := dd
  refine ⟨⟨hd, ys, r, o, es, ep, h1, h2, h3, h4, h5⟩, ⟨o, h1⟩, ?_⟩
  rintro g1 g2 ⟨hd, ys, r, o, es, ep, h1, h2, h3, h4, h5⟩ k
  exact ⟨hd, ys, r, o, es, ep, k o h1, h2, h3, h4, h5⟩
/-- a new key -/
theorem dn_store (I : Inv X pins σ H s) (g : DNg X.w H a xs) {k : NestedKey} {b : Addr} {i : Int} {v : Value} {t' : Nat} {h' : Heap} {ys : List (NestedKey × Addr × Value)} (r : EntsR xs ys) (hd : (a == sysModules) = false) (hv : RelV (.int i) v)
    (hn : atKey ys k = none) (dd : h'.DictOfH (nestedKind X.prog X.w) a (storedH ys k b v)) (hs : Heap.SameBut a s.heap h') : Inv X pins σ (upd H a (DNx X.w a (xs ++ [(k, b, i)]))) { s with heap := h', toks := t' } := by
  rw [storedH_new hn] at dd
  have he : ∃ q, h'.get? a = some q := let ⟨q, _, _, hq, _⟩ := dd; ⟨q, hq⟩
  exact d_write I (by rw [g.at_]; exact True.intro) hs he (dn_new hd (ents_snoc r hv) dd)
/-! ### readings and rules -/
/-- k in d -/
def rDNIn (w : World) (neg : Bool) : R2 := fun x y H Q => ∃ (a b : Addr) (xs : List Ent) (k : NestedKey), x = .ref b ∧ y = .ref a ∧ DNg w H a xs ∧ KeyO H k b ∧ Q (.bl (neg ^^ (lookN xs k).isSome)) H
theorem room_n (hu : X.A.units + 65 < cLine) : (nestedKind X.prog X.w).room X.A.in1 := by
  show X.A.in1.units + 8 < cLine
  rw [Around.in1_units]
  omega
theorem look_isSome {xs : List Ent} {ys : List (NestedKey × Addr × Value)} (r : EntsR xs ys) (k : NestedKey) : (atKey ys k).isSome = (lookN xs k).isSome := by
  obtain ⟨h1, h2⟩ := ents_look r k
  cases h : lookN xs k with
  | none => rw [h1.mp h]; rfl
  | some i => obtain ⟨p, hp, _⟩ := h2 i h; rw [hp]; rfl
theorem op_dnIn (hu : X.A.units + 65 < cLine) : OpR X (compareOp .In) (rDNIn X.w false) := by
  intro pins s σ H x y v u Q I rx ry h
  obtain ⟨a, b, xs, k, rfl, rfl, g, hk, q⟩ := h
  cases rx
  cases ry
  obtain ⟨hd, ys, r, dd⟩ := dn_of I g
  refine wpAny_in_heap (room_n hu) (dn_is I hk) hd dd ⟨.bl (atKey ys k).isSome, H, I.tok _, rfl, ?_⟩
  rw [look_isSome r k]
  simpa using q
theorem op_dnNotIn (hu : X.A.units + 65 < cLine) : OpR X (compareOp .NotIn) (rDNIn X.w true) := by
  intro pins s σ H x y v u Q I rx ry h
  obtain ⟨a, b, xs, k, rfl, rfl, g, hk, q⟩ := h
  cases rx
  cases ry
  obtain ⟨hd, ys, r, dd⟩ := dn_of I g
  refine wpAny_notIn_heap (room_n hu) (dn_is I hk) hd dd ⟨.bl (!(atKey ys k).isSome), H, I.tok _, rfl, ?_⟩
  rw [look_isSome r k]
  simpa using q
/-- d[k], there -/
def tDNGet (w : World) (td ty : TE) : TE := fun σ H Q => td σ H fun x H1 => ty σ H1 fun y H2 => ∃ (a b : Addr) (xs : List Ent) (k : NestedKey) (i : Int), x = .ref a ∧ y = .ref b ∧ DNg w H2 a xs ∧ KeyO H2 k b ∧ lookN xs k = some i ∧ Q (.int i) H2
theorem pe_dnGet {o i : Expr} {td ty : TE} {pos : Pos} (hu : X.A.units + 65 < cLine) (ho : PE X o td) (hi : PE X i ty) (hs : NoSl i) : PE X (.Subscript o i pos) (tDNGet X.w td ty) := by
  refine ⟨fun pins s σ H Q I h => ?_⟩
  refine subD_of PySem.F.slot_dict_getitem.lookup hs (thn (ho.run pins s σ H _ I h) fun u s1 ⟨x, H1, I1, rx, q1⟩ => thn (hi.run pins s1 σ H1 _ I1 q1) fun iv s2 ⟨y, H2, I2, ry, a, b, xs, k, i, ex, ey, g, hk, hl, q2⟩ => ?_)
  subst ex ey
  obtain rfl : u = Value.ref a := rx
  obtain rfl : iv = Value.ref b := ry
  obtain ⟨hd, ys, r, dd⟩ := dn_of I2 g
  obtain ⟨p, hp, rv⟩ := (ents_look r k).2 i hl
  refine ⟨dd.typeIs, wpAny_getItem_heap (room_n hu) (dn_is I2 hk) dd hp ?_⟩
  exact ⟨.int i, H2, I2.tok _, rv, q2⟩
/-- d[k] = i, a new key -/
def rDNSet (w : World) : TSet := fun o y v H Q => ∃ (a b : Addr) (xs : List Ent) (k : NestedKey) (i : Int), o = .ref a ∧ y = .ref b ∧ v = .int i ∧ DNg w H a xs ∧ KeyO H k b ∧ lookN xs k = none ∧ Q (upd H a (DNx w a (xs ++ [(k, b, i)])))
theorem set_dn (hu : X.A.units + 65 < cLine) : PSet X (rDNSet X.w) := by
  intro pins s σ H o i v ov iv u Q I ro ri rv h
  obtain ⟨a, b, xs, k, n, rfl, rfl, rfl, g, hk, hl, q⟩ := h
  cases ro
  cases ri
  obtain ⟨hd, ys, r, dd⟩ := dn_of I g
  have hn := (ents_look r k).1.mp hl
  refine wpAny_setItem_heap (hsz := by rw [← ents_len r, sizeLine_eq]; have := g.len; omega) (room_n hu) (dn_is I hk) dd fun h' dd' hs => ?_
  exact ⟨_, dn_store I g r hd rv hn dd' hs, q⟩
/-- {} of this kind -/
def tDNNew (w : World) : TE := fun _ H Q => ∀ p, H p = none → Q (.ref p) (upd H p (DNx w p []))
theorem pe_dnNew {pos : Pos} : PE X (.Dict [] [] pos) (tDNNew X.w) := ⟨fun pins s σ H Q I h =>
  wpAny_Dict_empty ⟨.ref s.heap.objs.size, _, I.laid (a := s.heap.objs.size) (o := DNx X.w s.heap.objs.size []) (t' := s.toks) (fun _ _ q => Heap.get?_push_of_some _ q) (Nat.le_refl _)
    (dn_new (beq_eq_false_iff_ne.mpr (Ne.symm (Nat.ne_of_lt I.big))) .nil (Heap.DictOfH.new s.heap)), rfl, h _ (I.hok.fresh (Nat.le_refl _))⟩⟩
/-- as wpAny_Dict_pairsH, the entries told -/
theorem wpAny_Dict_pairsX {prog : Program} {w : World} {A : Around} {E : Value → Shared → Prop} {s : Shared} {env : PySem.Env} {keys : List (Option Expr)} {values : List Expr} {pos : Pos} {pairs : List (Sem Value × Sem Value)} {Q : Value → Shared → Prop} (hu : (nestedKind prog w).room A)
    (hshape : (evalEachOpt keys env).zip ((evalEach values env).map fun v => do let x ← v; standAt pos; pure x) = pairs.map fun p => (some p.1, p.2)) (h0 : pairs ≠ []) (hlen : pairs.length ≤ 15)
    (h : wpAny (model prog w) A (evalPairs pairs) (fun vs s₁ => ∃ ps, CarriesH (nestedKind prog w) s₁.heap vs ps ∧ s₁.heap.DictOfH (nestedKind prog w) s.heap.objs.size [] ∧
      ∀ h' tk, h'.DictOfH (nestedKind prog w) s.heap.objs.size (storedAllH [] ps) → Heap.SameBut s.heap.objs.size s₁.heap h' → Q (.ref s.heap.objs.size) { s₁ with heap := h', toks := tk }) E
      { s with heap := s.heap.push { cls := .type "dict", data := .dict #[] } }) :
    wpAny (model prog w) A (eval (.Dict keys values pos) env) Q E s := by
  rw [arm_eval_Dict, hshape, dictDisplay_pairs pairs h0 (by omega)]
  exact wpAny_bind (wpAny_standAt (wpAny_bind (wpAny_subDictH (knd := nestedKind prog w) (Q := fun d s' => wpAny (model prog w) A (pure (Value.ref d)) Q E s') hu hlen
    (wpAny_mono h (fun vs s₁ h₁ => by obtain ⟨ps, hc, hm, hq⟩ := h₁; exact ⟨ps, hc, hm, fun h' tk a b => wpAny_pure (hq h' tk a b)⟩) fun _ _ e => e))))
/-- {k: i} -/
def tDN1 (w : World) (tk tv : TE) : TE := fun σ H Q => ∀ p, H p = none → tk σ (upd H p (DNx w p [])) fun x H1 => tv σ H1 fun y H2 => ∃ (b : Addr) (k : NestedKey) (i : Int), x = .ref b ∧ y = .int i ∧ H2 p = some (DNx w p []) ∧ KeyO H2 k b ∧ Q (.ref p) (upd H2 p (DNx w p [(k, b, i)]))
theorem pe_dn1 {ek ev : Expr} {tk tv : TE} {pos : Pos} (hu : X.A.units + 65 < cLine) (hk : PE X ek tk) (hv : PE X ev tv) : PE X (.Dict [some ek] [ev] pos) (tDN1 X.w tk tv) := by
  refine ⟨fun pins s σ H Q I h => ?_⟩
  have hd0 : (s.heap.objs.size == sysModules) = false := beq_eq_false_iff_ne.mpr (Ne.symm (Nat.ne_of_lt I.big))
  have I1 := I.laid (a := s.heap.objs.size) (o := DNx X.w s.heap.objs.size []) (h' := s.heap.push { cls := .type "dict", data := .dict #[] }) (t' := s.toks) (fun _ _ q => Heap.get?_push_of_some _ q) (Nat.le_refl _)
    (dn_new hd0 .nil (Heap.DictOfH.new s.heap))
  refine wpAny_Dict_pairsX (show X.A.units + 8 < cLine by omega) (pairs := pairTrees [some ek] [ev] X.env pos) (zip_pairTrees [some ek] [ev] X.env pos rfl rfl) (fun z => nomatch z) (by show 1 ≤ 15; decide) ?_
  refine pairTrees_cons_walk (thn (hk.run pins _ σ _ _ I1 (h _ (I.hok.fresh (Nat.le_refl _)))) fun u s1 ⟨x, H1, I1, rx, q1⟩ => thn (hv.run pins s1 σ H1 _ I1 q1) fun w2 s2 ⟨y, H2, I2, ry, b, k, i, ex, ey, e, ho, q2⟩ => pairTrees_nil_walk ?_)
  subst ex ey
  obtain rfl : u = Value.ref b := rx
  have g : DNg X.w H2 s.heap.objs.size [] := ⟨e, Nat.zero_le _, fun x hx => nomatch hx⟩
  obtain ⟨hd, ys, r, dd⟩ := dn_of I2 g
  cases r
  refine ⟨[(k, b, w2)], ⟨rfl, rfl, dn_is I2 ho, trivial⟩, dd, fun h' tk' dk hs => ?_⟩
  exact ⟨.ref s.heap.objs.size, _, dn_store (t' := tk') I2 g .nil hd ry rfl dk hs, rfl, q2⟩
/-- d.setdefault(k, i) -/
def tDNSd (w : World) (td ty tx : TE) : TE := fun σ H Q => td σ H fun x H1 => (∃ (a : Addr) (xs : List Ent), x = .ref a ∧ DNg w H1 a xs) ∧ ty σ H1 fun y H2 => tx σ H2 fun z H3 => ∃ (a b : Addr) (xs : List Ent) (k : NestedKey) (i : Int), x = .ref a ∧ y = .ref b ∧ z = .int i ∧ DNg w H3 a xs ∧ KeyO H3 k b ∧
  (∀ j, lookN xs k = some j → Q (.int j) H3) ∧ (lookN xs k = none → Q (.int i) (upd H3 a (DNx w a (xs ++ [(k, b, i)]))))
theorem pe_dnSd {o e f : Expr} {td ty tx : TE} {apos cpos : Pos} (hu : X.A.units + 65 < cLine) (ho : PE X o td) (he : PE X e ty) (hf : PE X f tx) (m : M2 X o "setdefault" apos e f cpos) : PE X (.Call (.Attribute o "setdefault" apos) [e, f] [] cpos) (tDNSd X.w td ty tx) := by
  refine ⟨fun pins s σ H Q I h => ?_⟩
  refine wpAny_Call_method m.base m.few m.line PySem.F.plainAttrs_dict PySem.F.slot_dict_setdefault PySem.F.type_dict_setdefault (thn (ho.run pins s σ H _ I h) fun u s1 ⟨x, H1, I1, rx, ⟨a, xs, ex, g⟩, q1⟩ => ?_)
  subst ex
  obtain rfl : u = Value.ref a := rx
  obtain ⟨hd, ys, r, dd⟩ := dn_of I1 g
  refine ⟨dd.typeIs, fun b q => ?_, ?_⟩
  · cases q
    obtain ⟨ob, _, _, h1, h2, _⟩ := dd
    exact ⟨ob, h1, h2.2.1⟩
  rw [m.trees]
  refine Calls.callWith_builtin rfl (Calls.evalArgs_plain (Calls.spliced_cons (thn (he.run pins s1 σ H1 _ I1 q1) fun iv s2 ⟨y, H2, I2, ry, q2⟩ =>
    Calls.spliced_cons (thn (hf.run pins s2 σ H2 _ I2 q2) fun fv s3 ⟨z, H3, I3, rz, a', b, xs, k, i, ea, ey, ez, g3, hk, k1, k2⟩ => Calls.spliced_nil ?_))))
  cases ea
  subst ey ez
  obtain rfl : iv = Value.ref b := ry
  obtain ⟨hd, ys, r, dd⟩ := dn_of I3 g3
  refine call_setdefault_heap (hsz := by rw [← ents_len r, sizeLine_eq]; have := g3.len; omega) (room_n hu) (dn_is I3 hk) hd dd (fun p hp => ?_) fun hn h' dd' hs => ?_
  · cases hl : lookN xs k with
    | none => rw [(ents_look r k).1.mp hl] at hp; cases hp
    | some j =>
      obtain ⟨p', hp', rv⟩ := (ents_look r k).2 j hl
      rw [hp] at hp'
      cases hp'
      exact ⟨.int j, H3, I3.tok _, rv, k1 j hl⟩
  · exact ⟨.int i, _, dn_store I3 g3 r hd rz hn dd' hs, rz, k2 ((ents_look r k).1.mpr hn)⟩
/-- len(d) -/
def rLenDN (w : World) : List V → Hp → VK → Prop := fun vs H Q => ∃ (a : Addr) (xs : List Ent), vs = [.ref a] ∧ DNg w H a xs ∧ Q (.int xs.length) H
theorem call_lenDN : CallR X (.builtin "len") (rLenDN X.w) := by
  intro pins s σ H vs us Q I r h
  obtain ⟨a, xs, rfl, g, q⟩ := h
  rw [Vals.ref1 r]
  obtain ⟨hd, ys, r, dd⟩ := dn_of I g
  have hl := ents_len r
  have hx := g.len
  have hraw : ∃ es ep, s.heap.DictRaw a es ep ∧ es.size = xs.length := by
    obtain ⟨o, es, ep, h1, h2, h3, h4, _⟩ := dd
    refine ⟨es, ep, ⟨o, h1, h2, h3⟩, ?_⟩
    rw [← Array.length_toList, h4, List.length_map, hl]
  obtain ⟨es, ep, hr, he⟩ := hraw
  refine call_len_slot (n := (xs.length : Nat)) hr.typeIs F.slot_dict_len (fun Q' hq => call_len_raw hd hr (by rw [he]; exact hq)) (by omega) (by omega) ?_
  exact ⟨.int xs.length, H, (I.tok _).tok _, ⟨_, rfl⟩, q⟩
end
end G4

/-! G57: hash tables of any size: what a set's table keeps (plain). -/
namespace G4
open PySem PySem.Spec PyProof.Rows L2
/-! the jumps i -> 5 i + 1 meet every slot of a table of 2^k slots -/
def jn5 : Nat → Nat
  | 0 => 0
  | n + 1 => 5 * jn5 n + 1
theorem jn5_add (a : Nat) : ∀ b, jn5 (a + b) = jn5 a + jn5 b + 4 * jn5 a * jn5 b
  | 0 => by simp [jn5]
  | b + 1 => by
    show 5 * jn5 (a + b) + 1 = jn5 a + (5 * jn5 b + 1) + 4 * jn5 a * (5 * jn5 b + 1)
    rw [jn5_add a b]; grind
theorem jn5_two : ∀ k, ∃ q, jn5 (2 ^ k) = 2 ^ k * (2 * q + 1)
  | 0 => ⟨0, rfl⟩
  | k + 1 => by
    obtain ⟨q, e⟩ := jn5_two k
    refine ⟨q + 2 ^ k * (2 * q + 1) * (2 * q + 1), ?_⟩
    rw [Nat.pow_succ, Nat.mul_two, jn5_add, e]; grind
theorem jn5_hit : ∀ k j, j < 2 ^ k → ∃ n, n < 2 ^ k ∧ jn5 n % 2 ^ k = j
  | 0, j, h => ⟨0, by simp, by simp at h; simp [h]; omega⟩
  | k + 1, j, h => by
    have hp : 0 < 2 ^ k := Nat.pow_pos (by decide)
    have e2 : 2 ^ (k + 1) = 2 ^ k * 2 := Nat.pow_succ ..
    obtain ⟨n, hn, e⟩ := jn5_hit k (j % 2 ^ k) (Nat.mod_lt _ hp)
    have m1 := Nat.mod_mul (x := jn5 n) (a := 2 ^ k) (b := 2)
    have m2 := Nat.mod_mul (x := j) (a := 2 ^ k) (b := 2)
    have m3 : j % (2 ^ k * 2) = j := Nat.mod_eq_of_lt (by omega)
    by_cases c : jn5 n / 2 ^ k % 2 = j / 2 ^ k % 2
    · exact ⟨n, by omega, by rw [e2, m1, e, c, ← m2, m3]⟩
    · obtain ⟨q, eq⟩ := jn5_two k
      refine ⟨n + 2 ^ k, by omega, ?_⟩
      have es : jn5 (n + 2 ^ k) = jn5 n + 2 ^ k * ((2 * q + 1) * (1 + 4 * jn5 n)) := by rw [jn5_add, eq]; grind
      rw [e2, Nat.mod_mul, es, Nat.add_mul_mod_self_left, Nat.add_mul_div_left _ _ hp, e, ← m3, m2]
      have o : ((2 * q + 1) * (1 + 4 * jn5 n)) % 2 = 1 := by
        have : (2 * q + 1) * (1 + 4 * jn5 n) = 2 * (q + 4 * q * jn5 n + 2 * jn5 n) + 1 := by grind
        omega
      have : (jn5 n / 2 ^ k + (2 * q + 1) * (1 + 4 * jn5 n)) % 2 = j / 2 ^ k % 2 := by omega
      rw [this]
      congr 2
      rw [← m2, m3]
def Pw (m : Nat) : Prop := ∃ k, 3 ≤ k ∧ k ≤ 40 ∧ m + 1 = 2 ^ k
theorem lcgN_jn (m : Nat) : ∀ n, lcgN m n = jn5 n % (m + 1)
  | 0 => by simp [lcgN, jn5]
  | n + 1 => by
    show (lcgN m n * 5 + 1) % (m + 1) = (5 * jn5 n + 1) % (m + 1)
    rw [lcgN_jn m n]
    simp [Nat.add_mod, Nat.mul_mod, Nat.mul_comm]
theorem jump_all {m : Nat} (hm : Pw m) {i j : Nat} (hi : i ≤ m) (hj : j ≤ m) : ∃ k, k ≤ m ∧ lcgI m i k = j := by
  obtain ⟨k, _, _, ek⟩ := hm
  obtain ⟨a, ha, ea⟩ := jn5_hit k i (by omega)
  obtain ⟨b, hb, eb⟩ := jn5_hit k j (by omega)
  have fa : lcgN m a = i := by rw [lcgN_jn, ek, ea]
  rcases Nat.lt_or_ge b a with c | c
  · refine ⟨b + 2 ^ k - a, by omega, ?_⟩
    rw [← fa, lcgN_add, lcgN_jn, ek, show a + (b + 2 ^ k - a) = b + 2 ^ k by omega, jn5_add]
    obtain ⟨q, eq⟩ := jn5_two k
    rw [eq, show jn5 b + 2 ^ k * (2 * q + 1) + 4 * jn5 b * (2 ^ k * (2 * q + 1)) = jn5 b + 2 ^ k * ((2 * q + 1) * (1 + 4 * jn5 b)) by grind, Nat.add_mul_mod_self_left, eb]
  · refine ⟨b - a, by omega, ?_⟩
    rw [← fa, lcgN_add, lcgN_jn, ek, show a + (b - a) = b by omega, eb]
theorem runs_all {m : Nat} (hm : Pw m) (h : Int) {j : Nat} (hj : j ≤ m) : ∃ n, n ≤ m + 12 ∧ runI m (SetTable.bits h) n = j := by
  obtain ⟨k, hk, e⟩ := jump_all hm (runI_le m (SetTable.bits h) 12) hj
  exact ⟨12 + k, by omega, (runI_tail (bits_lt h) k).trans e⟩
theorem way_all {m : Nat} (hm : Pw m) (h : Int) {j : Nat} (hj : j ≤ m) : ∃ k, k < 10 * SetTable.turns m ∧ way m h k = j := by
  obtain ⟨n, hn, e⟩ := runs_all hm h hj
  obtain ⟨k, hk, e2⟩ := run_nth m (SetTable.bits h) n
  exact ⟨k, by unfold SetTable.turns; omega, (congrArg SetTable.Probe.j e2).trans e⟩
theorem way_in (m : Nat) (h : Int) (k : Nat) : way m h k ≤ m := by
  have b : SetTable.bits h % (m + 1) ≤ m := Nat.le_of_lt_succ (Nat.mod_lt _ (Nat.succ_pos m))
  have q := nth_in (m := m) k (runAt m (SetTable.bits h % (m + 1)) (SetTable.bits h)) (by have := runEnd_bd b; simp only [runAt]; omega)
  exact Nat.le_trans (Nat.le_add_right _ _) q
/-! the table of hashes hs: each is found again on its way -/
structure TabP (t : SetTable) (hs : List Int) : Prop where
  ri : Ris t.place.toList
  du : t.dummies = #[]
  ln : t.place.size = hs.length
  pw : Pw t.mask
  le : ∀ x ∈ t.place.toList, x ≤ t.mask
  on : ∀ (i : Nat) (h : Int) (j : Nat), hs[i]? = some h → t.place.toList[i]? = some j → ∃ k, way t.mask h k = j ∧ ∀ k', k' < k → way t.mask h k' ∈ t.place.toList
theorem Pw.odd {m : Nat} (h : Pw m) : m % 2 = 1 := by
  obtain ⟨k, h3, _, e⟩ := h
  obtain ⟨j, rfl⟩ : ∃ j, k = j + 1 := ⟨k - 1, by omega⟩
  rw [Nat.pow_succ] at e; omega
theorem TabP.free {t : SetTable} {hs : List Int} (T : TabP t hs) (hl : hs.length ≤ t.mask) (h : Int) :
    ∃ K, K < 10 * SetTable.turns t.mask ∧ way t.mask h K ∉ t.place.toList ∧ ∀ k, k < K → way t.mask h k ∈ t.place.toList := by
  obtain ⟨j, hj, hn⟩ := st_missing t.place.toList (t.mask + 1) (by rw [Array.length_toList, T.ln]; omega)
  obtain ⟨k, hk, e⟩ := way_all T.pw h (Nat.le_of_lt_succ hj)
  obtain ⟨K, h1, h2, h3⟩ := st_least (p := fun x => way t.mask h x ∉ t.place.toList) k (e ▸ hn)
  exact ⟨K, by omega, h2, fun x hx => Classical.byContradiction (h3 x hx)⟩
theorem TabP.seen {t : SetTable} {hs : List Int} (T : TabP t hs) {h : Int} {K i j : Nat} (hK : way t.mask h K ∉ t.place.toList) (hi : hs[i]? = some h) (hj : t.place.toList[i]? = some j) :
    ∃ k, k < K ∧ way t.mask h k = j := by
  obtain ⟨k, e, hb⟩ := T.on i h j hi hj
  refine ⟨k, ?_, e⟩
  rcases Nat.lt_trichotomy k K with c | c | c
  · exact c
  · subst c; exact absurd (List.mem_of_getElem? hj) (e ▸ hK)
  · exact absurd (hb K c) hK
theorem TabP.laid {t : SetTable} {hs : List Int} (T : TabP t hs) {h : Int} {j : Nat} (hw : ∃ K, way t.mask h K = j ∧ ∀ k, k < K → way t.mask h k ∈ t.place.toList) (hj : j ∉ t.place.toList) :
    SetTable.below t.place j ≤ hs.length ∧ TabP (t.put j).1 (hs.take (SetTable.below t.place j) ++ h :: hs.drop (SetTable.below t.place j)) ∧ (t.put j).1.fill = hs.length + 1 := by
  obtain ⟨K, eK, hb⟩ := hw
  obtain ⟨c1, _, _⟩ := below_cut T.ri j
  have l1 : SetTable.below t.place j ≤ hs.length := T.ln ▸ c1
  have l2 : SetTable.below t.place j ≤ t.place.toList.length := by rw [Array.length_toList]; exact c1
  have pl := put_place t j
  have sz : (t.put j).1.place.size = hs.length + 1 := by rw [← Array.length_toList, pl, len_ins _ l2, Array.length_toList, T.ln]
  have more : ∀ x, x ∈ t.place.toList → x ∈ (t.put j).1.place.toList := fun x hx => by rw [pl]; exact mem_ins.2 (.inr hx)
  refine ⟨l1, ⟨ris_insert T.ri fun e => hj (List.mem_of_getElem? (by rw [Array.getElem?_toList]; exact e)), put_dm T.du j, by rw [len_ins _ l1]; exact sz, T.pw, fun x hx => ?_, fun i g y h1 h2 => ?_⟩, ?_⟩
  · rw [pl] at hx
    rcases mem_ins.1 hx with z | z
    · rw [z, ← eK]; exact way_in _ _ _
    · exact T.le x z
  · rw [tins_get hs l1] at h1
    rw [pl, tins_get _ l2] at h2
    show ∃ k, way t.mask g k = y ∧ ∀ k', k' < k → way t.mask g k' ∈ (t.put j).1.place.toList
    split at h1 <;> rename_i c
    · rw [if_pos c] at h2
      obtain ⟨k, e, z⟩ := T.on i g y h1 h2
      exact ⟨k, e, fun x hx => more _ (z x hx)⟩
    · rw [if_neg c] at h2
      split at h1 <;> rename_i d
      · rw [if_pos d] at h2
        cases h1; cases h2
        exact ⟨K, eK, fun x hx => more _ (hb x hx)⟩
      · rw [if_neg d] at h2
        obtain ⟨k, e, z⟩ := T.on (i - 1) g y h1 h2
        exact ⟨k, e, fun x hx => more _ (z x hx)⟩
  · show (t.put j).1.place.size + (t.put j).1.dummies.size = _
    rw [sz, put_dm T.du j]; rfl
/-! all laid anew -/
theorem free_at {m : Nat} (hm : Pw m) (ow : Array (Option Nat)) (h : Int) {j : Nat} (hj : j ≤ m) (hf : oAt ow j = none) :
    ∃ K, SetTable.layClean.free m ow (SetTable.turns m) (SetTable.bits h % (m + 1)) (SetTable.bits h) = some (way m h K) ∧ oAt ow (way m h K) = none ∧ ∀ k, k < K → oAt ow (way m h k) ≠ none := by
  obtain ⟨n, hn, e⟩ := runs_all hm h hj
  have ew : way m h (off m (SetTable.bits h % (m + 1)) (SetTable.bits h) n) = j := by
    have := congrArg SetTable.Probe.j (nth_off m n (SetTable.bits h % (m + 1)) (SetTable.bits h))
    rw [itL_run] at this
    exact this.trans e
  obtain ⟨K, k1, k2, k3⟩ := st_least (p := fun k => oAt ow (way m h k) = none) _ (ew ▸ hf)
  refine ⟨K, free_spec m ow _ n _ _ K (by unfold SetTable.turns; omega) k1 (fun k hk => ?_) ?_, k2, k3⟩
  · exact Option.isNone_eq_false_iff.2 (Option.ne_none_iff_isSome.1 (k3 k hk))
  · exact Option.isNone_iff_eq_none.2 k2
theorem own_next {m : Nat} (hm : Pw m) {dn : List Int} {ow : Array (Option Nat)} (W : Own m dn ow) (hl : dn.length ≤ m) (h : Int) :
    ∃ j, SetTable.layClean.free m ow (SetTable.turns m) (SetTable.bits h % (m + 1)) (SetTable.bits h) = some j ∧ Own m (dn ++ [h]) (ow.setIfInBounds j (some dn.length)) := by
  obtain ⟨ps, lp, ip⟩ := W.ps
  obtain ⟨y, hy, ny⟩ := st_missing ps (m + 1) (by omega)
  have fy : oAt ow y = none := Classical.byContradiction fun z => ny (ip y (by omega) z)
  obtain ⟨K, e1, e2, e3⟩ := free_at hm ow h (j := y) (by omega) fy
  have lm := way_in m h K
  have ls : way m h K < ow.size := by rw [W.sz]; omega
  have self := oAt_set_self (some dn.length) ls
  have keep : ∀ i, oAt ow i ≠ none → oAt (ow.setIfInBounds (way m h K) (some dn.length)) i ≠ none := fun i hi => by
    by_cases c : i = way m h K
    · rw [c, self]; simp
    · rw [oAt_set_ne _ c]; exact hi
  refine ⟨way m h K, e1, ?_⟩
  constructor
  · rw [Array.size_setIfInBounds]; exact W.sz
  · intro j k hj e
    by_cases c : j = way m h K
    · rw [c, self] at e
      cases e
      exact ⟨h, K, by simp, c.symm, fun x hx => keep _ (e3 x hx)⟩
    · rw [oAt_set_ne _ c] at e
      obtain ⟨g, L, a1, a2, a3⟩ := W.at_ j k hj e
      exact ⟨g, L, by rw [List.getElem?_append_left (List.getElem?_eq_some_iff.mp a1).1]; exact a1, a2, fun x hx => keep _ (a3 x hx)⟩
  · intro k hk
    by_cases c : k < dn.length
    · obtain ⟨j, hj, e⟩ := W.all k c
      exact ⟨j, hj, by rw [oAt_set_ne _ (fun z => by rw [z, e2] at e; cases e)]; exact e⟩
    · have ek : k = dn.length := by simp at hk; omega
      exact ⟨way m h K, lm, ek ▸ self⟩
  · refine ⟨way m h K :: ps, by simp [lp], fun j hj e => ?_⟩
    by_cases c : j = way m h K
    · rw [c]; exact List.mem_cons_self
    · rw [oAt_set_ne _ c] at e
      exact List.mem_cons_of_mem _ (ip j hj e)
theorem own_fold {m : Nat} (hm : Pw m) : ∀ (rs dn : List Int) (ow : Array (Option Nat)), Own m dn ow → dn.length + rs.length ≤ m →
    ∃ ow', rs.foldl (stepF m) (some (ow, dn.length)) = some (ow', (dn ++ rs).length) ∧ Own m (dn ++ rs) ow'
  | [], dn, ow, W, _ => ⟨ow, by simp, by simpa using W⟩
  | h :: rs, dn, ow, W, hl => by
    rw [List.length_cons] at hl
    obtain ⟨j, e, W2⟩ := own_next hm W (by omega) h
    obtain ⟨ow', f, W3⟩ := own_fold hm rs (dn ++ [h]) _ W2 (by rw [List.length_append, List.length_singleton]; omega)
    refine ⟨ow', ?_, by simpa using W3⟩
    rw [List.foldl_cons, stepF_some e]
    simpa using f
theorem clean_ok {m : Nat} (hm : Pw m) {hs : Array Int} (hn : hs.size ≤ m) : ∃ ow, SetTable.layClean m hs = some ow ∧ Own m hs.toList ow := by
  obtain ⟨ow, f, W⟩ := own_fold hm hs.toList [] _ (Own.init m) (by simpa using hn)
  have f' : hs.toList.foldl (stepF m) (some (Array.replicate (m + 1) none, 0)) = some (ow, ([] ++ hs.toList).length) := f
  exact ⟨ow, by rw [layClean_eq, f']; rfl, by simpa using W⟩
theorem relaid_all (t : SetTable) {hs : Array Int} {wanted M : Nat} (hw : SetTable.sizeAbove wanted - 1 = M) (hM : Pw M) (hn : hs.size ≤ M) :
    ∃ t' ord, t.relaid hs wanted = some (t', ord) ∧ ord.toList.Perm (List.range hs.size) ∧ TabP t' (ord.toList.map fun i => hs.getD i 0) ∧ t'.mask = M ∧ t'.led = t.led := by
  obtain ⟨ow, e, W⟩ := clean_ok hM hn
  have ris := ris_live (fun j => ow.getD j none) (List.range (M + 1)) (by unfold Ris; exact List.pairwise_lt_range)
  have r1 : Ris ((liveOf M ow).map (·.1)) := ris.1
  have r2 : ∀ x ∈ (liveOf M ow).map (·.1), x ∈ List.range (M + 1) := ris.2
  have nd : ((liveOf M ow).map (·.1)).Nodup := r1.imp fun h => Nat.ne_of_lt h
  have cov : ∀ k, k < hs.size → k ∈ (liveOf M ow).map (·.2) := fun k hk => by
    obtain ⟨j, b1, b2⟩ := W.all k (by rw [Array.length_toList]; exact hk)
    exact List.mem_map.mpr ⟨(j, k), (mem_live W.sz).2 ⟨b1, b2⟩, rfl⟩
  have hlen : (liveOf M ow).length = hs.size := by
    obtain ⟨ps, p1, p2⟩ := W.ps
    have a := nat_nodup_len ((liveOf M ow).map (·.1)) ps nd fun x hx => by
      obtain ⟨⟨y, k⟩, hq, rfl⟩ := List.mem_map.mp hx
      obtain ⟨b1, b2⟩ := (mem_live W.sz).1 hq
      exact p2 y b1 (by rw [b2]; simp)
    have b := nat_nodup_len (List.range hs.size) ((liveOf M ow).map (·.2)) List.nodup_range fun k hk => cov k (List.mem_range.mp hk)
    simp only [List.length_map, List.length_range, p1, Array.length_toList] at a b
    omega
  refine ⟨tabOf t M ow, ((liveOf M ow).map (·.2)).toArray, by rw [relaid_eq, hw, e]; rfl, perm_range hs.size _ (by simpa using hlen) (by simpa using cov), ⟨r1, rfl, by simp [tabOf], hM, fun x hx => ?_, fun i h j h1 h2 => ?_⟩, rfl, rfl⟩
  · have := List.mem_range.mp (r2 x hx)
    show x ≤ M
    omega
  · have h1 : (((liveOf M ow).map (·.2)).map fun i => hs.getD i 0)[i]? = some h := h1
    have h2 : ((liveOf M ow).map (·.1))[i]? = some j := h2
    rw [List.map_map, List.getElem?_map] at h1
    rw [List.getElem?_map] at h2
    obtain ⟨⟨y, k⟩, hq, rfl⟩ := Option.map_eq_some_iff.1 h2
    rw [hq] at h1
    have eh : hs.getD k 0 = h := Option.some.inj h1
    obtain ⟨b1, b2⟩ := (mem_live W.sz).1 (List.mem_of_getElem? hq)
    obtain ⟨g, K, a1, a2, a3⟩ := W.at_ y k b1 b2
    have eg : hs.getD k 0 = g := by rw [Array.getD_eq_getD_getElem?, ← Array.getElem?_toList, a1]; rfl
    obtain rfl : g = h := eg.symm.trans eh
    refine ⟨K, a2, fun x hx => ?_⟩
    show way M g x ∈ (liveOf M ow).map (·.1)
    obtain ⟨c, hc⟩ := Option.ne_none_iff_exists'.1 (a3 x hx)
    exact List.mem_map.mpr ⟨(way M g x, c), (mem_live W.sz).2 ⟨way_in _ _ _, hc⟩, rfl⟩
/-! the sizes of new tables -/
theorem sizeGo (n : Nat) : ∀ f a, n < 2 ^ (a + f) → ∃ b, a ≤ b ∧ SetTable.sizeAbove.go n f (2 ^ a) = 2 ^ b ∧ n < 2 ^ b ∧ (b = a ∨ 2 ^ b ≤ 2 * n)
  | 0, a, h => ⟨a, Nat.le_refl _, rfl, h, .inl rfl⟩
  | f + 1, a, h => by
    show ∃ b, a ≤ b ∧ (if 2 ^ a ≤ n then SetTable.sizeAbove.go n f (2 ^ a * 2) else 2 ^ a) = 2 ^ b ∧ n < 2 ^ b ∧ (b = a ∨ 2 ^ b ≤ 2 * n)
    by_cases c : 2 ^ a ≤ n
    · rw [if_pos c, ← Nat.pow_succ]
      obtain ⟨b, h1, h2, h3, h4⟩ := sizeGo n f (a + 1) (by rw [show a + 1 + f = a + (f + 1) by omega]; exact h)
      refine ⟨b, by omega, h2, h3, ?_⟩
      rcases h4 with z | z
      · right; rw [z, Nat.pow_succ]; omega
      · exact .inr z
    · rw [if_neg c]
      exact ⟨a, Nat.le_refl _, rfl, by omega, .inl rfl⟩
theorem size_up {n : Nat} (h : n ≤ 1000000) : ∃ M, SetTable.sizeAbove n - 1 = M ∧ Pw M ∧ n ≤ M ∧ SetTable.sizeAbove n ≤ 8 + 2 * n := by
  obtain ⟨b, h1, h2, h3, h4⟩ := sizeGo n 64 3 (Nat.lt_of_le_of_lt h (by decide))
  have e : SetTable.sizeAbove n = 2 ^ b := h2
  have hb : b ≤ 40 := by
    rcases h4 with z | z
    · omega
    · refine Nat.le_of_not_lt fun c => ?_
      have h1 : 2 ^ 41 ≤ 2 ^ b := Nat.pow_le_pow_right (by decide) (by omega)
      have h2 : (2 : Nat) ^ 41 = 2199023255552 := by decide
      omega
  have hp : 0 < 2 ^ b := Nat.pow_pos (by decide)
  refine ⟨2 ^ b - 1, by rw [e], ⟨b, h1, hb, by omega⟩, by omega, ?_⟩
  rw [e]
  rcases h4 with z | z
  · subst z; omega
  · omega
end G4

/-! G58: sets of nested tuples, any number: search, add, in (as the model does them). -/
namespace G4
open PySem PySem.Spec PyProof.Rows L2
section
variable {P : Program} {w : World} {A : Around} {E : Value → Shared → Prop} {s : Shared}
/-! small questions asked of keys -/
mutual
theorem noCls : ∀ (k : NestedKey) (v : Value) (n : Nat) (A : Around) (s : Shared) (Q : Bool → Shared → Prop), NestedIs s.heap k v → k.depth ≤ n → Q false s → wpAny (model P w) A (ofAClassStatement n v) Q E s
  | .none, _, n, A, s, Q, x, _, h => by cases x; cases n <;> exact wpAny_pure h
  | .num i, _, n, A, s, Q, x, _, h => by cases x <;> cases n <;> exact wpAny_pure h
  | .text y, _, n, A, s, Q, x, _, h => by cases x; cases n <;> exact wpAny_pure h
  | .tup ks, _, n, A, s, Q, x, hn, h => by
    cases x with
    | @tup a o vs _ _ ho hc hd hk =>
      simp only [NestedKey.depth] at hn
      obtain ⟨n, rfl⟩ : ∃ m, n = m + 1 := ⟨n - 1, by omega⟩
      unfold ofAClassStatement
      refine wpAny_bind (wpAny_typeOf ⟨o, ho, hc⟩ ?_)
      dsimp only
      have e : (("tuple" : String) == "tuple") = true := by decide
      simp only [e, if_true, Bool.not_true, Bool.false_eq_true, if_false]
      try refine wpAny_bind (wpAny_pure ?_)
      try simp only [Bool.not_true, Bool.false_eq_true, if_false]
      show wpAny _ _ (seqItems? (.ref a) >>= _) _ _ s
      refine wpAny_bind (wpAny_seqItems ho hd ?_)
      dsimp only
      refine wpAny_bind ?_
      show wpAny _ _ (forIn vs _ _) _ _ s
      rw [← Array.forIn_toList]
      refine wpAny_forIn_list _ (fun rest r z => r.1 = none ∧ z = s ∧ ∃ ls : List NestedKey, NestedAll s.heap ls rest ∧ NestedKey.depthAll ls ≤ n ∧ ∀ l ∈ ls, l ∈ ks) _ ?_ ?_ _ _ ⟨rfl, rfl, ks, hk, by omega, fun _ hl => hl⟩
      · rintro v rest r z ⟨hr, rfl, ls, a1, a2, a3⟩
        cases a1 with
        | @cons l _ ls' _ b1 b2 =>
          simp only [NestedKey.depthAll] at a2
          have hl : l ∈ ks := a3 l List.mem_cons_self
          refine wpAny_bind (noCls l v n _ _ _ b1 (by omega) ?_)
          simp only [Bool.false_eq_true, if_false]
          exact wpAny_pure ⟨rfl, rfl, ls', b2, by omega, fun y hy => a3 y (List.mem_cons_of_mem _ hy)⟩
      · rintro ⟨r1, r2⟩ z ⟨hr, rfl, _⟩
        simp only at hr
        subst hr
        exact wpAny_pure h
termination_by k => sizeOf k
decreasing_by
  have := List.sizeOf_lt_of_mem hl
  simp
  omega
end
mutual
theorem byVal : ∀ (k : NestedKey) (v : Value) (n : Nat) (A : Around) (s : Shared) (Q : Bool → Shared → Prop), NestedIs s.heap k v → (∀ b, Q b s) → wpAny (model P w) A (hashByValue n v) Q E s
  | .none, _, n, A, s, Q, x, h => by cases x; cases n <;> exact wpAny_pure (h _)
  | .num i, _, n, A, s, Q, x, h => by cases x <;> cases n <;> exact wpAny_pure (h _)
  | .text y, _, n, A, s, Q, x, h => by cases x; cases n <;> exact wpAny_pure (h _)
  | .tup ks, _, n, A, s, Q, x, h => by
    cases x with
    | @tup a o vs _ _ ho hc hd hk =>
      cases n with
      | zero => exact wpAny_pure (h _)
      | succ n =>
      unfold hashByValue
      refine wpAny_bind (wpAny_specialOf ⟨o, ho, hc⟩ F.slot_tuple_hash.lookup ?_)
      show wpAny _ _ (seqItems? (.ref a) >>= _) _ _ s
      refine wpAny_bind (wpAny_seqItems ho hd ?_)
      refine wpAny_bind ?_
      show wpAny _ _ (forIn vs _ _) _ _ s
      rw [← Array.forIn_toList]
      refine wpAny_forIn_list _ (fun rest r z => r.1 = none ∧ z = s ∧ ∃ ls : List NestedKey, NestedAll s.heap ls rest ∧ ∀ l ∈ ls, l ∈ ks) _ ?_ ?_ _ _ ⟨rfl, rfl, ks, hk, fun _ hl => hl⟩
      · rintro v rest r z ⟨hr, rfl, ls, a1, a3⟩
        cases a1 with
        | @cons l _ ls' _ b1 b2 =>
          have hl : l ∈ ks := a3 l List.mem_cons_self
          refine wpAny_bind (byVal l v n _ _ _ b1 fun b => ?_)
          cases b
          · simp only [Bool.not_false, if_true]
            exact wpAny_pure (wpAny_pure (h _))
          · simp only [Bool.not_true, Bool.false_eq_true, if_false]
            exact wpAny_pure ⟨rfl, rfl, ls', b2, fun y hy => a3 y (List.mem_cons_of_mem _ hy)⟩
      · rintro ⟨r1, r2⟩ z ⟨hr, rfl, _⟩
        simp only at hr
        subst hr
        exact wpAny_pure (h _)
termination_by k => sizeOf k
decreasing_by
  have := List.sizeOf_lt_of_mem hl
  simp
  omega
end
/-- a key at an address -/
abbrev KyA (h : Heap) (k : NestedKey) (a : Addr) : Prop := NestedIs h k (.ref a) ∧ k.depth ≤ 8
theorem notSeen {k : NestedKey} {b : Addr} {Q : Bool → Shared → Prop} (hk : KyA s.heap k b) {ys : List Value} (hy : ∀ y ∈ ys, ∃ k' c, y = Value.ref c ∧ KyA s.heap k' c) (h : Q false s) :
    wpAny (model P w) A (searchCouldBeSeen (.ref b) ys) Q E s := by
  unfold searchCouldBeSeen
  refine wpAny_bind (wpAny_forIn_list _ (fun rest r z => r.1 = none ∧ z = s ∧ ∀ y ∈ rest, ∃ k' c, y = Value.ref c ∧ KyA s.heap k' c) _ ?_ ?_ _ _ ⟨rfl, rfl, hy⟩)
  · rintro v rest r z ⟨hr, rfl, al⟩
    obtain ⟨g, c, rfl, hc⟩ := al v List.mem_cons_self
    have tl : ∀ y ∈ rest, ∃ k' c, y = Value.ref c ∧ KyA z.heap k' c := fun u hu => al u (List.mem_cons_of_mem _ hu)
    dsimp only
    split
    · exact wpAny_pure ⟨rfl, rfl, tl⟩
    · refine wpAny_bind (quiet_key k _ 8 z hk.1 hk.2 _ _ _ ?_)
      simp only [Bool.not_true, Bool.false_eq_true, if_false]
      refine wpAny_bind (quiet_key g _ 8 z hc.1 hc.2 _ _ _ ?_)
      simp only [Bool.not_true, Bool.false_eq_true, if_false]
      refine wpAny_bind (noCls k _ 8 _ _ _ hk.1 hk.2 ?_)
      simp only [Bool.false_eq_true, if_false]
      refine wpAny_bind (noCls g _ 8 _ _ _ hc.1 hc.2 ?_)
      simp only [Bool.false_eq_true, if_false]
      exact wpAny_pure ⟨rfl, rfl, tl⟩
  · rintro ⟨r1, r2⟩ z ⟨hr, rfl, _⟩
    simp only at hr
    subst hr
    exact wpAny_pure h
/-! the set -/
abbrev Ky := NestedKey × Addr
def rowsK (w : World) (L : List Ky) : List (Int × Value) := L.map fun p => (p.1.hash w, Value.ref p.2)
structure SG (w : World) (h : Heap) (a : Addr) (L : List Ky) (es : Array (Int × Value)) (ep : Nat) (t : SetTable) : Prop where
  ob : ∃ o, h.get? a = some o ∧ o.ExactSet ∧ o.data = .set es ep t
  rows : es.toList = rowsK w L
  tab : TabP t (L.map fun p => p.1.hash w)
  nd : (L.map (·.1)).Nodup
  led : w.params.followText "set-order" = true ∨ t.led = true
  room : L.length * 5 < t.mask * 3
  msk : t.mask ≤ 8 + 8 * L.length
  few : L.length ≤ 1200
variable {a : Addr} {L : List Ky} {es : Array (Int × Value)} {ep : Nat} {t : SetTable}
theorem SG.size (R : SG w s.heap a L es ep t) : es.size = L.length := by
  have h := congrArg List.length R.rows
  simpa [rowsK] using h
theorem SG.fits (R : SG w s.heap a L es ep t) : t.fits es.size = true := by
  have h1 := R.tab.ln
  have h2 := R.size
  have h3 := R.room
  simp only [List.length_map] at h1
  simp only [SetTable.fits, SetTable.fill, R.tab.du, Bool.and_eq_true, beq_iff_eq, decide_eq_true_eq]
  exact ⟨by omega, by simp; omega⟩
theorem SG.entry (R : SG w s.heap a L es ep t) {i : Nat} {p : Ky} (h : L[i]? = some p) : es[i]? = some (p.1.hash w, Value.ref p.2) := by
  rw [← Array.getElem?_toList, R.rows, rowsK, List.getElem?_map, h]; rfl
theorem SG.whole (R : SG w s.heap a L es ep t) : ¬ t.gaveWay = true := by
  simp [SetTable.gaveWay, R.tab.pw.odd]
theorem way_dummy (m : Nat) : ∀ (n : Nat) (p : SetTable.Probe), p.dummy = none → (nth m p n).dummy = none
  | 0, _, h => h
  | n + 1, p, h => way_dummy m n (adv m p) (by unfold adv; split <;> exact h)
/-- the search, from the c-th step of the way on -/
theorem seek (R : SG w s.heap a L es ep t) (kys : ∀ p ∈ L, KyA s.heap p.1 p.2) {x : Addr} {k : NestedKey} (hx : KyA s.heap k x) (hu : A.units + 8 < cLine) (ad : Bool) {K : Nat} (hKf : K < 10 * SetTable.turns t.mask)
    (hK : way t.mask (k.hash w) K ∉ t.place.toList) (hKb : ∀ c, c < K → way t.mask (k.hash w) c ∈ t.place.toList) {Q : SetFound → Shared → Prop}
    (hin : ∀ r, k ∈ L.map (·.1) → (ad = false → r.isSome = true) → Q (.there r) s) (hout : k ∉ L.map (·.1) → Q (.free (way t.mask (k.hash w) K) false) s) :
    ∀ (f c : Nat) (st : Option SetTable.Probe), st.getD (t.probeStart (k.hash w)) = nth t.mask (t.probeStart (k.hash w)) c → c ≤ K → K - c < f →
      (∀ (i : Nat) p, L[i]? = some p → p.1 = k → ∃ d, c ≤ d ∧ d < K ∧ t.place.toList[i]? = some (way t.mask (k.hash w) d)) →
      wpAny (model P w) A (setSearchFrom a (.ref x) (k.hash w) ad f st) Q E s
  | 0, c, st, _, _, hf, _ => absurd hf (Nat.not_lt_zero _)
  | f + 1, c, st, hst, hc, hf, hre => by
    obtain ⟨o, ho, hex, hd⟩ := R.ob
    rw [setSearchFrom_succ]
    refine wpAny_bind (wpAny_setState_of ho hd R.fits ?_)
    dsimp only
    refine wp_if_neg R.whole ?_
    try refine wpAny_bind (wpAny_pure ?_)
    have dn : (nth t.mask (t.probeStart (k.hash w)) c).dummy = none := way_dummy _ c _ rfl
    have sh : ∀ q, nth t.mask (nth t.mask (t.probeStart (k.hash w)) c) q = nth t.mask (t.probeStart (k.hash w)) (c + q) := fun q => (nth_add t.mask c _ q).symm
    have wj : ∀ q, (nth t.mask (nth t.mask (t.probeStart (k.hash w)) c) q).j = way t.mask (k.hash w) (c + q) := fun q => congrArg SetTable.Probe.j (sh q)
    have hat : ∀ (i : Nat) p, L[i]? = some p → (es[i]?.map (·.1)).getD 0 = p.1.hash w := fun i p hp => by rw [R.entry hp]; rfl
    have cK : c + (K - c) = K := by omega
    rcases go_spec t R.tab.ri R.tab.du (fun i => (es[i]?.map (·.1)).getD 0) (k.hash w) (10 * SetTable.turns t.mask) (K - c) _ dn (by omega)
      (fun q hq => by rw [wj]; exact hKb (c + q) (by omega)) (by rw [wj, cK]; exact hK) with ⟨q, i, hq, hi, hh, hno, hpr⟩ | ⟨hno, hpr⟩
    · have hp2 : t.probe (fun i => (es[i]?.map (·.1)).getD 0) (k.hash w) (st.getD (t.probeStart (k.hash w))) = some (.candidate (way t.mask (k.hash w) (c + q)) i (nth t.mask (t.probeStart (k.hash w)) (c + (q + 1)))) := by
        rw [hst, ← wj, ← sh]; exact hpr
      rw [hp2]
      dsimp only
      rw [wj] at hi
      have il : i < L.length := by
        have h1 := (List.getElem?_eq_some_iff.mp hi).1
        have h2 := R.tab.ln
        simp only [List.length_map, Array.length_toList] at h1 h2
        omega
      obtain ⟨p, hp⟩ : ∃ p, L[i]? = some p := ⟨_, List.getElem?_eq_getElem il⟩
      have pm : p ∈ L := List.mem_of_getElem? hp
      have pk := kys p pm
      have sl : t.slot (way t.mask (k.hash w) (c + q)) = .live i := slot_live R.tab.ri hi
      have rest : wpAny (model P w) A (searchRest a (.ref x) (k.hash w) ad f es t (way t.mask (k.hash w) (c + q)) i (nth t.mask (t.probeStart (k.hash w)) (c + (q + 1)))) Q E s := by
        unfold searchRest
        rw [R.entry hp]
        dsimp only
        refine wpAny_bind (wpAny_holding (eqAt_key p.1 k A s _ _ pk.1 hx.1 (by have := pk.2; omega) _ _ _ _ ?_))
        refine wpAny_bind (wpAny_setState_of ho hd R.fits ?_)
        dsimp only
        by_cases kk : p.1 = k
        · have e1 : NestedKey.beq p.1 k = true := by rw [kk]; exact NestedKey.beq_self k
          have km : k ∈ L.map (·.1) := List.mem_map.mpr ⟨p, pm, kk⟩
          cases ad with
          | true =>
            refine wp_if_pos (by simp [e1]) ?_
            exact wpAny_pure (hin none km (fun z => nomatch z))
          | false =>
            refine wp_if_neg (by simp) ?_
            try refine wpAny_bind (wpAny_pure ?_)
            rw [sameMem]
            dsimp only
            simp only [if_true, sl, R.entry hp]
            refine wpAny_bind (wpAny_isSame_ref_self (wpAny_bind (wpAny_pure ?_)))
            simp only [if_true]
            refine wp_if_pos e1 ?_
            exact wpAny_pure (hin (some i) km fun _ => rfl)
        · have e1 : NestedKey.beq p.1 k = false := by
            cases z : NestedKey.beq p.1 k with
            | false => rfl
            | true => exact absurd (NestedKey.eq_of_beq _ _ z) kk
          refine wp_if_neg (by simp [e1]) ?_
          try refine wpAny_bind (wpAny_pure ?_)
          rw [sameMem]
          dsimp only
          simp only [if_true, sl, R.entry hp]
          refine wpAny_bind (wpAny_isSame_ref_self (wpAny_bind (wpAny_pure ?_)))
          simp only [if_true]
          refine wp_if_neg (by simp [e1]) ?_
          refine seek R kys hx hu ad hKf hK hKb hin hout f (c + (q + 1)) _ rfl (by omega) (by omega) fun i0 p0 h0 hk0 => ?_
          obtain ⟨d, a1, a2, a3⟩ := hre i0 p0 h0 hk0
          refine ⟨d, ?_, a2, a3⟩
          rcases Nat.lt_trichotomy d (c + q) with z | z | z
          · exact absurd ((hat i0 p0 h0).trans (congrArg (NestedKey.hash w) hk0)) (hno (d - c) i0 (by omega) (by rw [wj, show c + (d - c) = d by omega]; exact a3))
          · subst z
            have s0 := slot_live R.tab.ri a3
            rw [sl] at s0
            injection s0 with s0
            rw [← s0, hp] at h0
            exact absurd ((congrArg Prod.fst (Option.some.inj h0)).trans hk0) kk
          · omega
      by_cases hl : t.led = true
      · refine wp_if_neg (by simp [hl]) ?_
        try refine wpAny_bind (wpAny_pure ?_)
        exact rest
      · refine wp_if_pos (by simp [hl]) ?_
        refine wpAny_bind (notSeen hx (fun y hy => ?_) ?_)
        · obtain ⟨e, he, ee⟩ := List.mem_map.mp hy
          have he1 : e ∈ es ∧ e.1 = k.hash w := by simpa using he
          have he2 : e ∈ es.toList := by simpa using he1.1
          rw [R.rows] at he2
          obtain ⟨p2, hp2, rfl⟩ := List.mem_map.mp he2
          exact ⟨p2.1, p2.2, ee.symm, kys p2 hp2⟩
        · refine wp_if_neg (by decide) ?_
          try refine wpAny_bind (wpAny_pure ?_)
          exact rest
    · have hp2 : t.probe (fun i => (es[i]?.map (·.1)).getD 0) (k.hash w) (st.getD (t.probeStart (k.hash w))) = some (.empty (way t.mask (k.hash w) K) none) := by
        rw [hst]
        refine hpr.trans ?_
        rw [wj, cK]
      rw [hp2]
      dsimp only
      refine wpAny_pure (hout fun hm => ?_)
      obtain ⟨p0, h0, hk0⟩ := List.mem_map.mp hm
      obtain ⟨i0, hi0, e0⟩ := List.getElem_of_mem h0
      have h1 : L[i0]? = some p0 := by rw [List.getElem?_eq_getElem hi0, e0]
      obtain ⟨d, a1, a2, a3⟩ := hre i0 p0 h1 hk0
      exact hno (d - c) i0 (by omega) (by rw [wj, show c + (d - c) = d by omega]; exact a3) ((hat i0 p0 h1).trans (congrArg (NestedKey.hash w) hk0))
theorem seek0 (R : SG w s.heap a L es ep t) (kys : ∀ p ∈ L, KyA s.heap p.1 p.2) {x : Addr} {k : NestedKey} (hx : KyA s.heap k x) (hu : A.units + 8 < cLine) (ad : Bool) {Q : SetFound → Shared → Prop}
    (hin : ∀ r, k ∈ L.map (·.1) → (ad = false → r.isSome = true) → Q (.there r) s)
    (hout : ∀ j, k ∉ L.map (·.1) → j ∉ t.place.toList → (∃ K, way t.mask (k.hash w) K = j ∧ ∀ c, c < K → way t.mask (k.hash w) c ∈ t.place.toList) → Q (.free j false) s) :
    wpAny (model P w) A (setSearch a (.ref x) (k.hash w) ad) Q E s := by
  have hr := R.room
  obtain ⟨K, hKf, hK, hKb⟩ := R.tab.free (by rw [List.length_map]; omega) (k.hash w)
  have big : K < 100000 := by
    have h1 := R.msk
    have h2 := R.few
    unfold SetTable.turns at hKf
    omega
  unfold setSearch
  refine seek R kys hx hu ad hKf hK hKb hin (fun hn => hout _ hn hK ⟨K, rfl, hKb⟩) 100000 0 none rfl (Nat.zero_le _) (by omega) fun i p hp hk => ?_
  have hi : (L.map fun p => p.1.hash w)[i]? = some (k.hash w) := by rw [List.getElem?_map, hp, ← hk]; rfl
  have il : i < t.place.toList.length := by
    have h1 := (List.getElem?_eq_some_iff.mp hp).1
    have h2 := R.tab.ln
    simp only [List.length_map] at h2
    rw [Array.length_toList]
    omega
  obtain ⟨c, hc, e⟩ := R.tab.seen hK hi (List.getElem?_eq_getElem il)
  exact ⟨c, Nat.zero_le _, hc, by rw [List.getElem?_eq_getElem il, e]⟩
end
end G4

/-! G59: sets of nested tuples: laid anew, add, in, set(list). -/
namespace G4
open PySem PySem.Spec PyProof.Rows L2
section
variable {P : Program} {w : World} {A : Around} {E : Value → Shared → Prop} {s : Shared}
theorem kyA_but {h h' : Heap} {k : NestedKey} {a b : Addr} {o : Obj} {es : Array (Int × Value)} {ep : Nat} {t : SetTable} (hb : KyA h k b) (ho : h.get? a = some o) (hd : o.data = .set es ep t) (hs : Heap.SameBut a h h') : KyA h' k b :=
  ⟨NestedIs.at (fun c oc vs n e1 e2 => by
    refine (hs.2 c fun e => ?_).trans e1
    subst e
    rw [ho] at e1
    cases e1
    rw [hd] at e2
    cases e2) k _ hb.1, hb.2⟩
theorem kyA_on {h h' : Heap} {k : NestedKey} {b : Addr} (hb : KyA h k b) (hk : ∀ c o, h.get? c = some o → h'.get? c = some o) : KyA h' k b :=
  ⟨NestedIs.at (fun c oc _ _ e _ => hk c oc e) k _ hb.1, hb.2⟩
theorem reorder {es : Array (Int × Value)} {L : List Ky} (hr : es.toList = rowsK w L) {ord : Array Nat} (hp : ord.toList.Perm (List.range L.length)) :
    ∃ L2 : List Ky, (ord.filterMap (es[·]?)).toList = rowsK w L2 ∧ L2.Perm L ∧ (L2.map fun p => p.1.hash w) = ord.toList.map fun i => (es.map (·.1)).getD i 0 := by
  have en : ∀ i, es[i]? = (L[i]?).map fun p : Ky => (p.1.hash w, Value.ref p.2) := fun i => by rw [← Array.getElem?_toList, hr, rowsK, List.getElem?_map]
  refine ⟨ord.toList.filterMap (L[·]?), ?_, ?_, ?_⟩
  · rw [Array.toList_filterMap, rowsK, List.map_filterMap]
    congr 1
    funext i
    exact en i
  · have h1 := hp.filterMap (L[·]?)
    have h2 : (List.range L.length).filterMap (L[·]?) = L := by
      apply List.ext_getElem?
      intro i
      have : ∀ (M : List Ky) n, n ≤ M.length → (List.range n).filterMap (M[·]?) = M.take n := by
        intro M n
        induction n with
        | zero => intro _; rfl
        | succ n ih =>
          intro hn
          rw [List.range_succ, List.filterMap_append, ih (by omega), List.take_succ]
          simp only [List.filterMap_cons, List.filterMap_nil]
          cases M[n]? <;> rfl
      rw [this L _ (Nat.le_refl _), List.take_length]
    rw [h2] at h1
    exact h1
  · have al : ∀ i ∈ ord.toList, i < L.length := fun i hi => List.mem_range.mp (hp.mem_iff.mp hi)
    generalize ord.toList = l at al
    induction l with
    | nil => rfl
    | cons i l ih =>
      have hi := al i List.mem_cons_self
      rw [List.filterMap_cons_some (List.getElem?_eq_getElem hi), List.map_cons, List.map_cons, ih fun j hj => al j (List.mem_cons_of_mem _ hj)]
      congr 1
      rw [Array.getD_eq_getD_getElem?, Array.getElem?_map, en, List.getElem?_eq_getElem hi]
      rfl
variable {a : Addr} {L : List Ky} {es : Array (Int × Value)} {ep : Nat} {t : SetTable}
/-- the table laid anew -/
theorem relay {o : Obj} (ho : s.heap.get? a = some o) (hex : o.ExactSet) (hd : o.data = .set es ep t) (rows : es.toList = rowsK w L) (tab : TabP t (L.map fun p => p.1.hash w)) (hfl : L.length ≤ t.mask)
    (nd : (L.map (·.1)).Nodup) (ld : w.params.followText "set-order" = true ∨ t.led = true) (few : L.length ≤ 1200) {Q : Unit → Shared → Prop}
    (hQ : ∀ h' L' es' ep' t', Heap.SameBut a s.heap h' → SG w h' a L' es' ep' t' → L'.Perm L → Q () { s with heap := h' }) : wpAny (model P w) A (setRelay a (SetTable.grown L.length)) Q E s := by
  have hsl : es.size = L.length := by simpa [rowsK] using congrArg List.length rows
  have hgr : SetTable.grown L.length = L.length * 4 := by unfold SetTable.grown; rw [if_neg (by omega)]
  obtain ⟨M, eM, pM, lM, uM⟩ := size_up (n := SetTable.grown L.length) (by omega)
  have hfits : t.fits es.size = true := by
    have h1 := tab.ln
    simp only [List.length_map] at h1
    simp only [SetTable.fits, SetTable.fill, tab.du, Bool.and_eq_true, beq_iff_eq, decide_eq_true_eq]
    exact ⟨by omega, by simp; omega⟩
  obtain ⟨t', ord, e, hp, T, em, el⟩ := relaid_all t (hs := es.map (·.1)) eM pM (by rw [Array.size_map, hsl]; omega)
  rw [Array.size_map, hsl] at hp
  obtain ⟨L2, r1, r2, r3⟩ := reorder rows hp
  rw [← r3] at T
  have hs2 : (ord.filterMap (es[·]?)).size = es.size := by
    have h := congrArg List.length r1
    rw [rowsK, List.length_map, r2.length_eq, Array.length_toList] at h
    rw [h, hsl]
  have m7 : 7 ≤ M := by
    obtain ⟨j, h3, _, e2⟩ := pM
    have := Nat.pow_le_pow_right (n := 2) (by decide) h3
    omega
  rw [setRelay_eq]
  refine wpAny_bind (wpAny_setState_of ho hd hfits ?_)
  dsimp only
  refine wp_if_neg (by rw [sizeLine_eq]; omega) ?_
  try refine wpAny_bind (wpAny_pure ?_)
  rw [e]
  dsimp only
  refine wpAny_bind ?_
  refine wp_if_neg (by rw [hs2]; simp) ?_
  try refine wpAny_bind (wpAny_pure ?_)
  refine wpAny_pure ?_
  dsimp only
  refine wpAny_storeSet_of ho hd ?_ (by rw [hs2, hsl, sizeLine_eq]; omega)
  refine hQ _ L2 (ord.filterMap (es[·]?)) (ep + 1) t' (Heap.SameBut.update ..) ?_ r2
  exact ⟨⟨_, store_at ho hd, ⟨hex.1, hex.2.1, hex.2.2⟩, rfl⟩, r1, T, (r2.map (·.1)).nodup_iff.mpr nd, by rw [el]; exact ld, by rw [r2.length_eq, em]; omega, by rw [r2.length_eq, em]; omega, by rw [r2.length_eq]; exact few⟩
/-- one more -/
theorem addK (R : SG w s.heap a L es ep t) (kys : ∀ p ∈ L, KyA s.heap p.1 p.2) {x : Addr} {k : NestedKey} (hx : KyA s.heap k x) (hu : A.units + 8 < cLine) (hfew : L.length < 1200) {Q : Bool → Shared → Prop}
    (hQ : ∀ b h' L' es' ep' t', Heap.SameBut a s.heap h' → SG w h' a L' es' ep' t' → (k ∈ L.map (·.1) → L' = L) → (k ∉ L.map (·.1) → L'.Perm ((k, x) :: L)) → Q b { s with heap := h' }) :
    wpAny (model P w) A (setAddHashed a (.ref x) (k.hash w)) Q E s := by
  obtain ⟨o, ho, hex, hd⟩ := R.ob
  have hsl := R.size
  have hroom := R.room
  unfold setAddHashed
  refine wpAny_holding ?_
  rw [show (100000 : Nat) = 99999 + 1 from rfl, setAddHashedIn_succ]
  refine wpAny_bind (wpAny_setState_of ho hd R.fits ?_)
  dsimp only
  refine wp_if_neg (by simp [byScan, Value.scannable]) ?_
  try refine wpAny_bind (wpAny_pure ?_)
  refine wpAny_bind (seek0 R kys hx hu true (fun r hm _ => ?_) fun j hm hj hw => ?_)
  · dsimp only
    exact wpAny_pure (hQ false s.heap L es ep t (Heap.SameBut.refl a s.heap) R (fun _ => rfl) fun z => absurd hm z)
  · dsimp only
    refine wpAny_bind (wpAny_setState_of ho hd R.fits ?_)
    dsimp only
    obtain ⟨b1, b2, b3⟩ := R.tab.laid hw hj
    have q2 : (t.put j).2 = SetTable.below t.place j := rfl
    have q4 : (t.put j).1.mask = t.mask := rfl
    have q5 : (t.put j).1.led = t.led := rfl
    generalize hpt : t.put j = pt at b2 b3 q2 q4 q5 ⊢
    obtain ⟨t1, p⟩ := pt
    dsimp only at b2 b3 q2 q4 q5 ⊢
    have tail : ∀ (pl : Bool), wpAny (model P w) A (do
        storeSet a (SetTable.insertAt es p (k.hash w, Value.ref x)) (if pl = true then t1 else { t1 with plain := false })
        if (!false && (if pl = true then t1 else { t1 with plain := false }).tooFull) = true then do
            setRelay a (SetTable.grown (es.size + 1))
            pure true
          else pure true) Q E s := by
      intro pl
      have hin : (SetTable.insertAt es p (k.hash w, Value.ref x)).toList = rowsK w (L.take p ++ (k, x) :: L.drop p) := by
        rw [q2, SetTable.toList_insertAt, R.rows]
        simp [rowsK, List.map_take, List.map_drop]
      have pm := put_perm L p (k, x)
      have hlen : (L.take p ++ (k, x) :: L.drop p).length = L.length + 1 := pm.length_eq
      have q3 : TabP t1 ((L.take p ++ (k, x) :: L.drop p).map fun p => p.1.hash w) := by
        rw [List.map_append, List.map_cons, List.map_take, List.map_drop, q2]
        exact b2
      have nd1 : ((L.take p ++ (k, x) :: L.drop p).map (·.1)).Nodup := (pm.map (·.1)).nodup_iff.mpr (List.nodup_cons.mpr ⟨hm, R.nd⟩)
      have hes : (SetTable.insertAt es p (k.hash w, Value.ref x)).size = L.length + 1 := by
        have h := congrArg List.length hin
        rw [rowsK, List.length_map, hlen, Array.length_toList] at h
        exact h
      generalize SetTable.insertAt es p (k.hash w, Value.ref x) = es1 at hin hes ⊢
      generalize L.take p ++ (k, x) :: L.drop p = L1 at pm hlen q3 nd1 hin
      obtain ⟨t2, ht2⟩ : ∃ t2, t2 = (if pl = true then t1 else { t1 with plain := false }) := ⟨_, rfl⟩
      have m2 : t2.mask = t1.mask := by rw [ht2]; split <;> rfl
      have l2 : t2.led = t1.led := by rw [ht2]; split <;> rfl
      have f2 : t2.fill = t1.fill := by rw [ht2]; split <;> rfl
      have T2 : TabP t2 (L1.map fun p => p.1.hash w) := by
        rw [ht2]
        split
        · exact q3
        · exact ⟨q3.ri, q3.du, q3.ln, q3.pw, q3.le, q3.on⟩
      rw [← ht2]
      refine wpAny_bind (wpAny_storeSet_of ho hd ?_ (by rw [hes, sizeLine_eq]; omega))
      have sb : Heap.SameBut a s.heap (s.heap.update a (Obj.putSet es1 t2)) := Heap.SameBut.update ..
      have ho1 := store_at (es' := es1) (t' := t2) ho hd
      generalize s.heap.update a (Obj.putSet es1 t2) = h1 at sb ho1 ⊢
      have ld1 : w.params.followText "set-order" = true ∨ t2.led = true := by rw [l2, q5]; exact R.led
      have fill : t2.fill = L.length + 1 := by rw [f2, b3, List.length_map]
      by_cases hf : t2.tooFull = true
      · refine wp_if_pos (by simp [hf]) ?_
        refine wpAny_bind ?_
        rw [hsl, ← hlen]
        refine relay (s := { s with heap := h1 }) ho1 ⟨hex.1, hex.2.1, hex.2.2⟩ rfl hin T2 (by rw [m2, q4]; omega) nd1 ld1 (by omega) fun h2 L2 es2 ep2 t3 sb2 R2 pm2 => ?_
        exact wpAny_pure (hQ true h2 L2 es2 ep2 t3 (sb.trans sb2) R2 (fun z => absurd z hm) fun _ => pm2.trans pm)
      · refine wp_if_neg (by simp [hf]) ?_
        refine wpAny_pure (hQ true h1 L1 es1 (ep + 1) t2 sb ⟨⟨_, ho1, ⟨hex.1, hex.2.1, hex.2.2⟩, rfl⟩, hin, T2, nd1, ld1, ?_, ?_, by omega⟩ (fun z => absurd z hm) fun _ => pm)
        · simp only [SetTable.tooFull, decide_eq_true_eq, fill] at hf
          omega
        · have := R.msk
          rw [m2, q4, hlen]
          omega
    split
    · refine wpAny_bind (byVal k _ 8 _ _ _ hx.1 fun b => ?_)
      exact tail b
    · refine wpAny_bind (wpAny_pure ?_)
      exact tail true
/-- is it there -/
theorem hasK (R : SG w s.heap a L es ep t) (kys : ∀ p ∈ L, KyA s.heap p.1 p.2) {x : Addr} {k : NestedKey} (hx : KyA s.heap k x) (hu : A.units + 8 < cLine) {Q : Option Nat → Shared → Prop}
    (h : ∀ r : Option Nat, r.isSome = decide (k ∈ L.map (·.1)) → Q r s) : wpAny (model P w) A (setFind a (.ref x) (k.hash w)) Q E s := by
  obtain ⟨o, ho, hex, hd⟩ := R.ob
  unfold setFind setFindIn
  refine wpAny_bind (wpAny_setState_of ho hd R.fits ?_)
  dsimp only
  refine wp_if_neg (by simp [byScan, Value.scannable]) ?_
  try refine wpAny_bind (wpAny_pure ?_)
  refine wpAny_bind (seek0 R kys hx hu false (fun r hm hr => ?_) fun j hm _ _ => ?_)
  · exact wpAny_pure (h r (by simp [hm, hr rfl]))
  · exact wpAny_pure (h none (by simp [hm]))
end
end G4

/-! G60: sets of nested tuples as calls: set(), set(list), s.add(k), k in s. -/
namespace G4
open PySem PySem.Spec PyProof.Rows L2
/-- what is met so far -/
structure Had (ks : List Ky) (i : Nat) (L : List Ky) : Prop where
  of : ∀ p ∈ L, p ∈ ks.take i
  up : ∀ p ∈ ks.take i, p.1 ∈ L.map (·.1)
  le : L.length ≤ i
theorem Had.next {ks L L' : List Ky} {i : Nat} {x : Ky} (g : Had ks i L) (h : ks[i]? = some x) (c1 : x.1 ∈ L.map (·.1) → L' = L) (c2 : x.1 ∉ L.map (·.1) → L'.Perm ((x.1, x.2) :: L)) : Had ks (i + 1) L' := by
  have tk : ks.take (i + 1) = ks.take i ++ [x] := by rw [List.take_succ, h]; rfl
  by_cases c : x.1 ∈ L.map (·.1)
  · rw [c1 c]
    refine ⟨fun p hp => by rw [tk]; exact List.mem_append_left _ (g.of p hp), fun p hp => ?_, by have := g.le; omega⟩
    rw [tk] at hp
    rcases List.mem_append.mp hp with z | z
    · exact g.up p z
    · rw [List.mem_singleton.mp z]; exact c
  · have pm := c2 c
    refine ⟨fun p hp => ?_, fun p hp => ?_, by rw [pm.length_eq]; exact Nat.succ_le_succ g.le⟩
    · rw [tk]
      rcases List.mem_cons.mp (pm.mem_iff.mp hp) with z | z
      · rw [z]; exact List.mem_append_right _ (List.mem_singleton.mpr rfl)
      · exact List.mem_append_left _ (g.of p z)
    · rw [tk] at hp
      refine (pm.map (·.1)).mem_iff.mpr ?_
      rcases List.mem_append.mp hp with z | z
      · exact List.mem_cons_of_mem _ (g.up p z)
      · rw [List.mem_singleton.mp z]; exact List.mem_cons_self
abbrev set00 (w : World) : Obj := { cls := .type "set", dict := none, data := .set #[] 0 (.fresh 0 0 (!w.params.followText "set-order")) }
section
variable {P : Program} {w : World} {A : Around} {E : Value → Shared → Prop} {s : Shared}
theorem SG.on {h h' : Heap} {a : Addr} {L : List Ky} {es : Array (Int × Value)} {ep : Nat} {t : SetTable} (R : SG w h a L es ep t) (ha : ∀ o, h.get? a = some o → h'.get? a = some o) : SG w h' a L es ep t := by
  obtain ⟨o, ho, r⟩ := R.ob
  exact { R with ob := ⟨o, ha o ho, r⟩ }
theorem sg_new {h : Heap} {a : Addr} (ho : h.get? a = some (set00 w)) : SG w h a [] #[] 0 (.fresh 0 0 (!w.params.followText "set-order")) where
  ob := ⟨_, ho, ⟨rfl, rfl, rfl⟩, rfl⟩
  rows := rfl
  tab := ⟨.nil, rfl, rfl, ⟨3, by decide, by decide, rfl⟩, fun x hx => (nomatch hx), fun i h j hi => (nomatch hi)⟩
  nd := .nil
  led := by
    show _ ∨ (!w.params.followText "set-order") = true
    cases w.params.followText "set-order" <;> simp
  room := by show 0 * 5 < 7 * 3; decide
  msk := by show 7 ≤ 8 + 8 * 0; decide
  few := Nat.zero_le _
/-- setAdd of a key -/
theorem setAddK {a : Addr} {L : List Ky} {es : Array (Int × Value)} {ep : Nat} {t : SetTable} (R : SG w s.heap a L es ep t) (kys : ∀ p ∈ L, KyA s.heap p.1 p.2) {x : Addr} {k : NestedKey} (hx : KyA s.heap k x) (hu : A.units + 8 < cLine) (hfew : L.length < 1200) {Q : Bool → Shared → Prop}
    (hQ : ∀ b h' L' es' ep' t' tk, Heap.SameBut a s.heap h' → SG w h' a L' es' ep' t' → (k ∈ L.map (·.1) → L' = L) → (k ∉ L.map (·.1) → L'.Perm ((k, x) :: L)) → s.toks ≤ tk → Q b { s with heap := h', toks := tk }) :
    wpAny (model P w) A (setAdd a (.ref x)) Q E s := by
  unfold setAdd
  refine wpAny_holding ?_
  refine wpAny_bind (pyHash_key k _ A s _ hx.1 (by have := hx.2; omega) ?_)
  exact addK (s := { s with toks := s.toks + k.draws }) R kys hx hu hfew fun b h' L' es' ep' t' h1 h2 h3 h4 => hQ b h' L' es' ep' t' _ h1 h2 h3 h4 (Nat.le_add_right _ _)
/-- set.update, turn by turn -/
theorem upd_turns {I : Addr} {fp wr : List Addr} {G : Array GenState → Array GenState → Prop} {n : Nat} {Pv : Nat → Value → Prop} {St : Nat → Shared → Prop} {R : Result → Shared → Prop}
    (W : WalksS P w A.in1 I fp wr G n Pv St) (S : Addr) (hf : S ∉ fp) (ks : List Ky) (hn : n = ks.length) (few : ks.length ≤ 1200) (hv : ∀ i v, Pv i v → ∃ p, ks[i]? = some p ∧ v = .ref p.2)
    (h0 : Heap) (hk : ∀ p ∈ ks, KyA h0 p.1 p.2) (hS0 : h0.get? S = none) (hw0 : ∀ b ∈ wr, h0.get? b = none) (hu : A.in1.units + 8 < cLine) :
    ∀ (m i : Nat) (s : Shared), n - i = m → i ≤ n → St i s → (∀ b o, h0.get? b = some o → s.heap.get? b = some o) → (∃ L es ep t, SG w s.heap S L es ep t ∧ Had ks i L) →
      (∀ z L es ep t, Moved (S :: wr) G s z → SG w z.heap S L es ep t → Had ks n L → (∀ b o, h0.get? b = some o → z.heap.get? b = some o) → R (.ok (.ret .none)) z) →
      codeAny (model P w) A (.builtin "set.update.loop" ⟨[.ref S, .ref I], []⟩) R s := by
  have nw : S ∉ wr := fun h => hf (W.sub _ h)
  have sub : ∀ b ∈ wr, b ∈ S :: wr := fun b hb => List.mem_cons_of_mem _ hb
  have on : ∀ {s z : Shared}, Moved wr G s z → (∀ b o, h0.get? b = some o → s.heap.get? b = some o) → ∀ b o, h0.get? b = some o → z.heap.get? b = some o := fun mv kp b o e =>
    mv.heap b o (fun hb => by rw [hw0 b hb] at e; cases e) (kp b o e)
  intro m
  induction m with
  | zero =>
    intro i s hm hi hst kp ⟨L, es, ep, t, hS, g⟩ fin
    obtain rfl : i = n := by omega
    refine codeAny_builtin F.entry_set_update_loop ?_
    rw [Around.under_plainId F.plain_set_update_loop _]
    show wpAny _ A.in1 (pyNext (.ref I) >>= _) _ _ s
    refine wpAny_bind (W.done s _ _ hst fun z mv => ?_)
    show wpAny _ A.in1 (ret Value.none) _ _ z
    exact wpAny_pure (fin z L es ep t (mv.mono sub) (hS.on fun o e => mv.heap S o nw e) g (on mv kp))
  | succ m ih =>
    intro i s hm hi hst kp ⟨L, es, ep, t, hS, g⟩ fin
    have lt : i < n := by omega
    refine codeAny_builtin F.entry_set_update_loop ?_
    rw [Around.under_plainId F.plain_set_update_loop _]
    show wpAny _ A.in1 (pyNext (.ref I) >>= _) _ _ s
    refine wpAny_bind (W.item i s _ _ lt hst fun v z hP hst2 mv => ?_)
    obtain ⟨p, hp, rfl⟩ := hv i v hP
    have kp2 := on mv kp
    have al : ∀ q ∈ L, KyA z.heap q.1 q.2 := fun q hq => kyA_on (hk q (List.mem_of_mem_take (g.of q hq))) kp2
    show wpAny _ A.in1 (holding [Value.ref p.2] (setAdd S (.ref p.2)) >>= _) _ _ z
    refine wpAny_bind (wpAny_holding ?_)
    refine setAddK (hS.on fun o e => mv.heap S o nw e) al (kyA_on (hk p (List.mem_of_getElem? hp)) kp2) hu (by have := g.le; omega) fun b h' L2 es2 ep2 t2 tk sb R2 c1 c2 ltk => ?_
    have kp3 : ∀ b o, h0.get? b = some o → h'.get? b = some o := fun b o e => (sb.2 b (fun q => by rw [q, hS0] at e; cases e)).trans (kp2 b o e)
    refine wpAny_pure ⟨plainId_quiet F.plain_set_update_loop _, ih (i + 1) _ (by omega) lt (W.frame _ z _ _ hst2 ltk fun b hb o e => ?_) kp3 ⟨L2, es2, ep2, t2, R2, g.next hp c1 c2⟩ fun y L3 es3 ep3 t3 mv3 R3 g3 kp4 => ?_⟩
    · rw [sb.2 b (fun q : b = S => hf (q ▸ hb))]; exact e
    · refine fin y L3 es3 ep3 t3 (Moved.trans W.gtrans ((mv.mono sub).then_heap ltk fun b o hb e => ?_) mv3) R3 g3 kp4
      rw [sb.2 b (fun q : b = S => hb (by rw [q]; exact List.mem_cons_self))]; exact e
/-- set(list) -/
theorem call_setK {l : Addr} {items : Array Value} (ks : List Ky) {Q : Value → Shared → Prop} (hh : A.handled = none) (hl : s.heap.IsList l items) (hit : items.toList = ks.map fun p => Value.ref p.2)
    (hk : ∀ p ∈ ks, KyA s.heap p.1 p.2) (few : ks.length ≤ 1200) (hu : A.units + 11 < cLine)
    (h : ∀ (h' : Heap) (tk : Nat) L es ep t, SG w h' s.heap.objs.size L es ep t → Had ks ks.length L → (∀ b o, s.heap.get? b = some o → h'.get? b = some o) → Q (.ref s.heap.objs.size) { s with heap := h', toks := tk }) :
    wpAny (model P w) A (call (.type "set") [.ref l]) Q E s := by
  have isz : items.size = ks.length := by rw [← Array.length_toList, hit, List.length_map]
  obtain ⟨c, tl, hmro⟩ := F.called_set.mro
  have hmade := F.called_set.made
  have hsub := F.called_set.sub
  refine wpAny_call (codeAny_of_tree ?_)
  show wpAny _ _ (callAny (.type "set") _) _ _ _
  refine wpAny_pure ⟨Code.quiet_builtin _ (by decide +kernel), codeAny_builtin F.entry_type_call ?_⟩
  rw [Around.under_plain (weight_type_call_type "set" [.ref l] []) rfl]
  have q1 := F.called_set.notType
  have q2 := F.called_set.canCreate
  have q3 := F.typeCall_set_1 (.ref l)
  repeat (any_goals (first | assumption | wp_step))
  refine codeAny_mono (code_set_led1 (.ref l) (E := E) (Q₁ := fun ob s₁ => ob = .ref s.heap.objs.size ∧ s₁ = { s with heap := s.heap.push (set00 w) }) ⟨rfl, rfl⟩) fun r s₁ hr => ?_
  cases r with
  | error e => exact hr
  | ok fl =>
    cases fl with
    | ret ob =>
      obtain ⟨rfl, rfl⟩ := hr
      have hS : (s.heap.push (set00 w)).get? s.heap.objs.size = some (set00 w) := Heap.get?_push_size _ rfl
      have hT : Shared.TypeIs { s with heap := s.heap.push (set00 w) } (.ref s.heap.objs.size) "set" := ⟨_, hS, rfl⟩
      have q4 := F.called_set.init.lookup
      have q5 := F.called_set.init.bind (.ref s.heap.objs.size)
      repeat (any_goals (first | assumption | wp_step))
      refine codeAny_mono (codeAny_call_builtin (R := wants (fun r s₂ => r = .none ∧ ∃ h' tk L es ep t, s₂ = { s with heap := h', toks := tk } ∧ SG w h' s.heap.objs.size L es ep t ∧ Had ks ks.length L ∧
          (∀ b o, s.heap.get? b = some o → h'.get? b = some o)) E) F.called_set.init.plain F.entry_set_init (check_set_init_1 hT ?_)) fun r₂ s₂ hr₂ => ?_
      · obtain ⟨ol, hol, hcl, nl, hdl⟩ := hl
        obtain ⟨ocls, odict, odata, oslots⟩ := ol
        simp only at hcl hdl
        subst hcl; subst hdl
        have hol' : (s.heap.push (set00 w)).get? l = some { cls := .type "list", dict := odict, data := .seq items nl, slots := oslots } := Heap.get?_push_of_some _ hol
        have q6 := F.sub_list_set
        have q7 := F.sub_list_frozenset
        have q8 : (Value.type "list" == Value.type "dict") = false := by decide
        have hl1 : (s.heap.push (set00 w)).IsList l items := ⟨_, hol', rfl, nl, rfl⟩
        unfold Builtin.«set.__init__» noKeywords Builtin.Frozenset.updateFrom
        generalize hPI : pyIter = PI
        wp_walk
        subst hPI
        refine wpAny_pyIter_list hl1 ?_
        refine wpAny_bind (wpAny_runValue ?_)
        have lS : l < s.heap.objs.size := Heap.lt_size hol
        have hh3 : A.in1.in1.in1.handled = none := by simp [hh]
        have z1 : (s.heap.push (set00 w)).objs.size = s.heap.objs.size + 1 := Heap.size_push ..
        have nI : l ≠ (s.heap.push (set00 w)).objs.size := by rw [z1]; exact Nat.ne_of_lt (Nat.lt_succ_of_lt lS)
        have nS : s.heap.objs.size ∉ [(s.heap.push (set00 w)).objs.size, l] := by
          rw [z1]; simp only [List.mem_cons, List.not_mem_nil, or_false, not_or]
          exact ⟨Nat.ne_of_lt (Nat.lt_succ_self _), Nat.ne_of_gt lS⟩
        have hv : ∀ (i : Nat) (v : Value), items[i]? = some v → ∃ p, ks[i]? = some p ∧ v = .ref p.2 := fun i v hv => by
          have q : items.toList[i]? = some v := by rw [Array.getElem?_toList]; exact hv
          rw [hit, List.getElem?_map] at q
          obtain ⟨p, hp, e⟩ := Option.map_eq_some_iff.1 q
          exact ⟨p, hp, e.symm⟩
        have off : ∀ b, s.heap.objs.size ≤ b → s.heap.get? b = none := fun b hb => by
          cases q : s.heap.get? b with
          | none => rfl
          | some o => exact absurd (Nat.lt_of_lt_of_le (Heap.lt_size q) hb) (Nat.lt_irrefl _)
        refine upd_turns ((Walks.list hh3 _ l nI items).toS) s.heap.objs.size nS ks isz few hv s.heap hk (off _ (Nat.le_refl _)) (fun b hb => off b (by
            rw [List.mem_singleton.mp hb, z1]; exact Nat.le_succ _)) (by simp only [Around.in1_units]; omega) (items.size - 0) 0 _ (by omega) (Nat.zero_le _)
          ⟨⟨_, Heap.get?_push_size _ rfl, rfl, rfl⟩, (hl1.push _)⟩ (fun b o e => Heap.get?_push_of_some _ (Heap.get?_push_of_some _ e)) ?first ?last
        case first =>
          have hg : ((s.heap.push (set00 w)).push { cls := .type "list_iterator", data := .fields #[.ref l, .int 0 0] }).get? s.heap.objs.size = some (set00 w) := Heap.get?_push_of_some _ hS
          exact ⟨[], #[], 0, _, sg_new hg, ⟨fun _ h => (nomatch h), fun _ h => (by simp at h), Nat.le_refl _⟩⟩
        case last =>
          intro z L es ep t mv hS' g' kp
          obtain ⟨h', g2, d2, tk, os2⟩ := z
          obtain rfl : g2 = s.gens := mv.gens
          obtain rfl : d2 = s.drawn := mv.drawn
          obtain rfl : os2 = s.os := mv.os
          show wpAny _ _ _ _ _ _
          refine wpAny_pure ?_
          show wpAny _ _ (ret Value.none) _ _ _
          rw [isz] at g'
          exact wpAny_pure ⟨rfl, h', tk, L, es, ep, t, rfl, hS', g', kp⟩
      · cases r₂ with
        | error e => exact hr₂
        | ok fl₂ =>
          cases fl₂ with
          | ret r =>
            obtain ⟨rfl, h', tk, L, es, ep, t, rfl, hS', g', hk'⟩ := hr₂
            repeat (any_goals (first | assumption | wp_step))
            exact h _ _ _ _ _ _ hS' g' hk'
          | _ => exact hr₂.elim
    | _ => exact hr.elim
/-- k in s -/
theorem inK {a : Addr} {L : List Ky} {es : Array (Int × Value)} {ep : Nat} {t : SetTable} (R : SG w s.heap a L es ep t) (kys : ∀ p ∈ L, KyA s.heap p.1 p.2) {x : Addr} {k : NestedKey} (hx : KyA s.heap k x) (hu : A.units + 20 < cLine) {Q : Bool → Shared → Prop}
    (h : Q (decide (k ∈ L.map (·.1))) { s with toks := s.toks + k.draws }) : wpAny (model P w) A (contains (.ref a) (.ref x)) Q E s := by
  have hT : s.TypeIs (.ref a) "set" := let ⟨o, ho, hc, _⟩ := R.ob; ⟨o, ho, hc.1⟩
  unfold contains
  try with_reducible refine wpAny_holding ?_
  refine wpAny_bind (wpAny_specialOf hT F.slot_set_contains.lookup ?_)
  show wpAny _ _ (if (some (Value.builtin "set.__contains__") == some Value.none) = true then _ else _) _ E s
  rw [if_neg (by rw [beq_builtin_none]; simp)]
  refine wpAny_bind (wpAny_callSpecialUnlessNone?_slot (name := Str.ofString "__contains__") hT F.slot_set_contains (wpAny_call_entry F.slot_set_contains hT entry_set_contains ?_ (F.args_set_contains_2 _ _)))
  unfold Builtin.«frozenset.__contains__» Builtin.Frozenset.oneOther
  simp only [List.isEmpty_nil, bind_assoc]
  unfold Builtin.Frozenset.addrOf Builtin.Frozenset.withSetAsKey setContains
  refine wpAny_bind (wpAny_pure ?_)
  try dsimp only
  refine wpAny_bind (wpAny_pure ?_)
  try dsimp only
  refine wpAny_bind (wpAny_tryCatch ?_)
  refine wpAny_holding ?_
  refine wpAny_bind (pyHash_key k _ _ s _ hx.1 (by have := hx.2; simp only [Around.in1_units]; omega) ?_)
  refine wpAny_bind (hasK (s := { s with toks := s.toks + k.draws }) R kys hx (by simp only [Around.in1_units]; omega) fun r hr => ?_)
  refine wpAny_pure ?_
  try dsimp only
  rw [hr]
  exact wpAny_pure ⟨_, rfl, wpAny_truthy_bool h⟩
end
end G4

/-! G61: readings and rules of sets of nested tuples. -/
namespace G4
open PySem PySem.Spec PyProof.Rows L2
/-- the set of keys at a -/
def HSx (w : World) (a : Addr) (L : List Ky) : HO := .ext fun h => ∃ L' es ep t, L'.Perm L ∧ SG w h a L' es ep t
theorem hs_new {P : Program} {w : World} {H : Hp} {h : Heap} {a : Addr} {L L' : List Ky} {es : Array (Int × Value)} {ep : Nat} {t : SetTable} (pm : L'.Perm L) (R : SG w h a L' es ep t) : ObjOk P w H h a (HSx w a L) := by
  have ⟨o, ho, _⟩ := R.ob
  refine ⟨⟨L', es, ep, t, pm, R⟩, ⟨o, ho⟩, ?_⟩
  rintro g1 g2 ⟨L1, es1, ep1, t1, p1, R1⟩ k
  exact ⟨L1, es1, ep1, t1, p1, R1.on k⟩
/-- one more key, if it is new -/
def addL (L : List Ky) (k : NestedKey) (b : Addr) : List Ky := if k ∈ L.map (·.1) then L else L ++ [(k, b)]
section
variable {X : Cx} {pins : List (Addr × Obj)} {σ : L2.St} {H : Hp} {s : Shared} {a : Addr} {L : List Ky}
theorem hs_of (I : Inv X pins σ H s) (h : H a = some (HSx X.w a L)) (kys : ∀ p ∈ L, KeyO H p.1 p.2) : ∃ L' es ep t, L'.Perm L ∧ SG X.w s.heap a L' es ep t ∧ ∀ p ∈ L', KyA s.heap p.1 p.2 := by
  obtain ⟨⟨L', es, ep, t, pm, R⟩, _⟩ := (show ObjOk X.prog X.w H s.heap a (HSx X.w a L) from I.hok a _ h)
  exact ⟨L', es, ep, t, pm, R, fun p hp => dn_is I (kys p (pm.mem_iff.mp hp))⟩
def rHIn (w : World) (neg : Bool) : R2 := fun x y H Q => ∃ (a b : Addr) (L : List Ky) (k : NestedKey), x = .ref b ∧ y = .ref a ∧ H a = some (HSx w a L) ∧ (∀ p ∈ L, KeyO H p.1 p.2) ∧ KeyO H k b ∧ Q (.bl (neg ^^ decide (k ∈ L.map (·.1)))) H
theorem op_hIn (hu : X.A.units + 65 < cLine) : OpR X (compareOp .In) (rHIn X.w false) := by
  intro pins s σ H x y v u Q I rx ry h
  obtain ⟨a, b, L, k, rfl, rfl, g, hk, ko, q⟩ := h
  cases rx
  cases ry
  obtain ⟨L', es, ep, t, pm, R, al⟩ := hs_of I g hk
  show wpAny _ _ (do return Value.bool (← contains (.ref a) (.ref b)) : Sem Value) _ _ s
  refine wpAny_bind (inK R al (dn_is I ko) (by omega) (wpAny_pure ⟨V.bl (decide (k ∈ L'.map (fun p : Ky => p.1))), H, I.tok _, rfl, ?_⟩))
  rw [show decide (k ∈ L'.map (·.1)) = decide (k ∈ L.map (·.1)) from decide_eq_decide.2 (pm.map (·.1)).mem_iff]
  simpa using q
theorem op_hNotIn (hu : X.A.units + 65 < cLine) : OpR X (compareOp .NotIn) (rHIn X.w true) := by
  intro pins s σ H x y v u Q I rx ry h
  obtain ⟨a, b, L, k, rfl, rfl, g, hk, ko, q⟩ := h
  cases rx
  cases ry
  obtain ⟨L', es, ep, t, pm, R, al⟩ := hs_of I g hk
  show wpAny _ _ (do return Value.bool (!(← contains (.ref a) (.ref b))) : Sem Value) _ _ s
  refine wpAny_bind (inK R al (dn_is I ko) (by omega) (wpAny_pure ⟨V.bl (!decide (k ∈ L'.map (fun p : Ky => p.1))), H, I.tok _, rfl, ?_⟩))
  rw [show decide (k ∈ L'.map (·.1)) = decide (k ∈ L.map (·.1)) from decide_eq_decide.2 (pm.map (·.1)).mem_iff]
  simpa using q
/-- set() -/
def rHS0 (w : World) : List V → Hp → VK → Prop := fun xs H Q => xs = [] ∧ ∀ p, H p = none → Q (.ref p) (upd H p (HSx w p []))
theorem cr_hs0 : CallR X (.type "set") (rHS0 X.w) := by
  intro pins s σ H xs us Q I r h
  obtain ⟨rfl, q⟩ := h
  cases r
  refine setR_new fun _ => ?_
  exact ⟨.ref _, upd H s.heap.objs.size (HSx X.w s.heap.objs.size []), I.laid (t' := s.toks) (fun b u e => Heap.get?_push_of_some _ e) (Nat.le_refl _) (hs_new (.refl _) (sg_new (Heap.get?_push_size _ rfl))), rfl, q _ (I.hok.fresh (Nat.le_refl _))⟩
/-- set(xs), a list of keys -/
def rHSL (K : PySem.W.Frag) (w : World) : List V → Hp → VK → Prop := fun xs H Q => ∃ (l : Addr) (ks : List Ky), xs = [V.ref l] ∧ SqL K H l (ks.map fun p => V.ref p.2) ∧ (∀ p ∈ ks, KeyO H p.1 p.2) ∧ ks.length ≤ 1200 ∧
  ∀ a L, H a = none → (∀ p ∈ L, p ∈ ks) → (∀ p ∈ ks, p.1 ∈ L.map (·.1)) → L.length ≤ ks.length → Q (.ref a) (upd H a (HSx w a L))
theorem refs_vals : ∀ {ks : List Ky} {us : List Value}, Vals (ks.map fun p => V.ref p.2) us → us = ks.map fun p => Value.ref p.2
  | [], _, .nil => rfl
  | p :: ks, _, .cons r t => by
    cases r
    rw [refs_vals t]; rfl
theorem cr_hsL (hc : X.calm = true) (hu : X.A.units + 64 < cLine) : CallR X (.type "set") (rHSL X.K X.w) := by
  intro pins s σ H xs us Q I r h
  obtain ⟨l, ks, rfl, hl, hk, hf, q⟩ := h
  rw [Vals.ref1 r]
  obtain ⟨its, rv, pl, hz⟩ := I.list hl
  have hn : H s.heap.objs.size = none := I.hok.fresh (Nat.le_refl _)
  refine call_setK (P := X.prog) (w := X.w) ks (I.ok.hd hc) pl.isList (by simpa using refs_vals rv) (fun p hp => dn_is I (hk p hp)) hf (by omega) fun h' tk L es ep t R g k => ?_
  refine ⟨.ref s.heap.objs.size, upd H s.heap.objs.size (HSx X.w s.heap.objs.size L), I.laid (t' := tk) k (Nat.le_refl _) (hs_new (.refl _) R), rfl, q _ L hn (fun p hp => List.mem_of_mem_take (g.of p hp)) (fun p hp => g.up p (by rw [List.take_length]; exact hp)) g.le⟩
/-- s.add(k) -/
def rHAdd (w : World) : V → List V → Hp → VK → Prop := fun x xs H Q => ∃ (a b : Addr) (k : NestedKey) (L : List Ky), x = V.ref a ∧ xs = [.ref b] ∧ H a = some (HSx w a L) ∧ (∀ p ∈ L, KeyO H p.1 p.2) ∧ KeyO H k b ∧ L.length < 1200 ∧ Q .non (upd H a (HSx w a (addL L k b)))
theorem mt_hadd (hu : X.A.units + 65 < cLine) : MtR X "set.add" (rHAdd X.w) := by
  intro pins s σ H x xs v us Q I rx rxs h
  obtain ⟨a, b, k, L, rfl, rfl, ha, hk, ko, room, q⟩ := h
  cases rx
  cases rxs with
  | cons ry rt =>
    cases rt
    cases ry
    obtain ⟨L', es, ep, t, pm, R, al⟩ := hs_of I ha hk
    have hT : s.TypeIs (.ref a) "set" := let ⟨o, ho, hc, _⟩ := R.ob; ⟨o, ho, hc.1⟩
    refine wpAny_call_entry F.slot_set_add hT F.entry_set_add ?_ (F.args_set_add_2 _ _)
    unfold Builtin.«set.add» Builtin.Frozenset.oneOther
    simp only [List.isEmpty_nil, bind_assoc]
    unfold Builtin.Frozenset.addrOf
    refine wpAny_bind (wpAny_pure ?_)
    try dsimp only
    refine wpAny_bind (wpAny_pure ?_)
    try dsimp only
    refine wpAny_bind ?_
    refine setAddK R al (dn_is I ko) (by simp only [Around.in1_units]; omega) (by rw [pm.length_eq]; exact room) fun bb h' L2 es2 ep2 t2 tk sb R2 c1 c2 _ => ?_
    show wpAny _ _ (ret Value.none) _ _ _
    have p2 : L2.Perm (addL L k b) := by
      unfold addL
      by_cases c : k ∈ L.map (·.1)
      · rw [if_pos c, c1 ((pm.map (·.1)).mem_iff.mpr c)]; exact pm
      · rw [if_neg c]
        exact (c2 fun z => c ((pm.map (·.1)).mem_iff.mp z)).trans ((pm.cons _).trans (List.perm_append_singleton _ _).symm)
    have he : ∃ u, h'.get? a = some u := let ⟨o, ho, _⟩ := R2.ob; ⟨o, ho⟩
    exact wpAny_pure ⟨_, rfl, .non, upd H a (HSx X.w a (addL L k b)), I.write (e := a) (t' := tk) (by rw [ha]; trivial) (.inl rfl) (fun c u hb hu => (sb.2 c hb).trans hu) he (hs_new p2 R2), rfl, q⟩
def tHAdd (w : World) (to : TE) (t : TA) : TE := fun σ H Q => to σ H fun x H1 => (∃ a L, x = V.ref a ∧ H1 a = some (HSx w a L)) ∧ t σ H1 fun xs H2 => rHAdd w x xs H2 Q
variable {o e : Expr} {es : List Expr} {to : TE} {t : TA} {apos cpos : Pos}
theorem pe_hadd (hu : X.A.units + 65 < cLine) (ho : PE X o to) (ha : PA X (e :: es) t)
    (hbase : attributeBase o "add" X.env (eval o X.env) = eval o X.env := by rfl)
    (hfew : ((backTo cpos (starEach (e :: es) X.env)).all (fun x => !x.1) && (backToKw cpos (keywordEach [] X.env)).all (fun x => x.1.isSome)
      && decide ((e :: es).length + ([] : List Keyword).length + (if ([] : List Keyword).isEmpty then 0 else 1) < 30)) = true := by rfl)
    (hline : (apos.endLine == cpos.line) = true := by rfl) (hs : starEach (e :: es) X.env = (false, eval e X.env) :: starEach es X.env := by rfl) (hplain : (backTo cpos (starEach es X.env)).any (·.1) = false := by rfl) :
    PE X (.Call (.Attribute o "add" apos) (e :: es) [] cpos) (tHAdd X.w to t) := by
  refine ⟨fun pins s σ H Q I h => ?_⟩
  refine wpAny_Call_method_late hbase hfew hline rfl (thn (ho.run pins s σ H _ I h) fun v s1 ⟨x, H1, I1, r1, ty, q1⟩ => ?_)
  obtain ⟨a, L, rfl, hka⟩ := ty
  obtain ⟨⟨L', es', ep, t', pm, R⟩, _⟩ := (show ObjOk X.prog X.w H1 s1.heap a (HSx X.w a L) from I1.hok a _ hka)
  have hT : s1.TypeIs (.ref a) "set" := let ⟨o, ho, hc, _⟩ := R.ob; ⟨o, ho, hc.1⟩
  have hD : ∀ b, Value.ref a = .ref b → ∃ ob, s1.heap.get? b = some ob ∧ ob.dict = none := fun b e => by
    injection e with e; subst e
    obtain ⟨o, ho, hc, _⟩ := R.ob
    exact ⟨o, ho, hc.2.1⟩
  cases r1
  refine ⟨"set", "set.add", F.plainAttrs_set, F.slot_set_add, F.type_set_add, hT, hD, ?_⟩
  have hA := ha.run cpos pins s1 σ H1 _ I1 q1
  rw [hs] at hA ⊢
  refine Calls.callWith_builtin (by show (false || (backTo cpos (starEach es X.env)).any (·.1)) = false; rw [hplain]; rfl) (Calls.evalArgs_plain ?_)
  exact thn hA fun us s2 ⟨vs, H2, I2, r2, q2⟩ => mt_hadd hu pins s2 σ H2 (.ref a) vs (.ref a) us Q I2 rfl r2 q2
end
end G4

/-! G1: data without addresses (D), a store of what may change (Mu), and how both lie in the abstract heap. -/
namespace G4
open PySem PySem.Spec PyProof.Rows L2

/-- what a name may hold: data that stays as it is; cell k: the k-th thing that may change -/
inductive D where
  | non | bl (b : Bool) | int (i : Int) | str (x : Str)
  | tup (xs : List D) | lst (xs : List D) | scr (xs : List D) | cell (k : Nat)
  | exn (a : Addr)

/-- what may change -/
inductive M where
  | lst (xs : List D)
  | dK (kvs : List (Key × D))
  | dT (kvs : List (List Key × D))
  | set (xs : List Int)
  | dN (kvs : List (NestedKey × Int))
  | hs (ks : List NestedKey)
  | ins (c : Str) (fs : List (Str × D))
abbrev Mu := List (Option M)
abbrev Env := List (Option D)
/-- an exception: its class by name, its fields -/
structure XD where
  cls : Str
  fs : List (Str × D)

mutual
/-- no cells within -/
def D.pure : D → Bool
  | .tup xs => pures xs
  | .lst xs => pures xs
  | .scr xs => pures xs
  | .cell _ => false
  | .exn _ => false
  | _ => true
def pures : List D → Bool
  | [] => true
  | d :: ds => d.pure && pures ds
end
mutual
/-- cells below n alone -/
def D.low (n : Nat) : D → Bool
  | .tup xs => lows n xs
  | .lst xs => lows n xs
  | .scr xs => lows n xs
  | .cell k => decide (k < n)
  | _ => true
def lows (n : Nat) : List D → Bool
  | [] => true
  | d :: ds => d.low n && lows n ds
end
mutual
theorem low_of_pure {n : Nat} : ∀ {d : D}, d.pure = true → d.low n = true
  | .non, _ => rfl
  | .bl _, _ => rfl
  | .int _, _ => rfl
  | .str _, _ => rfl
  | .exn _, _ => rfl
  | .tup xs, h => lows_of_pures (ds := xs) (by simpa [D.pure] using h)
  | .lst xs, h => lows_of_pures (ds := xs) (by simpa [D.pure] using h)
  | .scr xs, h => lows_of_pures (ds := xs) (by simpa [D.pure] using h)
  | .cell _, h => by simp [D.pure] at h
theorem lows_of_pures {n : Nat} : ∀ {ds : List D}, pures ds = true → lows n ds = true
  | [], _ => rfl
  | d :: ds, h => by
    simp only [pures, Bool.and_eq_true] at h
    simp only [lows, Bool.and_eq_true]
    exact ⟨low_of_pure h.1, lows_of_pures h.2⟩
end
theorem pures_iff {ds : List D} : pures ds = true ↔ ∀ d ∈ ds, d.pure = true := by
  induction ds with
  | nil => simp [pures]
  | cons d ds ih => simp [pures, ih]
theorem lows_iff {n : Nat} {ds : List D} : lows n ds = true ↔ ∀ d ∈ ds, d.low n = true := by
  induction ds with
  | nil => simp [lows]
  | cons d ds ih => simp [lows, ih]

def M.low (n : Nat) : M → Bool
  | .lst xs => lows n xs
  | .dK kvs => lows n (kvs.map (·.2))
  | .dT kvs => lows n (kvs.map (·.2))
  | .set _ => true
  | .dN _ => true
  | .hs _ => true
  | .ins _ fs => lows n (fs.map (·.2))
def M.pure : M → Bool
  | .lst xs => pures xs
  | .dK kvs => pures (kvs.map (·.2))
  | .dT kvs => pures (kvs.map (·.2))
  | .set _ => true
  | .dN _ => true
  | .hs _ => true
  | .ins _ fs => pures (fs.map (·.2))

/-- what is fixed: the written part, the exceptions' classes by name -/
structure Ct where
  cls : Str → Value
  tabs : Addr → Prop
  wld : World
  xds : Addr → List (Str × D) → Prop
  cods : Addr → Addr → Prop
structure Gx where
  K : PySem.W.Frag
  C : Ct
/-- where data lies: N what stays, A the cells' addresses, H the abstract heap -/
structure Hw where
  N : Addr → Prop
  A : List Addr
  H : Hp
  T : Addr → Prop
/-- a code object and its table -/
def CodeO (c P : Addr) : HO := .ext fun h => PySem.W.CodeHd h c P
/-- T: known tables and codes; the codes in a known table are known, their tables too -/
def TabO (T : Addr → Prop) (H : Hp) (a : Addr) : Prop := (∃ P, H a = some (CodeO a P)) ∨ ∃ ps : Array Value, H a = some (.tbl ps) ∧ TriplesOk ps.toList ∧ ∀ pos cv, codeAmong pos ps.toList = some cv → ∃ c' P', cv = .ref c' ∧ H c' = some (CodeO c' P') ∧ T c' ∧ T P' ∧ ∃ ps', H P' = some (.tbl ps')
def TabsOk (T : Addr → Prop) (H : Hp) : Prop := ∀ P, T P → TabO T H P

def ScrAt (K : PySem.W.Frag) (w : Hw) (a : Addr) (vs : List V) : Prop :=
  (w.N a ∧ Rd w.H a (.lst vs)) ∨ (∃ (o : Obj) (its : Array Value) (n : Nat), K.lookup a = some o ∧ o.cls = .type "list" ∧ o.dict = none ∧ o.data = .seq its n ∧ its.size ≤ sizeLine ∧ Vals vs its.toList)
theorem ScrAt.sq {K : PySem.W.Frag} {w : Hw} {a : Addr} {vs : List V} (h : ScrAt K w a vs) : SqL K w.H a vs := by
  rcases h with ⟨_, h⟩ | h
  · exact .inl h
  · exact .inr h

mutual
/-- the value v is the data d -/
def Fr (K : PySem.W.Frag) (w : Hw) : D → V → Prop
  | .non, v => v = .non
  | .bl b, v => v = .bl b
  | .int i, v => v = .int i
  | .str x, v => v = .str x
  | .tup ds, v => ∃ a vs, v = .ref a ∧ w.N a ∧ w.H a = some (.tup vs) ∧ Frs K w ds vs
  | .lst ds, v => ∃ a vs, v = .ref a ∧ w.N a ∧ w.H a = some (.lst vs) ∧ Frs K w ds vs
  | .scr ds, v => ∃ a vs, v = .ref a ∧ ScrAt K w a vs ∧ Frs K w ds vs
  | .cell k, v => ∃ a, v = .ref a ∧ w.A[k]? = some a
  | .exn a, v => v = .ref a
def Frs (K : PySem.W.Frag) (w : Hw) : List D → List V → Prop
  | [], vs => vs = []
  | d :: ds, vs => ∃ v r, vs = v :: r ∧ Fr K w d v ∧ Frs K w ds r
end

/-- known codes stay, known tables stay tables -/
def TC (T : Addr → Prop) (H H' : Hp) : Prop := ∀ a, T a → (∀ P, H a = some (CodeO a P) → H' a = some (CodeO a P)) ∧ ∀ ps, H a = some (.tbl ps) → ∃ ps', H' a = some (.tbl ps')
theorem TC.of {T : Addr → Prop} {H H' : Hp} (h : ∀ a o, T a → H a = some o → H' a = some o) : TC T H H' := fun a ha => ⟨fun P e => h a _ ha e, fun ps e => ⟨ps, h a _ ha e⟩⟩
theorem TC.refl (T : Addr → Prop) (H : Hp) : TC T H H := .of fun _ _ _ e => e
theorem TC.trans {T T1 : Addr → Prop} {H H1 H2 : Hp} (x : TC T H H1) (t : ∀ a, T a → T1 a) (y : TC T1 H1 H2) : TC T H H2 := fun a ha => ⟨fun P e => (y a (t a ha)).1 P ((x a ha).1 P e), fun ps e => by
  obtain ⟨ps1, e1⟩ := (x a ha).2 ps e
  exact (y a (t a ha)).2 ps1 e1⟩
/-- a later state -/
structure Ex (w w' : Hw) : Prop where
  le : ∀ a, w.N a → w'.N a
  pre : ∀ (k : Nat) (a : Addr), w.A[k]? = some a → w'.A[k]? = some a
  keep : ∀ a, w.N a → w'.H a = w.H a
  old : ∀ a o, w.H a = some o → a ∉ w.A → ¬ w.T a → w'.H a = some o
  new : ∀ a, a ∈ w'.A → a ∈ w.A ∨ w.H a = none
  newN : ∀ a, w'.N a → w.N a ∨ w.H a = none ∨ a ∈ w.A
  tabs : ∀ a, w.T a → w'.T a
  newT : ∀ a, w'.T a → w.T a ∨ w.H a = none
  old2 : ∀ a o, w.H a = some o → ∃ o', w'.H a = some o'
  tc : TC w.T w.H w'.H
theorem Ex.refl (w : Hw) : Ex w w := ⟨fun _ h => h, fun _ _ h => h, fun _ _ => rfl, fun _ _ h _ _ => h, fun _ h => .inl h, fun _ h => .inl h, fun _ h => h, fun _ h => .inl h, fun _ o h => ⟨o, h⟩, .refl _ _⟩
theorem Ex.trans {w w1 w2 : Hw} (x : Ex w w1) (y : Ex w1 w2) : Ex w w2 where
  le := fun a h => y.le a (x.le a h)
  pre := fun k a h => y.pre k a (x.pre k a h)
  keep := fun a h => (y.keep a (x.le a h)).trans (x.keep a h)
  old := fun a o h n m => y.old a o (x.old a o h n m) (fun hm => by
    rcases x.new a hm with z | z
    · exact n z
    · rw [h] at z; cases z) fun hm => by
    rcases x.newT a hm with z | z
    · exact m z
    · rw [h] at z; cases z
  new := fun a h => by
    rcases y.new a h with z | z
    · exact x.new a z
    · cases q : w.H a with
      | none => exact .inr rfl
      | some o =>
        obtain ⟨o', e⟩ := x.old2 a o q
        rw [e] at z; cases z
  newN := fun a h => by
    rcases y.newN a h with z | z | z
    · exact x.newN a z
    · cases q : w.H a with
      | none => exact .inr (.inl rfl)
      | some o =>
        obtain ⟨o', e⟩ := x.old2 a o q
        rw [e] at z; cases z
    · rcases x.new a z with z | z
      · exact .inr (.inr z)
      · exact .inr (.inl z)
  tabs := fun a h => y.tabs a (x.tabs a h)
  newT := fun a h => by
    rcases y.newT a h with z | z
    · exact x.newT a z
    · cases q : w.H a with
      | none => exact .inr rfl
      | some o =>
        obtain ⟨o', e⟩ := x.old2 a o q
        rw [e] at z; cases z
  old2 := fun a o h => let ⟨o', e⟩ := x.old2 a o h; y.old2 a o' e
  tc := x.tc.trans x.tabs y.tc
theorem ScrAt.mono {K : PySem.W.Frag} {w w' : Hw} {a : Addr} {vs : List V} (x : Ex w w') (h : ScrAt K w a vs) : ScrAt K w' a vs := by
  rcases h with ⟨n, h⟩ | h
  · refine .inl ⟨x.le _ n, ?_⟩
    unfold Rd
    rw [x.keep _ n]
    exact h
  · exact .inr h
mutual
theorem Fr.mono {K : PySem.W.Frag} {w w' : Hw} (x : Ex w w') : ∀ {d : D} {v : V}, Fr K w d v → Fr K w' d v
  | .non, _, h => h
  | .bl _, _, h => h
  | .int _, _, h => h
  | .str _, _, h => h
  | .tup ds, _, ⟨a, vs, e, n, h, r⟩ => ⟨a, vs, e, x.le _ n, (x.keep _ n).trans h, Frs.mono x r⟩
  | .lst ds, _, ⟨a, vs, e, n, h, r⟩ => ⟨a, vs, e, x.le _ n, (x.keep _ n).trans h, Frs.mono x r⟩
  | .scr ds, _, ⟨a, vs, e, h, r⟩ => ⟨a, vs, e, h.mono x, Frs.mono x r⟩
  | .cell k, _, ⟨a, e, h⟩ => ⟨a, e, x.pre _ _ h⟩
  | .exn _, _, h => h
theorem Frs.mono {K : PySem.W.Frag} {w w' : Hw} (x : Ex w w') : ∀ {ds : List D} {vs : List V}, Frs K w ds vs → Frs K w' ds vs
  | [], _, h => h
  | _ :: _, _, ⟨v, r, e, h, t⟩ => ⟨v, r, e, Fr.mono x h, Frs.mono x t⟩
end
mutual
/-- it leans on N, the heap there, and the cells below n alone -/
theorem Fr.cut {K : PySem.W.Frag} {w w' : Hw} {n : Nat} (hN : ∀ a, w.N a → w'.N a) (hH : ∀ a, w.N a → w'.H a = w.H a) (hA : ∀ (k : Nat) (a : Addr), k < n → w.A[k]? = some a → w'.A[k]? = some a) :
    ∀ {d : D} {v : V}, d.low n = true → Fr K w d v → Fr K w' d v
  | .non, _, _, h => h
  | .bl _, _, _, h => h
  | .int _, _, _, h => h
  | .str _, _, _, h => h
  | .tup ds, _, b, ⟨a, vs, e, n, h, r⟩ => ⟨a, vs, e, hN _ n, (hH _ n).trans h, Frs.cut hN hH hA (by simpa [D.low] using b) r⟩
  | .lst ds, _, b, ⟨a, vs, e, n, h, r⟩ => ⟨a, vs, e, hN _ n, (hH _ n).trans h, Frs.cut hN hH hA (by simpa [D.low] using b) r⟩
  | .scr ds, _, b, ⟨a, vs, e, h, r⟩ => by
    have hs : ScrAt K w' a vs := by
      rcases h with ⟨n, h⟩ | h
      · refine .inl ⟨hN _ n, ?_⟩
        unfold Rd
        rw [hH _ n]
        exact h
      · exact .inr h
    exact ⟨a, vs, e, hs, Frs.cut hN hH hA (by simpa [D.low] using b) r⟩
  | .cell k, _, b, ⟨a, e, h⟩ => ⟨a, e, hA _ _ (by simpa [D.low] using b) h⟩
  | .exn _, _, _, h => h
theorem Frs.cut {K : PySem.W.Frag} {w w' : Hw} {n : Nat} (hN : ∀ a, w.N a → w'.N a) (hH : ∀ a, w.N a → w'.H a = w.H a) (hA : ∀ (k : Nat) (a : Addr), k < n → w.A[k]? = some a → w'.A[k]? = some a) :
    ∀ {ds : List D} {vs : List V}, lows n ds = true → Frs K w ds vs → Frs K w' ds vs
  | [], _, _, h => h
  | _ :: _, _, b, ⟨v, r, e, h, t⟩ => by
    simp only [lows, Bool.and_eq_true] at b
    exact ⟨v, r, e, Fr.cut hN hH hA b.1 h, Frs.cut hN hH hA b.2 t⟩
end

/-- an exception's dict at dd holds these fields -/
def XdAt (K : PySem.W.Frag) (w : Hw) (dd : Addr) (fs : List (Str × D)) : Prop := w.N dd ∧ pures (fs.map (·.2)) = true ∧ ∃ fs' : List (Str × V), w.H dd = some (.xd fs') ∧ fs'.map (·.1) = fs.map (·.1) ∧ Frs K w (fs.map (·.2)) (fs'.map (·.2))
theorem XdAt.cut {K : PySem.W.Frag} {w w' : Hw} {dd : Addr} {fs : List (Str × D)} (hN : ∀ a, w.N a → w'.N a) (hH : ∀ a, w.N a → w'.H a = w.H a) (h : XdAt K w dd fs) : XdAt K w' dd fs := by
  obtain ⟨n, p, fs', e, m, r⟩ := h
  exact ⟨hN _ n, p, fs', (hH _ n).trans e, m, Frs.cut (n := 0) hN hH (fun k a z => absurd z (Nat.not_lt_zero k)) (lows_of_pures p) r⟩
mutual
/-- data as a key -/
def nkOf : D → Option NestedKey
  | .non => some .none
  | .int i => some (.num i)
  | .str x => some (.text x)
  | .tup xs => (nksOf xs).map .tup
  | _ => none
def nksOf : List D → Option (List NestedKey)
  | [] => some []
  | d :: ds => match nkOf d, nksOf ds with
    | some k, some ks => some (k :: ks)
    | _, _ => none
end
mutual
theorem nk_pure : ∀ {d : D} {k : NestedKey}, nkOf d = some k → d.pure = true
  | .non, _, _ => rfl
  | .int _, _, _ => rfl
  | .str _, _, _ => rfl
  | .tup xs, k, h => by
    rw [nkOf] at h
    cases hs : nksOf xs with
    | none => rw [hs] at h; cases h
    | some ks => simpa [D.pure] using nks_pure hs
  | .bl _, _, h => by simp [nkOf] at h
  | .lst _, _, h => by simp [nkOf] at h
  | .scr _, _, h => by simp [nkOf] at h
  | .cell _, _, h => by simp [nkOf] at h
  | .exn _, _, h => by simp [nkOf] at h
theorem nks_pure : ∀ {ds : List D} {ks : List NestedKey}, nksOf ds = some ks → pures ds = true
  | [], _, _ => rfl
  | d :: ds, ks, h => by
    rw [nksOf] at h
    split at h
    · rename_i k ks' h1 h2
      simp only [pures, Bool.and_eq_true]
      exact ⟨nk_pure h1, nks_pure h2⟩
    · cases h
end
mutual
theorem fr_key {K : PySem.W.Frag} {w : Hw} : ∀ {d : D} {v : V} {k : NestedKey}, Fr K w d v → nkOf d = some k → KeyH w.H k v
  | .non, v, k, f, h => by
    cases h
    exact f
  | .int _, v, k, f, h => by
    cases h
    exact f
  | .str _, v, k, f, h => by
    cases h
    exact f
  | .tup xs, v, k, ⟨a, vs, e, n, hH, r⟩, h => by
    rw [nkOf] at h
    cases hs : nksOf xs with
    | none => rw [hs] at h; cases h
    | some ks =>
      rw [hs] at h
      cases h
      exact ⟨a, vs, e, hH, frs_keys r hs⟩
  | .bl _, _, _, _, h => by simp [nkOf] at h
  | .lst _, _, _, _, h => by simp [nkOf] at h
  | .scr _, _, _, _, h => by simp [nkOf] at h
  | .cell _, _, _, _, h => by simp [nkOf] at h
  | .exn _, _, _, _, h => by simp [nkOf] at h
theorem frs_keys {K : PySem.W.Frag} {w : Hw} : ∀ {ds : List D} {vs : List V} {ks : List NestedKey}, Frs K w ds vs → nksOf ds = some ks → KeysH w.H ks vs
  | [], vs, ks, r, h => by
    cases h
    exact r
  | d :: ds, vs, ks, ⟨v, rr, e, f, t⟩, h => by
    rw [nksOf] at h
    split at h
    · rename_i k ks' h1 h2
      cases h
      exact ⟨v, rr, e, fr_key f h1, frs_keys t h2⟩
    · cases h
end
/-- the key's data stands at its place -/
def EntF (K : PySem.W.Frag) (w : Hw) (x : Ent) : Prop := ∃ d, nkOf d = some x.1 ∧ x.1.depth ≤ 8 ∧ Fr K w d (.ref x.2.1)
/-- a set of whole numbers: its members, their number -/
def SetQ (xs : List Int) (n : Nat) (S : Int → Bool) : Prop := n ≤ xs.length ∧ ∀ k, S k = decide (k ∈ xs)
/-- the k-th thing that may change, at a -/
def Mr (G : Gx) (w : Hw) (a : Addr) : M → Prop
  | .lst ds => ∃ vs, w.H a = some (.lst vs) ∧ Frs G.K w ds vs
  | .dK kvs => ∃ kvs' : List (Key × V), w.H a = some (.dK kvs') ∧ kvs'.map (·.1) = kvs.map (·.1) ∧ Frs G.K w (kvs.map (·.2)) (kvs'.map (·.2))
  | .dT kvs => ∃ kvs' : List (List Key × V), w.H a = some (.dT kvs') ∧ kvs'.map (·.1) = kvs.map (·.1) ∧ Frs G.K w (kvs.map (·.2)) (kvs'.map (·.2))
  | .set xs => ∃ (S : Int → Bool) (n : Nat), w.H a = some (SetO G.C.wld a S n) ∧ SetQ xs n S
  | .dN kvs => ∃ xs : List Ent, w.H a = some (DNx G.C.wld a xs) ∧ xs.map (fun x => (x.1, x.2.2)) = kvs ∧ ∀ x ∈ xs, EntF G.K w x
  | .hs ks => ∃ L : List Ky, w.H a = some (HSx G.C.wld a L) ∧ (∀ k, k ∈ L.map (·.1) ↔ k ∈ ks) ∧ L.length ≤ ks.length ∧ ∀ x ∈ L, EntF G.K w (x.1, x.2, 0)
  | .ins c fs => ∃ (C dx : Addr) (fs' : List (Str × V)), G.C.cls c = .ref C ∧ w.H a = some (.ins C dx fs') ∧ fs'.map (·.1) = fs.map (·.1) ∧ Frs G.K w (fs.map (·.2)) (fs'.map (·.2))
theorem Mr.cut {G : Gx} {w w' : Hw} {n : Nat} {a : Addr} (hN : ∀ a, w.N a → w'.N a) (hH : ∀ a, w.N a → w'.H a = w.H a) (hA : ∀ (k : Nat) (a : Addr), k < n → w.A[k]? = some a → w'.A[k]? = some a) (ha : w'.H a = w.H a) :
    ∀ {m : M}, m.low n = true → Mr G w a m → Mr G w' a m
  | .lst ds, b, ⟨vs, h, r⟩ => ⟨vs, ha.trans h, Frs.cut hN hH hA b r⟩
  | .dK kvs, b, ⟨kvs', h, e, r⟩ => ⟨kvs', ha.trans h, e, Frs.cut hN hH hA b r⟩
  | .dT kvs, b, ⟨kvs', h, e, r⟩ => ⟨kvs', ha.trans h, e, Frs.cut hN hH hA b r⟩
  | .set xs, b, ⟨S, n, h, r⟩ => ⟨S, n, ha.trans h, r⟩
  | .dN kvs, b, ⟨xs, h, e, r⟩ => ⟨xs, ha.trans h, e, fun x hx => let ⟨d, h1, h2, h3⟩ := r x hx; ⟨d, h1, h2, Fr.cut hN hH hA (low_of_pure (nk_pure h1)) h3⟩⟩
  | .hs ks, b, ⟨xs, h, e1, e2, r⟩ => ⟨xs, ha.trans h, e1, e2, fun x hx => let ⟨d, h1, h2, h3⟩ := r x hx; ⟨d, h1, h2, Fr.cut hN hH hA (low_of_pure (nk_pure h1)) h3⟩⟩
  | .ins c fs, b, ⟨C, dx, fs', e0, h, e, r⟩ => ⟨C, dx, fs', e0, ha.trans h, e, Frs.cut hN hH hA b r⟩
theorem Mr.mono {G : Gx} {w w' : Hw} {a : Addr} (x : Ex w w') (ha : w'.H a = w.H a) : ∀ {m : M}, Mr G w a m → Mr G w' a m
  | .lst _, ⟨vs, h, r⟩ => ⟨vs, ha.trans h, Frs.mono x r⟩
  | .dK _, ⟨kvs', h, e, r⟩ => ⟨kvs', ha.trans h, e, Frs.mono x r⟩
  | .dT _, ⟨kvs', h, e, r⟩ => ⟨kvs', ha.trans h, e, Frs.mono x r⟩
  | .set _, ⟨S, n, h, r⟩ => ⟨S, n, ha.trans h, r⟩
  | .dN _, ⟨xs, h, e, r⟩ => ⟨xs, ha.trans h, e, fun y hy => let ⟨d, h1, h2, h3⟩ := r y hy; ⟨d, h1, h2, h3.mono x⟩⟩
  | .hs _, ⟨xs, h, e1, e2, r⟩ => ⟨xs, ha.trans h, e1, e2, fun y hy => let ⟨d, h1, h2, h3⟩ := r y hy; ⟨d, h1, h2, h3.mono x⟩⟩
  | .ins _ _, ⟨C, dx, fs', e0, h, e, r⟩ => ⟨C, dx, fs', e0, ha.trans h, e, Frs.mono x r⟩

/-- the known tables and codes -/
structure Tab0 (G : Gx) (T : Addr → Prop) (H : Hp) : Prop where
  tab : ∀ a, G.C.tabs a → T a ∧ ∃ ps, H a = some (.tbl ps)
  cod : ∀ c P, G.C.cods c P → T c ∧ H c = some (CodeO c P)
/-- the store lies in the heap -/
structure Mc (G : Gx) (w : Hw) (μ : Mu) : Prop where
  len : w.A.length = μ.length
  nd : w.A.Nodup
  cell : ∀ (k : Nat) (m : M) (a : Addr), μ[k]? = some (some m) → w.A[k]? = some a → Mr G w a m ∧ ¬ w.N a
  old : ∀ a, w.N a → ∃ o, w.H a = some o
  oldA : ∀ a ∈ w.A, ∃ o, w.H a = some o
  tab : TabsOk w.T w.H
  tabN : ∀ a, w.T a → ¬ w.N a ∧ a ∉ w.A
  tab0 : Tab0 G w.T w.H
  xd0 : ∀ dd fs, G.C.xds dd fs → XdAt G.K w dd fs
theorem TabsOk.mono {T : Addr → Prop} {H H' : Hp} (h : TabsOk T H) (k : ∀ a o, T a → H a = some o → H' a = some o) : TabsOk T H' := fun a ha => by
  rcases h a ha with ⟨P, e⟩ | ⟨ps, e, t, q⟩
  · exact .inl ⟨P, k _ _ ha e⟩
  · refine .inr ⟨ps, k _ _ ha e, t, fun pos cv hc => ?_⟩
    obtain ⟨c', P', e1, e2, e3, e4, ps', e5⟩ := q pos cv hc
    exact ⟨c', P', e1, k _ _ e3 e2, e3, e4, ps', k _ _ e4 e5⟩
theorem TabO.some {T : Addr → Prop} {H : Hp} {P : Addr} (h : TabO T H P) : ∃ o, H P = some o := by
  rcases h with ⟨P, e⟩ | ⟨ps, e, _⟩
  · exact ⟨_, e⟩
  · exact ⟨_, e⟩
mutual
theorem Fr.low {K : PySem.W.Frag} {w : Hw} : ∀ {d : D} {v : V}, Fr K w d v → d.low w.A.length = true
  | .non, _, _ => rfl
  | .bl _, _, _ => rfl
  | .int _, _, _ => rfl
  | .str _, _, _ => rfl
  | .exn _, _, _ => rfl
  | .tup ds, _, ⟨_, _, _, _, _, r⟩ => by simpa [D.low] using Frs.low r
  | .lst ds, _, ⟨_, _, _, _, _, r⟩ => by simpa [D.low] using Frs.low r
  | .scr ds, _, ⟨_, _, _, _, r⟩ => by simpa [D.low] using Frs.low r
  | .cell k, _, ⟨_, _, h⟩ => by simpa [D.low] using (List.getElem?_eq_some_iff.mp h).1
theorem Frs.low {K : PySem.W.Frag} {w : Hw} : ∀ {ds : List D} {vs : List V}, Frs K w ds vs → lows w.A.length ds = true
  | [], _, _ => rfl
  | _ :: _, _, ⟨_, _, _, h, t⟩ => by simp [lows, Fr.low h, Frs.low t]
end
/-- a later state as far as frozen data and the names of cells go -/
structure Ex0 (w w' : Hw) : Prop where
  le : ∀ a, w.N a → w'.N a
  pre : ∀ (k : Nat) (a : Addr), w.A[k]? = some a → w'.A[k]? = some a
  keep : ∀ a, w.N a → w'.H a = w.H a
theorem Ex.e0 {w w' : Hw} (x : Ex w w') : Ex0 w w' := ⟨x.le, x.pre, x.keep⟩
theorem Ex0.trans {w w1 w2 : Hw} (x : Ex0 w w1) (y : Ex0 w1 w2) : Ex0 w w2 := ⟨fun a h => y.le a (x.le a h), fun k a h => y.pre k a (x.pre k a h), fun a h => (y.keep a (x.le a h)).trans (x.keep a h)⟩
theorem ScrAt.mono0 {K : PySem.W.Frag} {w w' : Hw} {a : Addr} {vs : List V} (x : Ex0 w w') (h : ScrAt K w a vs) : ScrAt K w' a vs := by
  rcases h with ⟨n, h⟩ | h
  · refine .inl ⟨x.le _ n, ?_⟩
    unfold Rd
    rw [x.keep _ n]
    exact h
  · exact .inr h
theorem Fr.mono0 {K : PySem.W.Frag} {w w' : Hw} (x : Ex0 w w') {d : D} {v : V} (h : Fr K w d v) : Fr K w' d v := Fr.cut x.le x.keep (fun k a _ e => x.pre k a e) h.low h
theorem Frs.mono0 {K : PySem.W.Frag} {w w' : Hw} (x : Ex0 w w') {ds : List D} {vs : List V} (h : Frs K w ds vs) : Frs K w' ds vs := Frs.cut x.le x.keep (fun k a _ e => x.pre k a e) h.low h
theorem Mr.low {G : Gx} {w : Hw} {a : Addr} : ∀ {m : M}, Mr G w a m → m.low w.A.length = true
  | .lst _, ⟨_, _, r⟩ => Frs.low r
  | .dK kvs, ⟨_, _, _, r⟩ => Frs.low r
  | .dT kvs, ⟨_, _, _, r⟩ => Frs.low r
  | .set _, _ => rfl
  | .dN _, _ => rfl
  | .hs _, _ => rfl
  | .ins _ _, ⟨_, _, _, _, _, _, r⟩ => Frs.low r

theorem Frs.length {K : PySem.W.Frag} {w : Hw} : ∀ {ds : List D} {vs : List V}, Frs K w ds vs → vs.length = ds.length
  | [], _, h => by subst h; rfl
  | _ :: _, _, ⟨_, _, e, _, t⟩ => by subst e; simp [Frs.length t]
theorem Frs.get {K : PySem.W.Frag} {w : Hw} : ∀ {ds : List D} {vs : List V} {i : Nat} {d : D}, Frs K w ds vs → ds[i]? = some d → ∃ v, vs[i]? = some v ∧ Fr K w d v
  | [], _, _, _, _, h => by simp at h
  | _ :: _, _, 0, d, ⟨v, r, e, h, t⟩, q => by
    subst e
    simp at q
    subst q
    exact ⟨v, rfl, h⟩
  | _ :: _, _, i + 1, d, ⟨v, r, e, h, t⟩, q => by
    subst e
    simpa using Frs.get (i := i) t (by simpa using q)
theorem Frs.append {K : PySem.W.Frag} {w : Hw} : ∀ {ds es : List D} {vs us : List V}, Frs K w ds vs → Frs K w es us → Frs K w (ds ++ es) (vs ++ us)
  | [], _, _, _, h, q => by subst h; exact q
  | _ :: _, _, _, _, ⟨v, r, e, h, t⟩, q => by subst e; exact ⟨v, _, rfl, h, Frs.append t q⟩
theorem Frs.one {K : PySem.W.Frag} {w : Hw} {d : D} {v : V} (h : Fr K w d v) : Frs K w [d] [v] := ⟨v, [], rfl, h, rfl⟩
theorem Frs.take {K : PySem.W.Frag} {w : Hw} : ∀ {ds : List D} {vs : List V} (n : Nat), Frs K w ds vs → Frs K w (ds.take n) (vs.take n)
  | [], _, n, h => by subst h; simp [Frs]
  | _ :: _, _, 0, _ => by simp [Frs]
  | _ :: _, _, n + 1, ⟨v, r, e, h, t⟩ => by subst e; exact ⟨v, _, rfl, h, Frs.take n t⟩
theorem Frs.drop {K : PySem.W.Frag} {w : Hw} : ∀ {ds : List D} {vs : List V} (n : Nat), Frs K w ds vs → Frs K w (ds.drop n) (vs.drop n)
  | [], _, n, h => by subst h; simp [Frs]
  | _ :: _, _, 0, h => by simpa using h
  | _ :: _, _, n + 1, ⟨v, r, e, h, t⟩ => by subst e; simpa using Frs.drop n t
theorem Frs.set {K : PySem.W.Frag} {w : Hw} {d : D} {v : V} (q : Fr K w d v) : ∀ {ds : List D} {vs : List V} (i : Nat), Frs K w ds vs → Frs K w (ds.set i d) (vs.set i v)
  | [], _, n, h => by subst h; simp [Frs]
  | _ :: _, _, 0, ⟨u, r, e, h, t⟩ => by subst e; exact ⟨v, r, rfl, q, t⟩
  | _ :: _, _, n + 1, ⟨u, r, e, h, t⟩ => by subst e; exact ⟨u, _, rfl, h, Frs.set q n t⟩
theorem Frs.reverse {K : PySem.W.Frag} {w : Hw} : ∀ {ds : List D} {vs : List V}, Frs K w ds vs → Frs K w ds.reverse vs.reverse
  | [], _, h => by subst h; simp [Frs]
  | _ :: _, _, ⟨v, r, e, h, t⟩ => by
    subst e
    rw [List.reverse_cons, List.reverse_cons]
    exact Frs.append (Frs.reverse t) (Frs.one h)
theorem Frs.mem {K : PySem.W.Frag} {w : Hw} {ds : List D} {vs : List V} (h : Frs K w ds vs) {i : Nat} {v : V} (e : vs[i]? = some v) : ∃ d, ds[i]? = some d ∧ Fr K w d v := by
  have hl := h.length
  have hi := (List.getElem?_eq_some_iff.mp e).1
  have hi' : i < ds.length := by omega
  obtain ⟨v', e', r⟩ := h.get (List.getElem?_eq_getElem hi')
  rw [e] at e'
  cases e'
  exact ⟨_, List.getElem?_eq_getElem hi', r⟩

/-! ### the four steps -/
section
variable {G : Gx} {w : Hw} {μ : Mu} {p : Addr} {o : HO}
theorem nodup_get {α : Type} {l : List α} (h : l.Nodup) {i j : Nat} {a : α} (x : l[i]? = some a) (y : l[j]? = some a) : i = j := by
  obtain ⟨h1, e1⟩ := List.getElem?_eq_some_iff.mp x
  obtain ⟨h2, e2⟩ := List.getElem?_eq_some_iff.mp y
  exact (List.getElem_inj h).mp (e1.trans e2.symm)
def Hw.fz (w : Hw) (p : Addr) (o : HO) : Hw := ⟨fun a => w.N a ∨ a = p, w.A, upd w.H p o, w.T⟩
def Hw.mk' (w : Hw) (p : Addr) (o : HO) : Hw := ⟨w.N, w.A ++ [p], upd w.H p o, w.T⟩
def Hw.wr (w : Hw) (p : Addr) (o : HO) : Hw := ⟨w.N, w.A, upd w.H p o, w.T⟩
def Hw.kill (w : Hw) (p : Addr) : Hw := ⟨fun a => w.N a ∨ a = p, w.A, w.H, w.T⟩
theorem upd_some {H : Hp} {p a : Addr} {o u : HO} (h : H a = some u) : ∃ o', upd H p o a = some o' := by
  by_cases e : a = p
  · exact ⟨o, by rw [e]; exact upd_same⟩
  · exact ⟨u, (upd_ne e).trans h⟩
theorem Mc.tabNew (c : Mc G w μ) (hp : w.H p = none) : TabsOk w.T (upd w.H p o) ∧ ¬ w.T p := ⟨c.tab.mono fun a u _ e => (upd_ne (ne_of_none e hp)).trans e, fun z => by obtain ⟨u, e⟩ := (c.tab p z).some; rw [hp] at e; cases e⟩
theorem Tab0.upd_ {T : Addr → Prop} {H : Hp} (c : Tab0 G T H) (h : ∀ a u, T a → H a = some u → a ≠ p) : Tab0 G T (upd H p o) := ⟨fun a ha => by
  obtain ⟨h1, ps, h2⟩ := c.tab a ha
  exact ⟨h1, ps, (upd_ne (h a _ h1 h2)).trans h2⟩, fun a P ha => by
  obtain ⟨h1, h2⟩ := c.cod a P ha
  exact ⟨h1, (upd_ne (h a _ h1 h2)).trans h2⟩⟩
theorem Mc.tab0New (c : Mc G w μ) (hp : w.H p = none) : Tab0 G w.T (upd w.H p o) := c.tab0.upd_ fun a u _ e => ne_of_none e hp
theorem Mc.tabWr (c : Mc G w μ) (hp : ¬ w.T p) : TabsOk w.T (upd w.H p o) ∧ Tab0 G w.T (upd w.H p o) :=
  ⟨c.tab.mono fun a u ha e => (upd_ne (fun z : a = p => hp (z ▸ ha))).trans e, c.tab0.upd_ fun a u ha _ z => hp (z ▸ ha)⟩
theorem nne (hp : w.H p = none) {a : Addr} {u : HO} (h : w.H a = some u) : a ≠ p := ne_of_none h hp
/-- new, and stays -/
theorem Ex.fz (c : Mc G w μ) (hp : w.H p = none) : Ex w (w.fz p o) := by
  refine ⟨fun a h => .inl h, fun _ _ h => h, fun a h => ?_, fun a u h _ _ => ?_, fun a h => .inl h, fun a h => ?_, fun _ h => h, fun _ h => .inl h, fun a u h => upd_some h, TC.of fun a u _ e => (upd_ne (ne_of_none e hp)).trans e⟩
  · obtain ⟨u, e⟩ := c.old a h
    exact upd_ne (nne hp e)
  · exact (upd_ne (nne hp h)).trans h
  · rcases h with h | h
    · exact .inl h
    · subst h; exact .inr (.inl hp)
theorem Mc.fz (c : Mc G w μ) (hp : w.H p = none) : Mc G (w.fz p o) μ := by
  have x : Ex w (w.fz p o) := .fz c hp
  obtain ⟨tb, nT⟩ := c.tabNew (o := o) hp
  refine ⟨c.len, c.nd, fun k m a hm ha => ?_, fun a h => ?_, fun a h => ?_, tb, fun a ha => ⟨fun z => ?_, (c.tabN a ha).2⟩, c.tab0New hp, fun a f z => (c.xd0 a f z).cut x.le x.keep⟩
  · obtain ⟨r, n⟩ := c.cell k m a hm ha
    obtain ⟨u, e⟩ := c.oldA a (List.mem_of_getElem? ha)
    refine ⟨r.mono x (upd_ne (nne hp e)), fun z => ?_⟩
    rcases z with z | z
    · exact n z
    · exact nne hp e z
  · rcases h with h | h
    · obtain ⟨u, e⟩ := c.old a h
      exact ⟨u, (upd_ne (nne hp e)).trans e⟩
    · subst h
      exact ⟨o, upd_same⟩
  · obtain ⟨u, e⟩ := c.oldA a h
    exact ⟨u, (upd_ne (nne hp e)).trans e⟩
  · rcases z with z | z
    · exact (c.tabN a ha).1 z
    · exact nT (z ▸ ha)
/-- new, and may change -/
theorem Ex.mk' (c : Mc G w μ) (hp : w.H p = none) : Ex w (w.mk' p o) := by
  refine ⟨fun a h => h, fun k a h => ?_, fun a h => ?_, fun a u h _ _ => (upd_ne (nne hp h)).trans h, fun a h => ?_, fun a h => .inl h, fun _ h => h, fun _ h => .inl h, fun a u h => upd_some h, TC.of fun a u _ e => (upd_ne (ne_of_none e hp)).trans e⟩
  · show (w.A ++ [p])[k]? = some a
    rw [List.getElem?_append_left (List.getElem?_eq_some_iff.mp h).1]
    exact h
  · obtain ⟨u, e⟩ := c.old a h
    exact upd_ne (nne hp e)
  · rcases List.mem_append.mp h with h | h
    · exact .inl h
    · have : a = p := by simpa using h
      subst this
      exact .inr hp
theorem Mc.mk' {m : M} (c : Mc G w μ) (hp : w.H p = none) (r : Mr G (w.mk' p o) p m) : Mc G (w.mk' p o) (μ ++ [some m]) := by
  have x : Ex w (w.mk' p o) := .mk' c hp
  obtain ⟨tb, nT⟩ := c.tabNew (o := o) hp
  refine ⟨?_, ?_, fun k m' a hm ha => ?_, fun a h => ?_, fun a h => ?_, tb, fun a ha => ⟨(c.tabN a ha).1, fun z => ?_⟩, c.tab0New hp, fun a f z => (c.xd0 a f z).cut x.le x.keep⟩
  · show (w.A ++ [p]).length = _
    simp [c.len]
  · show (w.A ++ [p]).Nodup
    refine List.nodup_append.mpr ⟨c.nd, by simp, fun a ha b hb => ?_⟩
    have : b = p := by simpa using hb
    subst this
    obtain ⟨u, e⟩ := c.oldA a ha
    exact nne hp e
  · have ha : (w.A ++ [p])[k]? = some a := ha
    by_cases hk : k < μ.length
    · rw [List.getElem?_append_left hk] at hm
      rw [List.getElem?_append_left (by rw [c.len]; exact hk)] at ha
      obtain ⟨r', n⟩ := c.cell k m' a hm ha
      obtain ⟨u, e⟩ := c.oldA a (List.mem_of_getElem? ha)
      exact ⟨r'.mono x (upd_ne (nne hp e)), n⟩
    · have hk2 : k < μ.length + 1 := by simpa using (List.getElem?_eq_some_iff.mp hm).1
      have ek : k = μ.length := by omega
      subst ek
      rw [← c.len] at ha
      simp at hm ha
      subst hm ha
      exact ⟨r, fun z => by obtain ⟨u, e⟩ := c.old _ z; rw [hp] at e; cases e⟩
  · obtain ⟨u, e⟩ := c.old a h
    exact ⟨u, (upd_ne (nne hp e)).trans e⟩
  · rcases List.mem_append.mp h with h | h
    · obtain ⟨u, e⟩ := c.oldA a h
      exact ⟨u, (upd_ne (nne hp e)).trans e⟩
    · have : a = p := by simpa using h
      subst this
      exact ⟨o, upd_same⟩
  · rcases List.mem_append.mp z with z | z
    · exact (c.tabN a ha).2 z
    · have : a = p := by simpa using z
      exact nT (this ▸ ha)
/-- written -/
theorem Ex.wr {k : Nat} {m : M} (c : Mc G w μ) (hm : μ[k]? = some (some m)) (ha : w.A[k]? = some p) : Ex w (w.wr p o) := by
  obtain ⟨_, n⟩ := c.cell k m p hm ha
  refine ⟨fun a h => h, fun k a h => h, fun a h => upd_ne fun z => n (z ▸ h), fun a u h na _ => ?_, fun a h => .inl h, fun a h => .inl h, fun _ h => h, fun _ h => .inl h, fun a u h => upd_some h, TC.of fun a u ht e => (upd_ne fun z => (c.tabN a ht).2 (by rw [z]; exact List.mem_of_getElem? ha)).trans e⟩
  exact (upd_ne fun z => na (by rw [z]; exact List.mem_of_getElem? ha)).trans h
theorem Mc.wr {k : Nat} {m m' : M} (c : Mc G w μ) (hm : μ[k]? = some (some m)) (ha : w.A[k]? = some p) (r : Mr G (w.wr p o) p m') : Mc G (w.wr p o) (μ.set k (some m')) := by
  have x : Ex w (w.wr p o) := .wr c hm ha
  obtain ⟨tb, tb0⟩ := c.tabWr (o := o) fun z => (c.tabN p z).2 (List.mem_of_getElem? ha)
  refine ⟨?_, c.nd, fun j m2 a hm2 ha2 => ?_, fun a h => ?_, fun a h => ?_, tb, c.tabN, tb0, fun a f z => (c.xd0 a f z).cut x.le x.keep⟩
  · show w.A.length = _
    rw [List.length_set]
    exact c.len
  · have ha2 : w.A[j]? = some a := ha2
    by_cases hj : j = k
    · subst hj
      rw [ha] at ha2
      cases ha2
      have hlt : j < μ.length := (List.getElem?_eq_some_iff.mp hm).1
      rw [List.getElem?_set_self hlt] at hm2
      cases hm2
      exact ⟨r, (c.cell j m p hm ha).2⟩
    · rw [List.getElem?_set_ne (Ne.symm hj)] at hm2
      obtain ⟨r2, n2⟩ := c.cell j m2 a hm2 ha2
      have hne : a ≠ p := fun z => hj (nodup_get c.nd ha2 (z ▸ ha))
      exact ⟨r2.mono x (upd_ne hne), n2⟩
  · obtain ⟨u, e⟩ := c.old a h
    by_cases hp : a = p
    · exact ⟨o, by rw [hp]; exact upd_same⟩
    · exact ⟨u, (upd_ne hp).trans e⟩
  · obtain ⟨u, e⟩ := c.oldA a h
    by_cases hp : a = p
    · exact ⟨o, by rw [hp]; exact upd_same⟩
    · exact ⟨u, (upd_ne hp).trans e⟩
/-- it may change no more -/
theorem Ex.kill {k : Nat} (ha : w.A[k]? = some p) : Ex w (w.kill p) := ⟨fun _ h => .inl h, fun _ _ h => h, fun _ _ => rfl, fun _ _ h _ _ => h, fun _ h => .inl h, fun a h => by
  rcases h with h | h
  · exact .inl h
  · subst h; exact .inr (.inr (List.mem_of_getElem? ha)), fun _ h => h, fun _ h => .inl h, fun _ o h => ⟨o, h⟩, .refl _ _⟩
theorem Mc.kill {k : Nat} {m : M} (c : Mc G w μ) (hm : μ[k]? = some (some m)) (ha : w.A[k]? = some p) : Mc G (w.kill p) (μ.set k none) := by
  have x := Ex.kill ha
  refine ⟨?_, c.nd, fun j m2 a hm2 ha2 => ?_, fun a h => ?_, c.oldA, c.tab, fun a h => ⟨fun z => ?_, (c.tabN a h).2⟩, c.tab0, fun a f z => (c.xd0 a f z).cut x.le x.keep⟩
  · show w.A.length = _
    rw [List.length_set]
    exact c.len
  · have ha2 : w.A[j]? = some a := ha2
    by_cases hj : j = k
    · subst hj
      have hlt : j < μ.length := (List.getElem?_eq_some_iff.mp hm).1
      rw [List.getElem?_set_self hlt] at hm2
      cases hm2
    · rw [List.getElem?_set_ne (Ne.symm hj)] at hm2
      obtain ⟨r2, n2⟩ := c.cell j m2 a hm2 ha2
      refine ⟨r2.mono x rfl, fun z => ?_⟩
      rcases z with z | z
      · exact n2 z
      · exact hj (nodup_get c.nd ha2 (z ▸ ha))
  · rcases h with h | h
    · exact c.old a h
    · subst h
      exact c.oldA a (List.mem_of_getElem? ha)
  · rcases z with z | z
    · exact (c.tabN a h).1 z
    · exact (c.tabN a h).2 (z ▸ List.mem_of_getElem? ha)

/-! ### an object that is known to none yet -/
structure Hid (w : Hw) (p : Addr) (o : HO) : Prop where
  at_ : w.H p = some o
  nA : p ∉ w.A
  nN : ¬ w.N p
  nT : ¬ w.T p
theorem Hid.new (c : Mc G w μ) (hp : w.H p = none) : Ex w (w.wr p o) ∧ Mc G (w.wr p o) μ ∧ Hid (w.wr p o) p o := by
  have x : Ex w (w.wr p o) := ⟨fun _ h => h, fun _ _ h => h, fun b hb => by obtain ⟨u, e⟩ := c.old b hb; exact upd_ne (nne hp e), fun b u e _ _ => (upd_ne (nne hp e)).trans e, fun _ h => .inl h, fun _ h => .inl h, fun _ h => h, fun _ h => .inl h, fun a u h => upd_some h, TC.of fun a u _ e => (upd_ne (ne_of_none e hp)).trans e⟩
  obtain ⟨tb, nT⟩ := c.tabNew (o := o) hp
  refine ⟨x, ⟨c.len, c.nd, fun k m a hm ha => ?_, fun a h => ?_, fun a h => ?_, tb, c.tabN, c.tab0New hp, fun a f z => (c.xd0 a f z).cut x.le x.keep⟩, ⟨upd_same, fun hm => ?_, fun hm => ?_, nT⟩⟩
  · obtain ⟨q, n⟩ := c.cell k m a hm ha
    obtain ⟨u, e⟩ := c.oldA a (List.mem_of_getElem? ha)
    exact ⟨q.mono x (upd_ne (nne hp e)), n⟩
  · obtain ⟨u, e⟩ := c.old a h
    exact ⟨u, (upd_ne (nne hp e)).trans e⟩
  · obtain ⟨u, e⟩ := c.oldA a h
    exact ⟨u, (upd_ne (nne hp e)).trans e⟩
  · obtain ⟨u, e⟩ := c.oldA p hm
    rw [hp] at e; cases e
  · obtain ⟨u, e⟩ := c.old p hm
    rw [hp] at e; cases e
theorem Hid.ex {w' : Hw} (h : Hid w p o) (x : Ex w w') : Hid w' p o := by
  refine ⟨x.old p o h.at_ h.nA h.nT, fun hm => ?_, fun hm => ?_, fun hm => ?_⟩
  · rcases x.new p hm with z | z
    · exact h.nA z
    · rw [h.at_] at z; cases z
  · rcases x.newN p hm with z | z | z
    · exact h.nN z
    · rw [h.at_] at z; cases z
    · exact h.nA z
  · rcases x.newT p hm with z | z
    · exact h.nT z
    · rw [h.at_] at z; cases z
/-- written -/
theorem Hid.wr {w0 : Hw} {μ0 : Mu} {o' : HO} (c0 : Mc G w0 μ0) (hp : w0.H p = none) (x0 : Ex w0 w) (h : Hid w p o) (c : Mc G w μ) : Ex w0 (w.wr p o') ∧ Mc G (w.wr p o') μ ∧ Hid (w.wr p o') p o' ∧ ∀ {ds : List D} {vs : List V}, Frs G.K w ds vs → Frs G.K (w.wr p o') ds vs := by
  have neN : ∀ a, w.N a → a ≠ p := fun a ha z => h.nN (z ▸ ha)
  have neA : ∀ a, a ∈ w.A → a ≠ p := fun a ha z => h.nA (z ▸ ha)
  have fr : ∀ {ds : List D} {vs : List V}, Frs G.K w ds vs → Frs G.K (w.wr p o') ds vs := fun {ds vs} r =>
    Frs.cut (w := w) (w' := w.wr p o') (n := w.A.length) (fun _ z => z) (fun a ha => upd_ne (neN a ha)) (fun _ _ _ z => z) r.low r
  refine ⟨⟨x0.le, x0.pre, fun a ha => (upd_ne (neN a (x0.le a ha))).trans (x0.keep a ha), fun a u e na nt => (upd_ne (nne hp e)).trans (x0.old a u e na nt), x0.new, x0.newN, x0.tabs, x0.newT, fun a u e => let ⟨o2, e2⟩ := x0.old2 a u e; upd_some e2, x0.tc.trans x0.tabs (TC.of fun a u ht e => (upd_ne fun z : a = p => h.nT (z ▸ ht)).trans e)⟩, ⟨c.len, c.nd, fun k m a hm ha => ?_, fun a ha => ?_, fun a ha => ?_, (c.tabWr h.nT).1, c.tabN, (c.tabWr h.nT).2, fun a f z => XdAt.cut (w := w) (w' := w.wr p o') (fun _ z => z) (fun a ha => upd_ne (neN a ha)) (c.xd0 a f z)⟩, ⟨upd_same, h.nA, h.nN, h.nT⟩, fr⟩
  · obtain ⟨q, n⟩ := c.cell k m a hm ha
    exact ⟨Mr.cut (w := w) (w' := w.wr p o') (n := w.A.length) (fun _ z => z) (fun a ha => upd_ne (neN a ha)) (fun _ _ _ z => z) (upd_ne (neA a (List.mem_of_getElem? ha))) q.low q, n⟩
  · obtain ⟨u, e⟩ := c.old a ha
    exact ⟨u, (upd_ne (neN a ha)).trans e⟩
  · obtain ⟨u, e⟩ := c.oldA a ha
    exact ⟨u, (upd_ne (neA a ha)).trans e⟩
/-- from now on it stays -/
theorem Hid.stays {w0 : Hw} (hp : w0.H p = none) (x0 : Ex w0 w) (h : Hid w p o) (c : Mc G w μ) : Ex w0 (w.kill p) ∧ Mc G (w.kill p) μ ∧ ∀ {ds : List D} {vs : List V}, Frs G.K w ds vs → Frs G.K (w.kill p) ds vs := by
  have fr : ∀ {ds : List D} {vs : List V}, Frs G.K w ds vs → Frs G.K (w.kill p) ds vs := fun {ds vs} r =>
    Frs.cut (w := w) (w' := w.kill p) (n := w.A.length) (fun _ z => .inl z) (fun _ _ => rfl) (fun _ _ _ z => z) r.low r
  refine ⟨⟨fun a ha => .inl (x0.le a ha), x0.pre, x0.keep, x0.old, x0.new, fun a ha => ?_, x0.tabs, x0.newT, x0.old2, x0.tc⟩, ⟨c.len, c.nd, fun k m a hm ha => ?_, fun a ha => ?_, c.oldA, c.tab, fun a ha => ⟨fun z => ?_, (c.tabN a ha).2⟩, c.tab0, fun a f z => XdAt.cut (w := w) (w' := w.kill p) (fun _ z => .inl z) (fun _ _ => rfl) (c.xd0 a f z)⟩, fr⟩
  · rcases ha with ha | ha
    · exact x0.newN a ha
    · subst ha; exact .inr (.inl hp)
  · obtain ⟨q, n⟩ := c.cell k m a hm ha
    refine ⟨Mr.cut (w := w) (w' := w.kill p) (n := w.A.length) (fun _ z => .inl z) (fun _ _ => rfl) (fun _ _ _ z => z) rfl q.low q, fun z => ?_⟩
    rcases z with z | z
    · exact n z
    · subst z; exact h.nA (List.mem_of_getElem? ha)
  · rcases ha with ha | ha
    · exact c.old a ha
    · subst ha; exact ⟨o, h.at_⟩
  · rcases z with z | z
    · exact (c.tabN a ha).1 z
    · exact h.nT (z ▸ ha)
def Hw.cel (w : Hw) (p : Addr) : Hw := ⟨w.N, w.A ++ [p], w.H, w.T⟩
/-- from now on it is a cell -/
theorem Hid.cel {w0 : Hw} {m : M} (hp : w0.H p = none) (x0 : Ex w0 w) (h : Hid w p o) (c : Mc G w μ) (r : Mr G w p m) : Ex w0 (w.cel p) ∧ Mc G (w.cel p) (μ ++ [some m]) ∧ (w.cel p).A[μ.length]? = some p := by
  have pre : ∀ (k : Nat) (a : Addr), w.A[k]? = some a → (w.A ++ [p])[k]? = some a := fun k a e => by
    rw [List.getElem?_append_left (List.getElem?_eq_some_iff.mp e).1]
    exact e
  have last : (w.A ++ [p])[μ.length]? = some p := by rw [← c.len]; simp
  refine ⟨⟨x0.le, fun k a e => pre k a (x0.pre k a e), x0.keep, x0.old, fun a ha => ?_, x0.newN, x0.tabs, x0.newT, x0.old2, x0.tc⟩, ⟨?_, ?_, fun k m' a hm ha => ?_, c.old, fun a ha => ?_, c.tab, fun a ha => ⟨(c.tabN a ha).1, fun z => ?_⟩, c.tab0, fun a f z => XdAt.cut (w := w) (w' := w.cel p) (fun _ z => z) (fun _ _ => rfl) (c.xd0 a f z)⟩, last⟩
  · rcases List.mem_append.mp ha with ha | ha
    · exact x0.new a ha
    · have : a = p := by simpa using ha
      subst this; exact .inr hp
  · show (w.A ++ [p]).length = _
    simp [c.len]
  · show (w.A ++ [p]).Nodup
    refine List.nodup_append.mpr ⟨c.nd, by simp, fun a ha b hb => ?_⟩
    have : b = p := by simpa using hb
    subst this
    exact fun z => h.nA (z ▸ ha)
  · have ha : (w.A ++ [p])[k]? = some a := ha
    have cut : ∀ {m : M}, Mr G w a m → Mr G (w.cel p) a m := fun {m} q => Mr.cut (w := w) (w' := w.cel p) (n := w.A.length) (fun _ z => z) (fun _ _ => rfl) (fun k a _ z => pre k a z) rfl q.low q
    by_cases hk : k < μ.length
    · rw [List.getElem?_append_left hk] at hm
      rw [List.getElem?_append_left (by rw [c.len]; exact hk)] at ha
      obtain ⟨r', n⟩ := c.cell k m' a hm ha
      exact ⟨cut r', n⟩
    · have hk2 : k < μ.length + 1 := by simpa using (List.getElem?_eq_some_iff.mp hm).1
      have ek : k = μ.length := by omega
      subst ek
      rw [last] at ha
      cases ha
      simp at hm
      subst hm
      exact ⟨cut r, h.nN⟩
  · rcases List.mem_append.mp ha with ha | ha
    · exact c.oldA a ha
    · have : a = p := by simpa using ha
      subst this; exact ⟨o, h.at_⟩
  · rcases List.mem_append.mp z with z | z
    · exact (c.tabN a ha).2 z
    · have : a = p := by simpa using z
      exact h.nT (this ▸ ha)
end
end G4

/-! G2: what an expression yields, on data alone; how this stands for the reading. -/
namespace G4
open PySem PySem.Spec PyProof.Rows L2

inductive Rs (α : Type) where
  | ok (a : α) (μ : Mu)
  | exc (x : XD) (μ : Mu)
abbrev Ro (α : Type) := Option (Rs α)
abbrev Ev (α : Type) := Env → Mu → Ro α
def Ro.bnd {α β : Type} (r : Ro α) (g : α → Mu → Ro β) : Ro β := match r with
  | some (.ok a μ) => g a μ
  | some (.exc x μ) => some (.exc x μ)
  | none => none
theorem Ro.bnd_ok {α β : Type} (a : α) (μ : Mu) (g : α → Mu → Ro β) : Ro.bnd (some (.ok a μ)) g = g a μ := rfl
theorem Ro.bnd_none {α β : Type} (g : α → Mu → Ro β) : Ro.bnd (none : Ro α) g = none := rfl
theorem Ro.bnd_exc {α β : Type} (x : XD) (μ : Mu) (g : α → Mu → Ro β) : Ro.bnd (some (.exc x μ) : Ro α) g = some (.exc x μ) := rfl
theorem Ro.bnd_some {α β : Type} {r : Ro α} {g : α → Mu → Ro β} {q : Rs β} (h : Ro.bnd r g = some q) :
    (∃ a μ, r = some (.ok a μ) ∧ g a μ = some q) ∨ (∃ x μ, r = some (.exc x μ) ∧ q = .exc x μ) := by
  cases r with
  | none => cases h
  | some r =>
    cases r with
    | ok a μ => exact .inl ⟨a, μ, rfl, h⟩
    | exc x μ => cases h; exact .inr ⟨x, μ, rfl, rfl⟩

/-- the names' values -/
structure Vr (K : PySem.W.Frag) (w : Hw) (ρ : Env) (σ : L2.St) : Prop where
  len : σ.length = ρ.length
  at_ : ∀ (i : Nat) (d : D), ρ[i]? = some (some d) → ∃ v, σ[i]? = some (some v) ∧ Fr K w d v
theorem Vr.mono {K : PySem.W.Frag} {w w' : Hw} {ρ : Env} {σ : L2.St} (x : Ex w w') (h : Vr K w ρ σ) : Vr K w' ρ σ :=
  ⟨h.len, fun i d e => let ⟨v, e2, r⟩ := h.at_ i d e; ⟨v, e2, r.mono x⟩⟩
theorem Vr.set {K : PySem.W.Frag} {w : Hw} {ρ : Env} {σ : L2.St} {d : D} {v : V} (h : Vr K w ρ σ) (r : Fr K w d v) (i : Nat) : Vr K w (ρ.set i (some d)) (σ.set i (some v)) := by
  refine ⟨by simp [h.len], fun j e q => ?_⟩
  by_cases hj : j = i
  · subst hj
    have hl : j < ρ.length := by simpa using (List.getElem?_eq_some_iff.mp q).1
    rw [List.getElem?_set_self hl] at q
    cases q
    exact ⟨v, List.getElem?_set_self (by rw [h.len]; exact hl), r⟩
  · rw [List.getElem?_set_ne (Ne.symm hj)] at q
    rw [List.getElem?_set_ne (Ne.symm hj)]
    exact h.at_ j e q
/-- an exception -/
def Xr (G : Gx) (w : Hw) (x : XD) (cls : Value) (dx : Option Addr) : Prop :=
  cls = G.C.cls x.cls ∧ match x.fs with
  | [] => dx = none
  | fs => ∃ (a : Addr) (fs' : List (Str × V)), dx = some a ∧ w.N a ∧ w.H a = some (.xd fs') ∧ fs'.map (·.1) = fs.map (·.1) ∧ Frs G.K w (fs.map (·.2)) (fs'.map (·.2))

/-- the cells below n bear nothing above -/
def Lo (n : Nat) (μ : Mu) : Prop := ∀ (k : Nat) (m : M), k < n → μ[k]? = some (some m) → m.low n = true
structure Kp (n0 : Nat) (μ μ' : Mu) : Prop where
  len : μ.length ≤ μ'.length
  lo : ∀ n, n ≤ n0 → Lo n μ → Lo n μ'
theorem Kp.refl (n0 : Nat) (μ : Mu) : Kp n0 μ μ := ⟨Nat.le_refl _, fun _ _ h => h⟩
theorem Kp.trans {n0 : Nat} {μ μ1 μ2 : Mu} (x : Kp n0 μ μ1) (y : Kp n0 μ1 μ2) : Kp n0 μ μ2 := ⟨Nat.le_trans x.len y.len, fun n h l => y.lo n h (x.lo n h l)⟩
theorem Kp.mono {n0 n1 : Nat} {μ μ' : Mu} (x : Kp n1 μ μ') (h : n0 ≤ n1) : Kp n0 μ μ' := ⟨x.len, fun n hn l => x.lo n (Nat.le_trans hn h) l⟩
theorem Kp.push {n0 : Nat} {μ : Mu} (h : n0 ≤ μ.length) (m : Option M) : Kp n0 μ (μ ++ [m]) := by
  refine ⟨by simp, fun n hn l k m' hk e => ?_⟩
  rw [List.getElem?_append_left (by omega)] at e
  exact l k m' hk e
theorem Kp.kill {n0 : Nat} {μ : Mu} (k : Nat) : Kp n0 μ (μ.set k none) := by
  refine ⟨by simp, fun n hn l j m' hj e => ?_⟩
  by_cases h : j = k
  · subst h
    rw [List.getElem?_set] at e
    simp at e
  · rw [List.getElem?_set_ne (Ne.symm h)] at e
    exact l j m' hj e
/-- into a cell that is not one's own goes pure data alone -/
theorem Kp.wr {n0 k : Nat} {μ : Mu} {m : M} (h : ∀ n, n ≤ n0 → k < n → Lo n μ → m.low n = true) : Kp n0 μ (μ.set k (some m)) := by
  refine ⟨by simp, fun n hn l j m' hj e => ?_⟩
  by_cases hjk : j = k
  · subst hjk
    rw [List.getElem?_set] at e
    simp at e
    obtain ⟨_, e⟩ := e
    subst e
    exact h n hn hj l
  · rw [List.getElem?_set_ne (Ne.symm hjk)] at e
    exact l j m' hj e

/-- what stands behind a step -/
structure Post (G : Gx) (n0 : Nat) (w : Hw) (μ : Mu) (w' : Hw) (μ' : Mu) : Prop where
  ex : Ex w w'
  mc : Mc G w' μ'
  kp : Kp n0 μ μ'
theorem Post.refl {G : Gx} {n0 : Nat} {w : Hw} {μ : Mu} (c : Mc G w μ) : Post G n0 w μ w μ := ⟨.refl w, c, .refl _ _⟩
theorem Post.trans {G : Gx} {n0 : Nat} {w w1 w2 : Hw} {μ μ1 μ2 : Mu} (x : Post G n0 w μ w1 μ1) (y : Post G n0 w1 μ1 w2 μ2) : Post G n0 w μ w2 μ2 := ⟨x.ex.trans y.ex, y.mc, x.kp.trans y.kp⟩

section
variable (G : Gx) (n0 : Nat) (W : WX)
def FinX {β ν : Type} (R : Hw → β → ν → Prop) (w : Hw) (μ : Mu) (σ : L2.St) (Q : ν → Hp → Prop) : Rs β → Prop
  | .ok b μ' => ∀ w' v, Post G n0 w μ w' μ' → R w' b v → Q v w'.H
  | .exc x μ' => ∀ w' cls dx, Post G n0 w μ w' μ' → Xr G w' x cls dx → W cls dx σ w'.H
/-- at one state -/
def At {β ν : Type} (R : Hw → β → ν → Prop) (w : Hw) (μ : Mu) (σ : L2.St) (tt : Hp → (ν → Hp → Prop) → Prop) (res : Ro β) : Prop :=
  ∀ r, res = some r → ∀ Q, FinX G n0 W R w μ σ Q r → tt w.H Q
/-- at every state -/
def DX {β ν : Type} (R : Hw → β → ν → Prop) (t : L2.St → Hp → (ν → Hp → Prop) → Prop) (f : Ev β) : Prop :=
  ∀ w ρ μ σ, Mc G w μ → Vr G.K w ρ σ → n0 ≤ μ.length → At G n0 W R w μ σ (t σ) (f ρ μ)
abbrev DE (t : TE) (f : Ev D) : Prop := DX G n0 W (Fr G.K) t f
abbrev DA (t : TA) (f : Ev (List D)) : Prop := DX G n0 W (Frs G.K) t f
abbrev DT (t : TT) (f : Ev Bool) : Prop := DX G n0 W (fun _ b c => c = b) t f
end
section
variable {G : Gx} {n0 : Nat} {W : WX}
theorem At.ret {β ν : Type} {R : Hw → β → ν → Prop} {w : Hw} {μ : Mu} {σ : L2.St} {tt : Hp → (ν → Hp → Prop) → Prop} {b : β} {v : ν} (c : Mc G w μ) (r : R w b v) (h : ∀ Q : ν → Hp → Prop, Q v w.H → tt w.H Q) :
    At G n0 W R w μ σ tt (some (.ok b μ)) := by
  intro q e Q f
  cases e
  exact h Q (f w v (.refl c) r)
theorem FinX.post {β ν : Type} {R : Hw → β → ν → Prop} {w w1 : Hw} {μ μ1 : Mu} {σ : L2.St} {Q : ν → Hp → Prop} (p : Post G n0 w μ w1 μ1) : ∀ {r : Rs β}, FinX G n0 W R w μ σ Q r → FinX G n0 W R w1 μ1 σ Q r
  | .ok _ _, f => fun w' v p' r' => f w' v (p.trans p') r'
  | .exc _ _, f => fun w' cls dx p' x => f w' cls dx (p.trans p') x
theorem At.bnd {β β' ν ν' : Type} {R : Hw → β → ν → Prop} {R' : Hw → β' → ν' → Prop} {w : Hw} {μ : Mu} {σ : L2.St} {tt : Hp → (ν → Hp → Prop) → Prop} {uu : ν → Hp → (ν' → Hp → Prop) → Prop} {res : Ro β} {g : β → Mu → Ro β'}
    (h : At G n0 W R w μ σ tt res) (k : ∀ w' μ' b v, Post G n0 w μ w' μ' → R w' b v → At G n0 W R' w' μ' σ (uu v) (g b μ')) :
    At G n0 W R' w μ σ (fun H Q => tt H fun v H1 => uu v H1 Q) (res.bnd g) := by
  intro r e Q f
  rcases Ro.bnd_some e with ⟨b, μ1, e1, e2⟩ | ⟨x, μ1, e1, e2⟩
  · refine h _ e1 _ fun w' v p r' => ?_
    exact k w' μ1 b v p r' r e2 Q (f.post p)
  · subst e2
    exact h _ e1 _ fun w' cls dx p x' => f w' cls dx p x'
theorem Post.nn {G : Gx} {n0 : Nat} {w w1 : Hw} {μ μ1 : Mu} (p : Post G n0 w μ w1 μ1) (h : n0 ≤ μ.length) : n0 ≤ μ1.length := Nat.le_trans h p.kp.len

/-! ### names, constants -/
def eVar (i : Nat) : Ev D := fun ρ μ => match ρ[i]? with
  | some (some d) => some (.ok d μ)
  | _ => none
theorem de_var {i : Nat} : DE G n0 W (tVar i) (eVar i) := by
  intro w ρ μ σ c vr hn r e Q f
  unfold eVar at e
  split at e
  · rename_i d hd
    cases e
    obtain ⟨v, hv, fr⟩ := vr.at_ i d hd
    exact ⟨v, hv, f w v (.refl c) fr⟩
  · cases e
def eC (d : D) : Ev D := fun _ μ => some (.ok d μ)
theorem de_c {d : D} {v : V} (h : ∀ w : Hw, Fr G.K w d v) : DE G n0 W (tC v) (eC d) := fun w ρ μ σ c vr hn =>
  .ret c (h w) fun Q q => q

/-! ### two values in, one out -/
/-- r does op -/
def DR2 (G : Gx) (n0 : Nat) (W : WX) (r : R2) (op : D → D → Mu → Ro D) : Prop := ∀ w μ σ a x b y, Mc G w μ → n0 ≤ μ.length → Fr G.K w a x → Fr G.K w b y → At G n0 W (Fr G.K) w μ σ (fun H Q => r x y H Q) (op a b μ)
def eOp (op : D → D → Mu → Ro D) (f g : Ev D) : Ev D := fun ρ μ => (f ρ μ).bnd fun a μ1 => (g ρ μ1).bnd fun b μ2 => op a b μ2
theorem de_op {r : R2} {op : D → D → Mu → Ro D} {ta tb : TE} {f g : Ev D} (ho : DR2 G n0 W r op) (ha : DE G n0 W ta f) (hb : DE G n0 W tb g) : DE G n0 W (tOp r ta tb) (eOp op f g) := by
  intro w ρ μ σ c vr hn
  refine (ha w ρ μ σ c vr hn).bnd (uu := fun x H Q => tb σ H fun y H2 => r x y H2 Q) fun w1 μ1 a x p1 ra => ?_
  refine (hb w1 ρ μ1 σ p1.mc (vr.mono p1.ex) (p1.nn hn)).bnd (uu := fun y H Q => r x y H Q) fun w2 μ2 b y p2 rb => ?_
  exact ho w2 μ2 σ a x b y p2.mc (p2.nn (p1.nn hn)) (ra.mono p2.ex) rb
/-- one value in -/
def DR1 (G : Gx) (n0 : Nat) (W : WX) (r : V → Hp → VK → Prop) (op : D → Mu → Ro D) : Prop := ∀ w μ σ a x, Mc G w μ → n0 ≤ μ.length → Fr G.K w a x → At G n0 W (Fr G.K) w μ σ (fun H Q => r x H Q) (op a μ)
def eUn (op : D → Mu → Ro D) (f : Ev D) : Ev D := fun ρ μ => (f ρ μ).bnd fun a μ1 => op a μ1
theorem de_un {r : V → Hp → VK → Prop} {op : D → Mu → Ro D} {ta : TE} {f : Ev D} (ho : DR1 G n0 W r op) (ha : DE G n0 W ta f) : DE G n0 W (tUn r ta) (eUn op f) := by
  intro w ρ μ σ c vr hn
  refine (ha w ρ μ σ c vr hn).bnd (uu := fun x H Q => r x H Q) fun w1 μ1 a x p1 ra => ?_
  exact ho w1 μ1 σ a x p1.mc (p1.nn hn) ra

/-! ### whole numbers -/
def dInt2 (f : Int → Int → D) : D → D → Mu → Ro D
  | .int i, .int j, μ => some (.ok (f i j) μ)
  | _, _, _ => none
def dInt2C (C : Int → Int → Bool) (f : Int → Int → D) : D → D → Mu → Ro D
  | .int i, .int j, μ => if C i j then some (.ok (f i j) μ) else none
  | _, _, _ => none
theorem dr_I0 {f : Int → Int → D} {g : Int → Int → V} (h : ∀ w i j, Fr G.K w (f i j) (g i j)) : DR2 G n0 W (rI0 g) (dInt2 f) := by
  intro w μ σ a x b y c hn ra rb r e Q fin
  cases a <;> cases b <;> simp only [dInt2] at e <;> try cases e
  rename_i i j
  have e1 : x = .int i := ra
  have e2 : y = .int j := rb
  subst e1 e2
  exact ⟨i, j, rfl, rfl, fin w _ (.refl c) (h w i j)⟩
theorem dr_IC {C : Int → Int → Bool} {P : Int → Int → Prop} {f : Int → Int → D} {g : Int → Int → V} (hC : ∀ i j, C i j = true → P i j) (h : ∀ w i j, Fr G.K w (f i j) (g i j)) : DR2 G n0 W (rI P g) (dInt2C C f) := by
  intro w μ σ a x b y c hn ra rb r e Q fin
  cases a <;> cases b <;> simp only [dInt2C] at e <;> try cases e
  rename_i i j
  split at e <;> rename_i hc <;> try cases e
  have e1 : x = .int i := ra
  have e2 : y = .int j := rb
  subst e1 e2
  exact ⟨i, j, rfl, rfl, hC i j hc, fin w _ (.refl c) (h w i j)⟩
abbrev oAdd := dInt2 fun i j => .int (i + j)
abbrev oSub := dInt2 fun i j => .int (i - j)
/-- a test that the kernel never tries to reckon -/
noncomputable def cdec (p : Prop) : Bool := @decide p (Classical.propDecidable p)
theorem cdec_iff {p : Prop} : cdec p = true ↔ p := by unfold cdec; simp
noncomputable def cMul (i j : Int) : Bool := cdec (CMul i j)
noncomputable abbrev oMul := dInt2C cMul fun i j => .int (i * j)
noncomputable def cDiv (i j : Int) : Bool := cdec (CDiv i j)
noncomputable abbrev oDiv := dInt2C cDiv fun i j => .int (i / j)
abbrev oMod := dInt2C (fun _ j => decide (0 < j)) fun i j => .int (i % j)
noncomputable def cPow (i j : Int) : Bool := cdec (CPow i j)
noncomputable abbrev oPow := dInt2C cPow fun i j => .int (i ^ j.toNat)
abbrev oLt := dInt2 fun i j => .bl (decide (i < j))
abbrev oLe := dInt2 fun i j => .bl (decide (i ≤ j))
abbrev oGt := dInt2 fun i j => .bl (decide (j < i))
abbrev oGe := dInt2 fun i j => .bl (decide (j ≤ i))
theorem dr_add : DR2 G n0 W (rI0 fun i j => .int (i + j)) oAdd := dr_I0 fun _ _ _ => rfl
theorem dr_sub : DR2 G n0 W (rI0 fun i j => .int (i - j)) oSub := dr_I0 fun _ _ _ => rfl
theorem dr_mul : DR2 G n0 W (rI CMul fun i j => .int (i * j)) oMul := dr_IC (fun i j h => cdec_iff.mp h) fun _ _ _ => rfl
theorem dr_div : DR2 G n0 W (rI CDiv fun i j => .int (i / j)) oDiv := dr_IC (fun i j h => cdec_iff.mp h) fun _ _ _ => rfl
theorem dr_mod : DR2 G n0 W (rI (fun _ j => 0 < j) fun i j => .int (i % j)) oMod := dr_IC (fun i j h => by simpa using h) fun _ _ _ => rfl
theorem dr_pow : DR2 G n0 W (rI CPow fun i j => .int (i ^ j.toNat)) oPow := dr_IC (fun i j h => cdec_iff.mp h) fun _ _ _ => rfl
theorem dr_lt : DR2 G n0 W (rI0 fun i j => .bl (decide (i < j))) oLt := dr_I0 fun _ _ _ => rfl
theorem dr_le : DR2 G n0 W (rI0 fun i j => .bl (decide (i ≤ j))) oLe := dr_I0 fun _ _ _ => rfl
theorem dr_gt : DR2 G n0 W (rI0 fun i j => .bl (decide (j < i))) oGt := dr_I0 fun _ _ _ => rfl
theorem dr_ge : DR2 G n0 W (rI0 fun i j => .bl (decide (j ≤ i))) oGe := dr_I0 fun _ _ _ => rfl

/-! ### is None -/
def D.isNon : D → Bool
  | .non => true
  | _ => false
theorem Fr.isNon {K : PySem.W.Frag} {w : Hw} {d : D} {v : V} (h : Fr K w d v) : decide (v = V.non) = d.isNon := by
  cases d with
  | non => have e : v = .non := h; subst e; rfl
  | bl b => have e : v = .bl b := h; subst e; rfl
  | int b => have e : v = .int b := h; subst e; rfl
  | str b => have e : v = .str b := h; subst e; rfl
  | tup xs => obtain ⟨_, _, e, _⟩ := h; subst e; rfl
  | lst xs => obtain ⟨_, _, e, _⟩ := h; subst e; rfl
  | scr xs => obtain ⟨_, _, e, _⟩ := h; subst e; rfl
  | cell k => obtain ⟨_, e, _⟩ := h; subst e; rfl
  | exn a => have e : v = .ref a := h; subst e; rfl
def oIsN : D → D → Mu → Ro D
  | a, .non, μ => some (.ok (.bl a.isNon) μ)
  | _, _, _ => none
def oNotN : D → D → Mu → Ro D
  | a, .non, μ => some (.ok (.bl (!a.isNon)) μ)
  | _, _, _ => none
theorem dr_isN : DR2 G n0 W (fun x y H Q => y = .non ∧ Q (.bl (decide (x = .non))) H) oIsN := by
  intro w μ σ a x b y c hn ra rb r e Q fin
  cases b <;> simp only [oIsN] at e <;> cases e
  have e2 : y = .non := rb
  exact ⟨e2, fin w _ (.refl c) (by rw [ra.isNon]; exact rfl)⟩
theorem dr_notN : DR2 G n0 W (fun x y H Q => y = .non ∧ Q (.bl (!decide (x = .non))) H) oNotN := by
  intro w μ σ a x b y c hn ra rb r e Q fin
  cases b <;> simp only [oNotN] at e <;> cases e
  have e2 : y = .non := rb
  exact ⟨e2, fin w _ (.refl c) (by rw [ra.isNon]; exact rfl)⟩

/-! ### tests -/
def eTest (f : Ev D) : Ev Bool := fun ρ μ => (f ρ μ).bnd fun d μ1 => match d with
  | .bl b => some (.ok b μ1)
  | _ => none
theorem dt_val {t : TE} {f : Ev D} (h : DE G n0 W t f) : DT G n0 W (tB t) (eTest f) := by
  intro w ρ μ σ c vr hn
  refine (h w ρ μ σ c vr hn).bnd (uu := fun x H Q => ∃ c, x = .bl c ∧ Q c H) fun w1 μ1 a x p1 ra => ?_
  intro r e Q fin
  cases a <;> simp only [] at e <;> try cases e
  rename_i b
  have e1 : x = .bl b := ra
  exact ⟨b, e1, fin w1 b (.refl p1.mc) rfl⟩
def eAnd (f g : Ev Bool) : Ev Bool := fun ρ μ => (f ρ μ).bnd fun b μ1 => if b then g ρ μ1 else some (.ok false μ1)
def eOr (f g : Ev Bool) : Ev Bool := fun ρ μ => (f ρ μ).bnd fun b μ1 => if b then some (.ok true μ1) else g ρ μ1
def eNot (f : Ev Bool) : Ev Bool := fun ρ μ => (f ρ μ).bnd fun b μ1 => some (.ok (!b) μ1)
theorem dt_and {t u : TT} {f g : Ev Bool} (h : DT G n0 W t f) (k : DT G n0 W u g) : DT G n0 W (tAnd t u) (eAnd f g) := by
  intro w ρ μ σ c vr hn
  refine (h w ρ μ σ c vr hn).bnd (uu := fun c H1 Q => if c = true then u σ H1 Q else Q false H1) fun w1 μ1 b x p1 rb => ?_
  have e : x = b := rb
  subst e
  cases x with
  | true => simpa using k w1 ρ μ1 σ p1.mc (vr.mono p1.ex) (p1.nn hn)
  | false => exact .ret p1.mc rfl fun Q q => by simpa using q
theorem dt_or {t u : TT} {f g : Ev Bool} (h : DT G n0 W t f) (k : DT G n0 W u g) : DT G n0 W (tOr t u) (eOr f g) := by
  intro w ρ μ σ c vr hn
  refine (h w ρ μ σ c vr hn).bnd (uu := fun c H1 Q => if c = true then Q true H1 else u σ H1 Q) fun w1 μ1 b x p1 rb => ?_
  have e : x = b := rb
  subst e
  cases x with
  | false => simpa using k w1 ρ μ1 σ p1.mc (vr.mono p1.ex) (p1.nn hn)
  | true => exact .ret p1.mc rfl fun Q q => by simpa using q
theorem dt_not {t : TT} {f : Ev Bool} (h : DT G n0 W t f) : DT G n0 W (tNot t) (eNot f) := by
  intro w ρ μ σ c vr hn
  refine (h w ρ μ σ c vr hn).bnd (uu := fun c H1 Q => Q (!c) H1) fun w1 μ1 b x p1 rb => ?_
  have e : x = b := rb
  subst e
  exact .ret p1.mc rfl fun Q q => q
/-- a test's answer as a value -/
def eBl (f : Ev Bool) : Ev D := fun ρ μ => (f ρ μ).bnd fun b μ1 => some (.ok (.bl b) μ1)
def eIf (c : Ev Bool) (f g : Ev D) : Ev D := fun ρ μ => (c ρ μ).bnd fun b μ1 => if b then f ρ μ1 else g ρ μ1
theorem de_if {t : TT} {ta tb : TE} {c : Ev Bool} {f g : Ev D} (h : DT G n0 W t c) (ha : DE G n0 W ta f) (hb : DE G n0 W tb g) : DE G n0 W (tIf t ta tb) (eIf c f g) := by
  intro w ρ μ σ c vr hn
  refine (h w ρ μ σ c vr hn).bnd (uu := fun c H1 Q => if c = true then ta σ H1 Q else tb σ H1 Q) fun w1 μ1 b x p1 rb => ?_
  have e : x = b := rb
  subst e
  cases x with
  | true => simpa using ha w1 ρ μ1 σ p1.mc (vr.mono p1.ex) (p1.nn hn)
  | false => simpa using hb w1 ρ μ1 σ p1.mc (vr.mono p1.ex) (p1.nn hn)
def eAndV (f g : Ev D) : Ev D := fun ρ μ => (f ρ μ).bnd fun d μ1 => match d with
  | .bl b => if b then g ρ μ1 else some (.ok (.bl false) μ1)
  | _ => none
def eOrV (f g : Ev D) : Ev D := fun ρ μ => (f ρ μ).bnd fun d μ1 => match d with
  | .bl b => if b then some (.ok (.bl true) μ1) else g ρ μ1
  | _ => none
def eNotV (f : Ev D) : Ev D := fun ρ μ => (f ρ μ).bnd fun d μ1 => match d with
  | .bl b => some (.ok (.bl (!b)) μ1)
  | _ => none
theorem de_andV {ta tb : TE} {f g : Ev D} (ha : DE G n0 W ta f) (hb : DE G n0 W tb g) : DE G n0 W (tAndV ta tb) (eAndV f g) := by
  intro w ρ μ σ c vr hn
  refine (ha w ρ μ σ c vr hn).bnd (uu := fun x H1 Q => ∃ c, x = .bl c ∧ if c = true then tb σ H1 Q else Q (.bl false) H1) fun w1 μ1 d x p1 rb => ?_
  intro r e Q fin
  cases d <;> simp only [] at e <;> try cases e
  rename_i b
  have e1 : x = .bl b := rb
  refine ⟨b, e1, ?_⟩
  cases b with
  | true => simp only [if_true] at e ⊢; exact hb w1 ρ μ1 σ p1.mc (vr.mono p1.ex) (p1.nn hn) r e Q fin
  | false => simp at e ⊢; subst e; exact fin w1 _ (.refl p1.mc) rfl
theorem de_orV {ta tb : TE} {f g : Ev D} (ha : DE G n0 W ta f) (hb : DE G n0 W tb g) : DE G n0 W (tOrV ta tb) (eOrV f g) := by
  intro w ρ μ σ c vr hn
  refine (ha w ρ μ σ c vr hn).bnd (uu := fun x H1 Q => ∃ c, x = .bl c ∧ if c = true then Q (.bl true) H1 else tb σ H1 Q) fun w1 μ1 d x p1 rb => ?_
  intro r e Q fin
  cases d <;> simp only [] at e <;> try cases e
  rename_i b
  have e1 : x = .bl b := rb
  refine ⟨b, e1, ?_⟩
  cases b with
  | false => simp only [Bool.false_eq_true, if_false] at e ⊢; exact hb w1 ρ μ1 σ p1.mc (vr.mono p1.ex) (p1.nn hn) r e Q fin
  | true => simp at e ⊢; subst e; exact fin w1 _ (.refl p1.mc) rfl
theorem de_notV {ta : TE} {f : Ev D} (ha : DE G n0 W ta f) : DE G n0 W (tNotV ta) (eNotV f) := by
  intro w ρ μ σ c vr hn
  refine (ha w ρ μ σ c vr hn).bnd (uu := fun x H1 (Q : VK) => ∃ c, x = V.bl c ∧ Q (V.bl (!c)) H1) fun w1 μ1 d x p1 rb => ?_
  intro r e Q fin
  cases d <;> simp only [] at e <;> try cases e
  rename_i b
  have e1 : x = .bl b := rb
  exact ⟨b, e1, fin w1 _ (.refl p1.mc) rfl⟩
/-- a < b < c -/
def eChain (op op' : D → D → Mu → Ro D) (f g h : Ev D) : Ev D := fun ρ μ => (f ρ μ).bnd fun a μ1 => (g ρ μ1).bnd fun b μ2 => (op a b μ2).bnd fun k μ3 => match k with
  | .bl k => if k then (h ρ μ3).bnd fun c μ4 => op' b c μ4 else some (.ok (.bl false) μ3)
  | _ => none
theorem de_chain {r r' : R2} {op op' : D → D → Mu → Ro D} {ta tb tc : TE} {f g h : Ev D} (ho : DR2 G n0 W r op) (ho' : DR2 G n0 W r' op') (ha : DE G n0 W ta f) (hb : DE G n0 W tb g) (hc : DE G n0 W tc h) :
    DE G n0 W (tChain r r' ta tb tc) (eChain op op' f g h) := by
  intro w ρ μ σ c vr hn
  refine (ha w ρ μ σ c vr hn).bnd (uu := fun x H Q => tb σ H fun y H2 => r x y H2 fun z H3 => ∃ k, z = .bl k ∧ (if k = true then tc σ H3 fun w' H4 => r' y w' H4 Q else Q (.bl false) H3)) fun w1 μ1 a x p1 ra => ?_
  refine (hb w1 ρ μ1 σ p1.mc (vr.mono p1.ex) (p1.nn hn)).bnd (uu := fun y H Q => r x y H fun z H3 => ∃ k, z = .bl k ∧ (if k = true then tc σ H3 fun w' H4 => r' y w' H4 Q else Q (.bl false) H3)) fun w2 μ2 b y p2 rb => ?_
  have hn2 := p2.nn (p1.nn hn)
  refine (ho w2 μ2 σ a x b y p2.mc hn2 (ra.mono p2.ex) rb).bnd (uu := fun z H Q => ∃ k, z = .bl k ∧ (if k = true then tc σ H fun w' H4 => r' y w' H4 Q else Q (.bl false) H)) fun w3 μ3 d z p3 rd => ?_
  intro q e Q fin
  cases d <;> simp only [] at e <;> try cases e
  rename_i k
  have e1 : z = .bl k := rd
  refine ⟨k, e1, ?_⟩
  cases k with
  | false => simp at e ⊢; subst e; exact fin w3 _ (.refl p3.mc) rfl
  | true =>
    simp only [if_true] at e ⊢
    refine ((hc w3 ρ μ3 σ p3.mc (((vr.mono p1.ex).mono p2.ex).mono p3.ex) (p3.nn hn2)).bnd (uu := fun w' H4 Q => r' y w' H4 Q) fun w4 μ4 c' x4 p4 rc => ?_) q e Q fin
    exact ho' w4 μ4 σ b y c' x4 p4.mc (p4.nn (p3.nn hn2)) ((rb.mono p3.ex).mono p4.ex) rc
end
end G4

/-! G3: lists, tuples, dicts, arguments, built-in calls. -/
namespace G4
open PySem PySem.Spec PyProof.Rows L2

section
variable {G : Gx} {n0 : Nat} {W : WX}
/-! ### or of two rules -/
theorem opR_or {X : Cx} {f : Value → Value → Sem Value} {r r' : R2} (h : OpR X f r) (h' : OpR X f r') : OpR X f (fun x y H Q => r x y H Q ∨ r' x y H Q) := by
  intro pins s σ H x y v u Q I rx ry q
  rcases q with q | q
  · exact h pins s σ H x y v u Q I rx ry q
  · exact h' pins s σ H x y v u Q I rx ry q

/-! ### a new thing -/
theorem fin_fz {w : Hw} {μ : Mu} {σ : L2.St} {p : Addr} {o : HO} {d : D} {Q : VK} (c : Mc G w μ) (hp : w.H p = none) (fr : Fr G.K (w.fz p o) d (.ref p)) (f : FinX G n0 W (Fr G.K) w μ σ Q (.ok d μ)) : Q (.ref p) (upd w.H p o) :=
  f (w.fz p o) (.ref p) ⟨.fz c hp, .fz c hp, .refl _ _⟩ fr
theorem fr_tup {w : Hw} {μ : Mu} {p : Addr} {ds : List D} {vs : List V} (c : Mc G w μ) (hp : w.H p = none) (r : Frs G.K w ds vs) : Fr G.K (w.fz p (.tup vs)) (.tup ds) (.ref p) :=
  ⟨p, vs, rfl, .inr rfl, upd_same, r.mono (.fz c hp)⟩
theorem fr_lst {w : Hw} {μ : Mu} {p : Addr} {ds : List D} {vs : List V} (c : Mc G w μ) (hp : w.H p = none) (r : Frs G.K w ds vs) : Fr G.K (w.fz p (.lst vs)) (.lst ds) (.ref p) :=
  ⟨p, vs, rfl, .inr rfl, upd_same, r.mono (.fz c hp)⟩
theorem fin_mk {w : Hw} {μ : Mu} {σ : L2.St} {p : Addr} {o : HO} {m : M} {Q : VK} (c : Mc G w μ) (hn : n0 ≤ μ.length) (hp : w.H p = none) (r : Mr G (w.mk' p o) p m)
    (f : FinX G n0 W (Fr G.K) w μ σ Q (.ok (.cell μ.length) (μ ++ [some m]))) : Q (.ref p) (upd w.H p o) :=
  f (w.mk' p o) (.ref p) ⟨.mk' c hp, .mk' c hp r, .push hn _⟩ ⟨p, rfl, by show (w.A ++ [p])[μ.length]? = some p; rw [← c.len]; simp⟩
/-- rules that lay a new list of vs -/
@[irreducible] def small (n : Nat) : Bool := decide (n ≤ 16777216)
theorem small_ok {n : Nat} (h : small n = true) : n ≤ sizeLine := by rw [sizeLine_eq]; simpa [small] using h
theorem small_ok' {n : Nat} (h : decide (n < 16777216) = true) : n < sizeLine := by rw [sizeLine_eq]; simpa using h
def newL (ds : List D) (μ : Mu) : Ro D := if small ds.length then some (.ok (.lst ds) μ) else none
def newC (ds : List D) (μ : Mu) : Ro D := if small ds.length then some (.ok (.cell μ.length) (μ ++ [some (.lst ds)])) else none
def newT (ds : List D) (μ : Mu) : Ro D := if small ds.length then some (.ok (.tup ds) μ) else none
theorem at_newL {w : Hw} {μ : Mu} {σ : L2.St} {ds : List D} {vs : List V} (c : Mc G w μ) (r : Frs G.K w ds vs) : At G n0 W (Fr G.K) w μ σ (fun H Q => vs.length ≤ sizeLine ∧ ∀ p, H p = none → Q (.ref p) (upd H p (.lst vs))) (newL ds μ) := by
  intro q e Q f
  unfold newL at e
  split at e <;> rename_i hs <;> cases e
  exact ⟨by rw [r.length]; exact small_ok hs, fun p hp => fin_fz c hp (fr_lst c hp r) f⟩
theorem at_newC {w : Hw} {μ : Mu} {σ : L2.St} {ds : List D} {vs : List V} (c : Mc G w μ) (hn : n0 ≤ μ.length) (r : Frs G.K w ds vs) : At G n0 W (Fr G.K) w μ σ (fun H Q => vs.length ≤ sizeLine ∧ ∀ p, H p = none → Q (.ref p) (upd H p (.lst vs))) (newC ds μ) := by
  intro q e Q f
  unfold newC at e
  split at e <;> rename_i hs <;> cases e
  exact ⟨by rw [r.length]; exact small_ok hs, fun p hp => fin_mk (m := .lst ds) c hn hp ⟨vs, upd_same, r.mono (.mk' c hp)⟩ f⟩
theorem at_newT {w : Hw} {μ : Mu} {σ : L2.St} {ds : List D} {vs : List V} (c : Mc G w μ) (r : Frs G.K w ds vs) : At G n0 W (Fr G.K) w μ σ (fun H Q => vs.length ≤ sizeLine ∧ ∀ p, H p = none → Q (.ref p) (upd H p (.tup vs))) (newT ds μ) := by
  intro q e Q f
  unfold newT at e
  split at e <;> rename_i hs <;> cases e
  exact ⟨by rw [r.length]; exact small_ok hs, fun p hp => fin_fz c hp (fr_tup c hp r) f⟩
theorem At.imp {β ν : Type} {R : Hw → β → ν → Prop} {w : Hw} {μ : Mu} {σ : L2.St} {tt tt' : Hp → (ν → Hp → Prop) → Prop} {res : Ro β} (h : At G n0 W R w μ σ tt res) (k : ∀ Q, tt w.H Q → tt' w.H Q) : At G n0 W R w μ σ tt' res :=
  fun r e Q f => k Q (h r e Q f)
theorem At.nope {β ν : Type} {R : Hw → β → ν → Prop} {w : Hw} {μ : Mu} {σ : L2.St} {tt : Hp → (ν → Hp → Prop) → Prop} : At G n0 W R w μ σ tt (none : Ro β) := fun _ e => nomatch e

/-! ### arguments -/
def aNil : Ev (List D) := fun _ μ => some (.ok [] μ)
def aCons (f : Ev D) (g : Ev (List D)) : Ev (List D) := fun ρ μ => (f ρ μ).bnd fun d μ1 => (g ρ μ1).bnd fun ds μ2 => some (.ok (d :: ds) μ2)
theorem da_nil : DA G n0 W tNil aNil := fun w ρ μ σ c vr hn => .ret c rfl fun Q q => q
theorem da_cons {t : TE} {u : TA} {f : Ev D} {g : Ev (List D)} (h : DE G n0 W t f) (k : DA G n0 W u g) : DA G n0 W (tCons t u) (aCons f g) := by
  intro w ρ μ σ c vr hn
  refine (h w ρ μ σ c vr hn).bnd (uu := fun x H1 Q => u σ H1 fun xs H2 => Q (x :: xs) H2) fun w1 μ1 d x p1 r1 => ?_
  refine (k w1 ρ μ1 σ p1.mc (vr.mono p1.ex) (p1.nn hn)).bnd (uu := fun xs H2 Q => Q (x :: xs) H2) fun w2 μ2 ds xs p2 r2 => ?_
  exact .ret p2.mc ⟨x, xs, rfl, r1.mono p2.ex, r2⟩ fun Q q => q
/-- displays -/
def eLst (f : Ev (List D)) : Ev D := fun ρ μ => (f ρ μ).bnd fun ds μ1 => newL ds μ1
def eLstC (f : Ev (List D)) : Ev D := fun ρ μ => (f ρ μ).bnd fun ds μ1 => newC ds μ1
def eTup (f : Ev (List D)) : Ev D := fun ρ μ => (f ρ μ).bnd fun ds μ1 => newT ds μ1
theorem de_lst {t : TA} {f : Ev (List D)} (h : DA G n0 W t f) : DE G n0 W (tLst t) (eLst f) := fun w ρ μ σ c vr hn =>
  (h w ρ μ σ c vr hn).bnd (uu := fun xs H1 (Q : VK) => xs.length ≤ sizeLine ∧ ∀ p, H1 p = none → Q (V.ref p) (upd H1 p (.lst xs))) fun w1 μ1 ds xs p1 r1 => at_newL p1.mc r1
theorem de_lstC {t : TA} {f : Ev (List D)} (h : DA G n0 W t f) : DE G n0 W (tLst t) (eLstC f) := fun w ρ μ σ c vr hn =>
  (h w ρ μ σ c vr hn).bnd (uu := fun xs H1 (Q : VK) => xs.length ≤ sizeLine ∧ ∀ p, H1 p = none → Q (V.ref p) (upd H1 p (.lst xs))) fun w1 μ1 ds xs p1 r1 => at_newC p1.mc (p1.nn hn) r1
theorem de_tup {t : TA} {f : Ev (List D)} (h : DA G n0 W t f) : DE G n0 W (tTup t) (eTup f) := fun w ρ μ σ c vr hn =>
  (h w ρ μ σ c vr hn).bnd (uu := fun xs H1 (Q : VK) => xs.length ≤ sizeLine ∧ ∀ p, H1 p = none → Q (V.ref p) (upd H1 p (.tup xs))) fun w1 μ1 ds xs p1 r1 => at_newT p1.mc r1

/-! ### a built-in's call -/
def DRn (G : Gx) (n0 : Nat) (W : WX) (r : List V → Hp → VK → Prop) (op : List D → Mu → Ro D) : Prop := ∀ w μ σ as xs, Mc G w μ → n0 ≤ μ.length → Frs G.K w as xs → At G n0 W (Fr G.K) w μ σ (fun H Q => r xs H Q) (op as μ)
def eB (op : List D → Mu → Ro D) (f : Ev (List D)) : Ev D := fun ρ μ => (f ρ μ).bnd op
theorem de_b {r : List V → Hp → VK → Prop} {op : List D → Mu → Ro D} {t : TA} {f : Ev (List D)} (ho : DRn G n0 W r op) (h : DA G n0 W t f) : DE G n0 W (tCB r t) (eB op f) := fun w ρ μ σ c vr hn =>
  (h w ρ μ σ c vr hn).bnd (uu := fun vs H1 Q => r vs H1 Q) fun w1 μ1 ds xs p1 r1 => ho w1 μ1 σ ds xs p1.mc (p1.nn hn) r1
theorem frs1 {K : PySem.W.Frag} {w : Hw} {d : D} {xs : List V} (h : Frs K w [d] xs) : ∃ x, xs = [x] ∧ Fr K w d x := by
  obtain ⟨v, r, e, h1, h2⟩ := h
  have h2 : r = [] := h2
  subst h2
  exact ⟨v, e, h1⟩
theorem frs2 {K : PySem.W.Frag} {w : Hw} {d e : D} {xs : List V} (h : Frs K w [d, e] xs) : ∃ x y, xs = [x, y] ∧ Fr K w d x ∧ Fr K w e y := by
  obtain ⟨v, r, e1, h1, h2⟩ := h
  obtain ⟨y, e2, h3⟩ := frs1 h2
  subst e2
  exact ⟨v, y, e1, h1, h3⟩
def oInt : List D → Mu → Ro D
  | [.int i], μ => some (.ok (.int i) μ)
  | _, _ => none
theorem drn_int : DRn G n0 W (fun xs H Q => (∃ i, xs = [.int i] ∧ Q (.int i) H) ∨ ∃ k, xs = [.bl k] ∧ Q (.int (if k then 1 else 0)) H) oInt := by
  intro w μ σ as xs c hn r q e Q f
  unfold oInt at e
  split at e <;> cases e
  obtain ⟨x, rfl, h⟩ := frs1 r
  have h : x = .int _ := h
  subst h
  exact .inl ⟨_, rfl, f w _ (.refl c) rfl⟩
def oMax2 : List D → Mu → Ro D
  | [.int i, .int j], μ => some (.ok (.int (if j > i then j else i)) μ)
  | _, _ => none
def oMin2 : List D → Mu → Ro D
  | [.int i, .int j], μ => some (.ok (.int (if j < i then j else i)) μ)
  | _, _ => none
theorem drn_max2 : DRn G n0 W (fun xs H Q => ∃ i j, xs = [.int i, .int j] ∧ Q (.int (if j > i then j else i)) H) oMax2 := by
  intro w μ σ as xs c hn r q e Q f
  unfold oMax2 at e
  split at e <;> cases e
  obtain ⟨x, y, rfl, h, k⟩ := frs2 r
  have h : x = .int _ := h
  have k : y = .int _ := k
  subst h k
  exact ⟨_, _, rfl, f w _ (.refl c) rfl⟩
theorem drn_min2 : DRn G n0 W (fun xs H Q => ∃ i j, xs = [.int i, .int j] ∧ Q (.int (if j < i then j else i)) H) oMin2 := by
  intro w μ σ as xs c hn r q e Q f
  unfold oMin2 at e
  split at e <;> cases e
  obtain ⟨x, y, rfl, h, k⟩ := frs2 r
  have h : x = .int _ := h
  have k : y = .int _ := k
  subst h k
  exact ⟨_, _, rfl, f w _ (.refl c) rfl⟩

/-! ### what a sequence holds -/
def viewL (μ : Mu) : D → Option (List D)
  | .lst xs => some xs
  | .scr xs => some xs
  | .cell k => match μ[k]? with
    | some (some (.lst xs)) => some xs
    | _ => none
  | _ => none
def viewT : D → Option (List D)
  | .tup xs => some xs
  | _ => none
theorem view_L {G : Gx} {w : Hw} {μ : Mu} (c : Mc G w μ) {d : D} {v : V} {xs : List D} (h : Fr G.K w d v) (q : viewL μ d = some xs) : ∃ a vs, v = .ref a ∧ SqL G.K w.H a vs ∧ Frs G.K w xs vs := by
  cases d with
  | lst ys =>
    obtain ⟨a, vs, e, n, h, r⟩ := h
    have q : ys = xs := Option.some.inj q
    subst q
    exact ⟨a, vs, e, .of h, r⟩
  | scr ys =>
    obtain ⟨a, vs, e, h, r⟩ := h
    have q : ys = xs := Option.some.inj q
    subst q
    exact ⟨a, vs, e, h.sq, r⟩
  | cell k =>
    obtain ⟨a, e, h⟩ := h
    unfold viewL at q
    simp only at q
    split at q
    · rename_i ys hm
      have q : ys = xs := Option.some.inj q
      subst q
      obtain ⟨⟨vs, h1, h2⟩, _⟩ := c.cell k _ a hm h
      exact ⟨a, vs, e, .of h1, h2⟩
    · cases q
  | non => cases (show (none : Option (List D)) = some xs from q)
  | bl b => cases (show (none : Option (List D)) = some xs from q)
  | int b => cases (show (none : Option (List D)) = some xs from q)
  | str b => cases (show (none : Option (List D)) = some xs from q)
  | tup b => cases (show (none : Option (List D)) = some xs from q)
  | exn b => cases (show (none : Option (List D)) = some xs from q)
theorem viewT_eq {d : D} {xs : List D} (q : viewT d = some xs) : d = .tup xs := by
  cases d with
  | tup ys => rw [show ys = xs from Option.some.inj q]
  | lst b => cases (show (none : Option (List D)) = some xs from q)
  | non => cases (show (none : Option (List D)) = some xs from q)
  | bl b => cases (show (none : Option (List D)) = some xs from q)
  | int b => cases (show (none : Option (List D)) = some xs from q)
  | str b => cases (show (none : Option (List D)) = some xs from q)
  | scr b => cases (show (none : Option (List D)) = some xs from q)
  | cell b => cases (show (none : Option (List D)) = some xs from q)
  | exn b => cases (show (none : Option (List D)) = some xs from q)
theorem view_T {K : PySem.W.Frag} {w : Hw} {d : D} {v : V} {xs : List D} (h : Fr K w d v) (q : viewT d = some xs) : ∃ a vs, v = .ref a ∧ SqT K w.H a vs ∧ Frs K w xs vs := by
  rw [viewT_eq q] at h
  obtain ⟨a, vs, e, n, h, r⟩ := h
  exact ⟨a, vs, e, .of h, r⟩
def viewS (μ : Mu) (d : D) : Option (List D) := match viewT d with
  | some xs => some xs
  | none => viewL μ d
theorem view_S {G : Gx} {w : Hw} {μ : Mu} (c : Mc G w μ) {d : D} {v : V} {xs : List D} (fr : Fr G.K w d v) (q : viewS μ d = some xs) : ∃ a vs, v = .ref a ∧ (SqL G.K w.H a vs ∨ SqT G.K w.H a vs) ∧ Frs G.K w xs vs := by
  unfold viewS at q
  split at q
  · rename_i h
    cases q
    obtain ⟨a, vs, e, s, r⟩ := view_T fr h
    exact ⟨a, vs, e, .inr s, r⟩
  · obtain ⟨a, vs, e, s, r⟩ := view_L c fr q
    exact ⟨a, vs, e, .inl s, r⟩
/-! ### len -/
def oLen : List D → Mu → Ro D
  | [.str x], μ => if small x.length then some (.ok (.int x.length) μ) else none
  | [d], μ => match viewS μ d with
    | some xs => some (.ok (.int xs.length) μ)
    | none => match d with
      | .cell k => match μ[k]? with
        | some (some (.dK kvs)) => some (.ok (.int kvs.length) μ)
        | _ => none
      | _ => none
  | _, _ => none
def rLen (K : PySem.W.Frag) : List V → Hp → VK → Prop := fun xs H Q => (∃ x n, xs = [x] ∧ LenV K x H n ∧ Q (.int n) H) ∨ ∃ a kvs, xs = [V.ref a] ∧ H a = some (.dK kvs) ∧ Q (.int kvs.length) H
theorem call_lenA {X : Cx} : CallR X (.builtin "len") (rLen X.K) := call_len.or call_lenD
theorem drn_len : DRn G n0 W (rLen G.K) oLen := by
  intro w μ σ as xs c hn r q e Q f
  unfold oLen at e
  split at e
  · rename_i x
    split at e <;> rename_i hs <;> cases e
    obtain ⟨x, rfl, h⟩ := frs1 r
    have h : x = .str _ := h
    subst h
    exact .inl ⟨_, _, rfl, ⟨small_ok hs, rfl⟩, f w _ (.refl c) rfl⟩
  · rename_i d hd
    obtain ⟨x, rfl, h⟩ := frs1 r
    split at e
    · rename_i xs hx
      cases e
      obtain ⟨a, vs, rfl, s, rs⟩ := view_S c h hx
      refine .inl ⟨_, xs.length, rfl, ?_, f w _ (.refl c) rfl⟩
      rcases s with s | s
      · exact .inl ⟨vs, s, rs.length.symm⟩
      · exact .inr ⟨vs, s, rs.length.symm⟩
    · split at e <;> try cases e
      split at e <;> try cases e
      rename_i kvs hm
      obtain ⟨a, rfl, ha⟩ := h
      obtain ⟨⟨kvs', h1, h2, h3⟩, _⟩ := c.cell _ _ a hm ha
      refine .inr ⟨a, kvs', rfl, h1, ?_⟩
      have : kvs'.length = kvs.length := by simpa using congrArg List.length h2
      rw [this]
      exact f w _ (.refl c) rfl
  · cases e
/-! ### list(x), tuple(x) -/
def oList : List D → Mu → Ro D
  | [d], μ => match viewS μ d with
    | some xs => some (.ok (.lst xs) μ)
    | none => none
  | _, _ => none
def oListC : List D → Mu → Ro D
  | [d], μ => match viewS μ d with
    | some xs => some (.ok (.cell μ.length) (μ ++ [some (.lst xs)]))
    | none => none
  | _, _ => none
def rList (K : PySem.W.Frag) : List V → Hp → VK → Prop := fun xs H Q => ∃ p ys, xs = [.ref p] ∧ (SqL K H p ys ∨ SqT K H p ys) ∧ ∀ l, H l = none → Q (.ref l) (upd H l (.lst ys))
theorem drn_list : DRn G n0 W (rList G.K) oList := by
  intro w μ σ as xs c hn r q e Q f
  unfold oList at e
  split at e <;> try cases e
  split at e <;> cases e
  rename_i hx
  obtain ⟨x, rfl, h⟩ := frs1 r
  obtain ⟨a, vs, rfl, s, rs⟩ := view_S c h hx
  exact ⟨a, vs, rfl, s, fun p hp => fin_fz c hp (fr_lst c hp rs) f⟩
theorem drn_listC : DRn G n0 W (rList G.K) oListC := by
  intro w μ σ as xs c hn r q e Q f
  unfold oListC at e
  split at e <;> try cases e
  split at e <;> cases e
  rename_i hx
  obtain ⟨x, rfl, h⟩ := frs1 r
  obtain ⟨a, vs, rfl, s, rs⟩ := view_S c h hx
  exact ⟨a, vs, rfl, s, fun p hp => fin_mk (m := .lst _) c hn hp ⟨vs, upd_same, rs.mono (.mk' c hp)⟩ f⟩
def oTuple : List D → Mu → Ro D
  | [d], μ => match viewS μ d with
    | some xs => some (.ok (.tup xs) μ)
    | none => none
  | _, _ => none
theorem drn_tuple : DRn G n0 W (fun xs H Q => ∃ p ys, xs = [.ref p] ∧ ((SqL G.K H p ys ∧ ∀ l, H l = none → Q (.ref l) (upd H l (.tup ys))) ∨ (SqT G.K H p ys ∧ Q (.ref p) H))) oTuple := by
  intro w μ σ as xs c hn r q e Q f
  unfold oTuple at e
  split at e <;> try cases e
  split at e <;> cases e
  rename_i d _ xs hx
  obtain ⟨x, rfl, h⟩ := frs1 r
  unfold viewS at hx
  split at hx
  · rename_i ht
    cases hx
    obtain ⟨a, vs, rfl, s, rs⟩ := view_T h ht
    refine ⟨a, vs, rfl, .inr ⟨s, f w _ (.refl c) ?_⟩⟩
    rw [← viewT_eq ht]
    exact h
  · obtain ⟨a, vs, rfl, s, rs⟩ := view_L c h hx
    exact ⟨a, vs, rfl, .inl ⟨s, fun p hp => fin_fz c hp (fr_tup c hp rs) f⟩⟩

/-! ### subscripts -/
theorem atI_rel {K : PySem.W.Frag} {w : Hw} {xs : List D} {vs : List V} {i : Int} {d : D} (r : Frs K w xs vs) (h : atI xs i = some d) : ∃ v, atI vs i = some v ∧ Fr K w d v := by
  unfold atI at h ⊢
  rw [r.length]
  cases e : ixN xs.length i with
  | none => rw [e] at h; cases h
  | some j =>
    rw [e] at h
    obtain ⟨v, hv, fr⟩ := r.get (show xs[j]? = some d from h)
    exact ⟨v, hv, fr⟩
def oIx : D → D → Mu → Ro D
  | .str z, .int i, μ => if small z.length then match atI z.cps.toList i with
      | some c => some (.ok (.str ⟨#[c]⟩) μ)
      | none => none
    else none
  | a, .int i, μ => match viewS μ a with
    | some xs => match atI xs i with
      | some d => some (.ok d μ)
      | none => none
    | none => none
  | _, _, _ => none
theorem dr_ix : DR2 G n0 W (rIx G.K) oIx := by
  intro w μ σ a x b y c hn ra rb q e Q f
  unfold oIx at e
  split at e
  · rename_i z i
    split at e <;> rename_i hs <;> try cases e
    split at e <;> cases e
    rename_i hc
    have e1 : x = .str z := ra
    have e2 : y = .int i := rb
    subst e1 e2
    exact .inr (.inr ⟨z, i, _, rfl, rfl, small_ok hs, hc, f w _ (.refl c) rfl⟩)
  · rename_i i hz
    have e2 : y = .int i := rb
    subst e2
    split at e <;> try cases e
    rename_i xs hx
    split at e <;> cases e
    rename_i d hd
    obtain ⟨p, vs, rfl, s, rs⟩ := view_S c ra hx
    obtain ⟨v, hv, fr⟩ := atI_rel rs hd
    rcases s with s | s
    · exact .inl ⟨p, vs, i, v, rfl, rfl, s, hv, f w _ (.refl c) fr⟩
    · exact .inr (.inl ⟨p, vs, i, v, rfl, rfl, s, hv, f w _ (.refl c) fr⟩)
  · cases e

/-! ### a + b -/
def rPlus (K : PySem.W.Frag) : R2 := fun x y H Q => rI0 (fun i j => .int (i + j)) x y H Q ∨ rCat x y H Q ∨ rCatT K x y H Q ∨ (∃ i j, x = .str i ∧ y = .str j ∧ i.length + j.length ≤ sizeLine ∧ Q (.str (i ++ j)) H)
theorem op_plus {X : Cx} : OpR X (binaryOp .Add) (rPlus X.K) := opR_or op_add (opR_or op_cat (opR_or op_catT op_add_str))
/-- a list that is tracked -/
def viewK (μ : Mu) : D → Option (List D)
  | .lst xs => some xs
  | .cell k => match μ[k]? with
    | some (some (.lst xs)) => some xs
    | _ => none
  | _ => none
theorem view_K {G : Gx} {w : Hw} {μ : Mu} (c : Mc G w μ) {d : D} {v : V} {xs : List D} (h : Fr G.K w d v) (q : viewK μ d = some xs) : ∃ a vs, v = .ref a ∧ w.H a = some (.lst vs) ∧ Frs G.K w xs vs := by
  cases d with
  | lst ys =>
    obtain ⟨a, vs, e, n, h, r⟩ := h
    have q : ys = xs := Option.some.inj q
    subst q
    exact ⟨a, vs, e, h, r⟩
  | cell k =>
    obtain ⟨a, e, h⟩ := h
    unfold viewK at q
    simp only at q
    split at q
    · rename_i ys hm
      have q : ys = xs := Option.some.inj q
      subst q
      obtain ⟨⟨vs, h1, h2⟩, _⟩ := c.cell k _ a hm h
      exact ⟨a, vs, e, h1, h2⟩
    · cases q
  | non => cases (show (none : Option (List D)) = some xs from q)
  | bl b => cases (show (none : Option (List D)) = some xs from q)
  | int b => cases (show (none : Option (List D)) = some xs from q)
  | str b => cases (show (none : Option (List D)) = some xs from q)
  | tup b => cases (show (none : Option (List D)) = some xs from q)
  | scr b => cases (show (none : Option (List D)) = some xs from q)
  | exn b => cases (show (none : Option (List D)) = some xs from q)
def catL (mk : List D → Mu → Ro D) (a b : D) (μ : Mu) : Ro D := match viewK μ a, viewK μ b with
  | some xs, some ys => mk (xs ++ ys) μ
  | _, _ => none
def oPlus : D → D → Mu → Ro D
  | .int i, .int j, μ => some (.ok (.int (i + j)) μ)
  | .str i, .str j, μ => if small (i.length + j.length) then some (.ok (.str (i ++ j)) μ) else none
  | .tup xs, .tup ys, μ => if small (xs.length + ys.length) then (if xs.isEmpty then none else some (.ok (.tup (xs ++ ys)) μ)) else none
  | a, b, μ => catL newL a b μ
def oPlusC : D → D → Mu → Ro D := catL newC
theorem dr_plus : DR2 G n0 W (rPlus G.K) oPlus := by
  intro w μ σ a x b y c hn ra rb q e Q f
  unfold oPlus at e
  split at e
  · cases e
    have e1 : x = .int _ := ra
    have e2 : y = .int _ := rb
    subst e1 e2
    exact .inl ⟨_, _, rfl, rfl, f w _ (.refl c) rfl⟩
  · split at e <;> rename_i hs <;> cases e
    have e1 : x = .str _ := ra
    have e2 : y = .str _ := rb
    subst e1 e2
    exact .inr (.inr (.inr ⟨_, _, rfl, rfl, small_ok hs, f w _ (.refl c) rfl⟩))
  · rename_i xs ys
    split at e <;> rename_i hs <;> try cases e
    split at e <;> rename_i he <;> cases e
    obtain ⟨p, vs, rfl, np, hp, rs⟩ := ra
    obtain ⟨q, us, rfl, nq, hq, ts⟩ := rb
    have hne : vs ≠ [] := fun z => he (by
      have := rs.length
      rw [z] at this
      have h0 : xs = [] := List.eq_nil_of_length_eq_zero this.symm
      rw [h0]; rfl)
    have hle : vs.length + us.length ≤ sizeLine := by rw [rs.length, ts.length]; exact small_ok hs
    refine .inr (.inr (.inl ⟨p, q, vs, us, rfl, rfl, .of hp, .of hq, hne, hle, ?_⟩))
    refine ⟨fun z => ?_, fun z l hl => fin_fz c hl (fr_tup c hl (rs.append ts)) f⟩
    subst z
    have e0 : ys = [] := List.eq_nil_of_length_eq_zero ts.length.symm
    subst e0
    refine f w _ (.refl c) ⟨p, vs, rfl, np, hp, ?_⟩
    rw [List.append_nil]
    exact rs
  · unfold catL at e
    split at e <;> try cases e
    rename_i xs ys h1 h2
    obtain ⟨p, vs, rfl, hp, rs⟩ := view_K c ra h1
    obtain ⟨l, us, rfl, hl, ts⟩ := view_K c rb h2
    obtain ⟨h3, h4⟩ := at_newL (σ := σ) c (rs.append ts) q e Q f
    exact .inr (.inl ⟨p, l, vs, us, rfl, rfl, hp, hl, by simpa using h3, h4⟩)
theorem dr_plusC : DR2 G n0 W (rPlus G.K) oPlusC := by
  intro w μ σ a x b y c hn ra rb q e Q f
  unfold oPlusC catL at e
  split at e <;> try cases e
  rename_i xs ys h1 h2
  obtain ⟨p, vs, rfl, hp, rs⟩ := view_K c ra h1
  obtain ⟨l, us, rfl, hl, ts⟩ := view_K c rb h2
  obtain ⟨h3, h4⟩ := at_newC (σ := σ) c hn (rs.append ts) q e Q f
  exact .inr (.inl ⟨p, l, vs, us, rfl, rfl, hp, hl, by simpa using h3, h4⟩)
end
end G4

/-! G5: == and in of data, isinstance. -/
namespace G4
open PySem PySem.Spec PyProof.Rows L2

mutual
def D.py : D → PyData
  | .non => .none
  | .bl b => .bool b
  | .int i => .int i
  | .str x => .str x
  | .tup xs => .tuple (pys xs)
  | .lst xs => .list (pys xs)
  | .scr xs => .list (pys xs)
  | .cell _ => .none
  | .exn _ => .none
def pys : List D → List PyData
  | [] => []
  | d :: ds => d.py :: pys ds
end
mutual
/-- no cells, texts that may be laid, at most n deep -/
def D.nice : Nat → D → Bool
  | n, .tup xs => match n with
    | 0 => false
    | n + 1 => nices n xs
  | n, .lst xs => match n with
    | 0 => false
    | n + 1 => nices n xs
  | n, .scr xs => match n with
    | 0 => false
    | n + 1 => nices n xs
  | _, .cell _ => false
  | _, .exn _ => false
  | _, .str x => PyData.strOk x
  | _, _ => true
def nices : Nat → List D → Bool
  | _, [] => true
  | n, d :: ds => d.nice n && nices n ds
end
theorem pys_map (ds : List D) : pys ds = ds.map D.py := by
  induction ds with
  | nil => rfl
  | cons d ds ih => simp [pys, ih]
theorem nices_iff {n : Nat} {ds : List D} : nices n ds = true ↔ ∀ d ∈ ds, d.nice n = true := by
  induction ds with
  | nil => simp [nices]
  | cons d ds ih => simp [nices, ih]
mutual
theorem nice_py : ∀ {n : Nat} {d : D}, d.nice n = true → d.pure = true ∧ d.py.canLay0 = true ∧ d.py.depth ≤ n
  | n, .non, _ => ⟨rfl, rfl, by simp [D.py, PyData.depth]⟩
  | n, .bl b, _ => ⟨rfl, rfl, by simp [D.py, PyData.depth]⟩
  | n, .int i, _ => ⟨rfl, rfl, by simp [D.py, PyData.depth]⟩
  | n, .str x, h => ⟨rfl, by simpa [D.py, PyData.canLay0, D.nice] using h, by simp [D.py, PyData.depth]⟩
  | 0, .tup xs, h => by simp [D.nice] at h
  | n + 1, .tup xs, h => by
    obtain ⟨h1, h2, h3⟩ := nices_py (n := n) (ds := xs) (by simpa [D.nice] using h)
    exact ⟨by simpa [D.pure] using h1, by simpa [D.py, PyData.canLay0] using h2, by simp only [D.py, PyData.depth]; omega⟩
  | 0, .lst xs, h => by simp [D.nice] at h
  | n + 1, .lst xs, h => by
    obtain ⟨h1, h2, h3⟩ := nices_py (n := n) (ds := xs) (by simpa [D.nice] using h)
    exact ⟨by simpa [D.pure] using h1, by simpa [D.py, PyData.canLay0] using h2, by simp only [D.py, PyData.depth]; omega⟩
  | 0, .scr xs, h => by simp [D.nice] at h
  | n + 1, .scr xs, h => by
    obtain ⟨h1, h2, h3⟩ := nices_py (n := n) (ds := xs) (by simpa [D.nice] using h)
    exact ⟨by simpa [D.pure] using h1, by simpa [D.py, PyData.canLay0] using h2, by simp only [D.py, PyData.depth]; omega⟩
  | n, .cell k, h => by simp [D.nice] at h
  | n, .exn k, h => by simp [D.nice] at h
theorem nices_py : ∀ {n : Nat} {ds : List D}, nices n ds = true → pures ds = true ∧ PyData.canLayAll0 (pys ds) = true ∧ PyData.depthAll (pys ds) ≤ n
  | n, [], _ => ⟨rfl, rfl, by simp [pys, PyData.depthAll]⟩
  | n, d :: ds, h => by
    simp only [nices, Bool.and_eq_true] at h
    obtain ⟨a1, a2, a3⟩ := nice_py h.1
    obtain ⟨b1, b2, b3⟩ := nices_py h.2
    refine ⟨by simp [pures, a1, b1], by simp [pys, PyData.canLayAll0, a2, b2], ?_⟩
    simp only [pys, PyData.depthAll]
    omega
end
theorem nice_shaped {d : D} (h : d.nice 60 = true) : SeqAt.shaped d.py = true := by
  obtain ⟨_, h2, h3⟩ := nice_py h
  show (d.py.canLay0 && decide (d.py.depth ≤ 64)) = true
  rw [Bool.and_eq_true]
  exact ⟨h2, decide_eq_true (by omega)⟩
mutual
theorem Fr.dp {K : PySem.W.Frag} {w : Hw} : ∀ {d : D} {v : V}, d.pure = true → Fr K w d v → Dp K w.H v d.py
  | .non, _, _, h => by cases h; exact .non
  | .bl b, _, _, h => by cases h; exact .bl b
  | .int i, _, _, h => by cases h; exact .int i
  | .str x, _, _, h => by cases h; exact .str x
  | .tup xs, _, p, ⟨a, vs, e, n, h, r⟩ => by subst e; exact .tup (.of h) (Frs.dp (by simpa [D.pure] using p) r)
  | .lst xs, _, p, ⟨a, vs, e, n, h, r⟩ => by subst e; exact .lst (.of h) (Frs.dp (by simpa [D.pure] using p) r)
  | .scr xs, _, p, ⟨a, vs, e, h, r⟩ => by subst e; exact .lst h.sq (Frs.dp (by simpa [D.pure] using p) r)
  | .cell k, _, p, _ => by simp [D.pure] at p
  | .exn k, _, p, _ => by simp [D.pure] at p
theorem Frs.dp {K : PySem.W.Frag} {w : Hw} : ∀ {ds : List D} {vs : List V}, pures ds = true → Frs K w ds vs → DpAll K w.H vs (pys ds)
  | [], _, _, h => by cases h; exact .nil
  | d :: ds, _, p, ⟨v, r, e, h, t⟩ => by
    subst e
    simp only [pures, Bool.and_eq_true] at p
    exact .cons (Fr.dp p.1 h) (Frs.dp p.2 t)
end
/-- data as it is compared: a cell's content, if it is a list -/
def val (μ : Mu) : D → D
  | .cell k => match μ[k]? with
    | some (some (.lst xs)) => .lst xs
    | _ => .cell k
  | d => d
theorem val_dp {G : Gx} {w : Hw} {μ : Mu} (c : Mc G w μ) {d : D} {v : V} (h : Fr G.K w d v) (n : (val μ d).nice 60 = true) : Dp G.K w.H v (val μ d).py := by
  cases d with
  | cell k =>
    unfold val at n ⊢
    simp only at n ⊢
    split
    · rename_i xs hm
      rw [hm] at n
      obtain ⟨a, rfl, ha⟩ := h
      obtain ⟨⟨vs, h1, h2⟩, _⟩ := c.cell k _ a hm ha
      have p := (nice_py n).1
      exact .lst (.of h1) (Frs.dp (by simpa [D.pure] using p) h2)
    · rename_i hm
      split at n
      · rename_i xs hm2
        exact absurd hm2 (hm xs)
      · simp [D.nice] at n
  | non => exact Fr.dp (nice_py n).1 h
  | bl b => exact Fr.dp (nice_py n).1 h
  | int b => exact Fr.dp (nice_py n).1 h
  | str b => exact Fr.dp (nice_py n).1 h
  | tup b => exact Fr.dp (nice_py n).1 h
  | lst b => exact Fr.dp (nice_py n).1 h
  | exn b => exact Fr.dp (nice_py n).1 h
  | scr b => exact Fr.dp (nice_py n).1 h
def D.eqv (a b : D) : Bool := PyData.eqv a.py b.py
def oEq (a b : D) (μ : Mu) : Ro D := if (val μ a).nice 60 && (val μ b).nice 60 then some (.ok (.bl ((val μ a).eqv (val μ b))) μ) else none
def oNe (a b : D) (μ : Mu) : Ro D := if (val μ a).nice 60 && (val μ b).nice 60 then some (.ok (.bl (!(val μ a).eqv (val μ b))) μ) else none
section
variable {G : Gx} {n0 : Nat} {W : WX}
theorem dr_eq : DR2 G n0 W (rEqD G.K) oEq := by
  intro w μ σ a x b y c hn ra rb q e Q f
  unfold oEq at e
  split at e <;> rename_i hs <;> cases e
  rw [Bool.and_eq_true] at hs
  exact ⟨_, _, val_dp c ra hs.1, val_dp c rb hs.2, nice_shaped hs.1, nice_shaped hs.2, f w _ (.refl c) rfl⟩
theorem dr_ne : DR2 G n0 W (rNeD G.K) oNe := by
  intro w μ σ a x b y c hn ra rb q e Q f
  unfold oNe at e
  split at e <;> rename_i hs <;> cases e
  rw [Bool.and_eq_true] at hs
  exact ⟨_, _, val_dp c ra hs.1, val_dp c rb hs.2, nice_shaped hs.1, nice_shaped hs.2, f w _ (.refl c) rfl⟩

/-! ### x in xs -/
def D.flat : D → Bool
  | .non => true
  | .bl _ => true
  | .int _ => true
  | .str _ => true
  | _ => false
theorem Fr.flat {K : PySem.W.Frag} {w : Hw} {d : D} {v : V} (h : Fr K w d v) (f : d.flat = true) : flatV v = true := by
  cases d <;> first | (simp [D.flat] at f; done) | (cases h; rfl)
theorem beq_ite (a : Bool) (b : Bool) : ((if a = true then (1 : Int) else 0) == (if b = true then 1 else 0)) = (a == b) := by cases a <;> cases b <;> rfl
theorem Fr.eqV {K : PySem.W.Frag} {w : Hw} {d e : D} {v u : V} (h : Fr K w d v) (k : Fr K w e u) (f : d.flat = true) (g : e.flat = true) : eqV v u = d.eqv e := by
  cases d <;> first
    | (simp [D.flat] at f; done)
    | (cases h
       cases e <;> first
        | (simp [D.flat] at g; done)
        | (cases k; first | rfl | simp [L2.eqV, D.eqv, D.py, PyData.eqv]))
theorem Frs.flat {K : PySem.W.Frag} {w : Hw} : ∀ {ds : List D} {vs : List V}, Frs K w ds vs → ds.all D.flat = true → vs.all flatV = true
  | [], _, h, _ => by cases h; rfl
  | d :: ds, _, ⟨v, r, e, h, t⟩, f => by
    subst e
    simp only [List.all_cons, Bool.and_eq_true] at f ⊢
    exact ⟨h.flat f.1, Frs.flat t f.2⟩
theorem Frs.inV {K : PySem.W.Frag} {w : Hw} {d : D} {v : V} (h : Fr K w d v) (f : d.flat = true) : ∀ {ds : List D} {vs : List V}, Frs K w ds vs → ds.all D.flat = true → inV v vs = ds.any fun z => z.eqv d
  | [], _, q, _ => by cases q; rfl
  | e :: ds, _, ⟨u, r, eq, k, t⟩, g => by
    subst eq
    simp only [List.all_cons, Bool.and_eq_true] at g
    have ih := Frs.inV h f t g.2
    unfold L2.inV at ih ⊢
    rw [List.any_cons, List.any_cons, ih, k.eqV h g.1 f]
def inD (neg : Bool) (a b : D) (μ : Mu) : Ro D := match b with
  | .tup ys => if a.flat && ys.all D.flat then some (.ok (.bl (neg ^^ (ys.any fun z => z.eqv a))) μ) else none
  | b => match val μ b with
    | .lst ys => if (val μ a).nice 60 && (D.lst ys).nice 60 then some (.ok (.bl (neg ^^ (ys.any fun z => z.eqv (val μ a)))) μ) else none
    | _ => none
abbrev oIn := inD false
abbrev oNotIn := inD true
def rInA (K : PySem.W.Frag) : R2 := fun x y H Q => rIn K false x y H Q ∨ rInD K x y H Q
def rNotInA (K : PySem.W.Frag) : R2 := fun x y H Q => rIn K true x y H Q ∨ rNotInD K x y H Q
theorem op_inA {X : Cx} (hu : X.A.units + 65 < cLine) : OpR X (compareOp .In) (rInA X.K) := opR_or op_in_seq (op_inD hu)
theorem op_notInA {X : Cx} (hu : X.A.units + 65 < cLine) : OpR X (compareOp .NotIn) (rNotInA X.K) := opR_or op_notIn_seq (op_notInD hu)
theorem any_py (a : D) (ys : List D) : ((pys ys).any fun z => PyData.eqv z a.py) = ys.any fun z => z.eqv a := by
  rw [pys_map, List.any_map]
  rfl
theorem val_lst {G : Gx} {w : Hw} {μ : Mu} (c : Mc G w μ) {d : D} {v : V} {ys : List D} (h : Fr G.K w d v) (e : val μ d = .lst ys) (n : (D.lst ys).nice 60 = true) : Dp G.K w.H v (.list (pys ys)) := by
  have := val_dp c h (by rw [e]; exact n)
  rw [e] at this
  exact this
theorem dr_in : DR2 G n0 W (rInA G.K) oIn := by
  intro w μ σ a x b y c hn ra rb q e Q f
  unfold oIn inD at e
  split at e
  · rename_i ys
    split at e <;> rename_i hs <;> cases e
    rw [Bool.and_eq_true] at hs
    obtain ⟨p, vs, rfl, np, hp, rs⟩ := rb
    refine .inl ⟨p, vs, rfl, .inr (.of hp), ra.flat hs.1, rs.flat hs.2, f w _ (.refl c) ?_⟩
    rw [Frs.inV ra hs.1 rs hs.2]
    simp [Fr]
  · split at e <;> try cases e
    rename_i ys hy
    split at e <;> rename_i hs <;> cases e
    rw [Bool.and_eq_true] at hs
    refine .inr ⟨_, _, val_dp c ra hs.1, val_lst c rb hy hs.2, nice_shaped hs.1, nice_shaped (d := .lst ys) hs.2, f w _ (.refl c) ?_⟩
    rw [any_py]
    simp [Fr]
theorem dr_notIn : DR2 G n0 W (rNotInA G.K) oNotIn := by
  intro w μ σ a x b y c hn ra rb q e Q f
  unfold oNotIn inD at e
  split at e
  · rename_i ys
    split at e <;> rename_i hs <;> cases e
    rw [Bool.and_eq_true] at hs
    obtain ⟨p, vs, rfl, np, hp, rs⟩ := rb
    refine .inl ⟨p, vs, rfl, .inr (.of hp), ra.flat hs.1, rs.flat hs.2, f w _ (.refl c) ?_⟩
    rw [Frs.inV ra hs.1 rs hs.2]
    simp [Fr]
  · split at e <;> try cases e
    rename_i ys hy
    split at e <;> rename_i hs <;> cases e
    rw [Bool.and_eq_true] at hs
    refine .inr ⟨_, _, val_dp c ra hs.1, val_lst c rb hy hs.2, nice_shaped hs.1, nice_shaped (d := .lst ys) hs.2, f w _ (.refl c) ?_⟩
    rw [any_py]
    simp [Fr]

/-! ### isinstance with a built-in class -/
def tyD (μ : Mu) : D → String
  | .non => "NoneType"
  | .bl _ => "bool"
  | .int _ => "int"
  | .str _ => "str"
  | .tup _ => "tuple"
  | .lst _ => "list"
  | .scr _ => "list"
  | .cell k => match μ[k]? with
    | some (some (.lst _)) => "list"
    | some (some (.dK _)) => "dict"
    | some (some (.dT _)) => "dict"
    | _ => ""
  | .exn _ => ""
theorem tyD_ok {G : Gx} {w : Hw} {μ : Mu} (c : Mc G w μ) {d : D} {v : V} (h : Fr G.K w d v) (hn : tyD μ d ≠ "") : TyX G.K w.H v (.type (tyD μ d)) := by
  cases d with
  | non => cases h; exact .base .non
  | bl b => cases h; exact .base (.bl b)
  | int b => cases h; exact .base (.int b)
  | str b => cases h; exact .base (.str b)
  | tup b => obtain ⟨a, vs, rfl, n, h, r⟩ := h; exact .base (.tup h)
  | lst b => obtain ⟨a, vs, rfl, n, h, r⟩ := h; exact .base (.lst h)
  | scr b =>
    obtain ⟨a, vs, rfl, h, r⟩ := h
    rcases h with ⟨_, h | ⟨o, h⟩⟩ | ⟨o, its, n, h1, h2, _⟩
    · exact .base (.lst h)
    · exact .base (.frz h)
    · exact .kList h1 h2
  | cell k =>
    obtain ⟨a, rfl, ha⟩ := h
    unfold tyD at hn ⊢
    simp only at hn ⊢
    split
    · rename_i hm
      obtain ⟨⟨vs, h1, _⟩, _⟩ := c.cell k _ a hm ha
      exact .base (.lst h1)
    · rename_i hm
      obtain ⟨⟨vs, h1, _⟩, _⟩ := c.cell k _ a hm ha
      exact .base (.dK h1)
    · rename_i hm
      obtain ⟨⟨vs, h1, _⟩, _⟩ := c.cell k _ a hm ha
      exact .base (.dT h1)
    · rename_i h1 h2 h3
      split at hn
      · rename_i z; exact absurd z (h1 _)
      · rename_i z; exact absurd z (h2 _)
      · rename_i z; exact absurd z (h3 _)
      · exact absurd rfl hn
  | exn b => exact absurd rfl hn
def isD (t : String) (c : String) : Option Bool := match t, c with
  | "int", "int" => some true
  | "bool", "bool" => some true
  | "bool", "int" => some true
  | "str", "str" => some true
  | "tuple", "tuple" => some true
  | "list", "list" => some true
  | "dict", "dict" => some true
  | "NoneType", "int" => some false
  | "NoneType", "bool" => some false
  | "NoneType", "tuple" => some false
  | "NoneType", "list" => some false
  | "NoneType", "str" => some false
  | "int", "bool" => some false
  | "int", "tuple" => some false
  | "int", "list" => some false
  | "int", "str" => some false
  | "str", "int" => some false
  | "str", "bool" => some false
  | "str", "tuple" => some false
  | "str", "list" => some false
  | "tuple", "int" => some false
  | "tuple", "bool" => some false
  | "tuple", "list" => some false
  | "tuple", "str" => some false
  | "list", "int" => some false
  | "list", "bool" => some false
  | "list", "tuple" => some false
  | "list", "str" => some false
  | "bool", "tuple" => some false
  | "bool", "list" => some false
  | "bool", "str" => some false
  | _, _ => none
theorem isD_kit {t c : String} {b : Bool} (h : isD t c = some b) : kitB t c = some b := by
  unfold isD at h
  split at h <;> first | (cases h; decide +kernel) | cases h
/-- isinstance(x, T), T a built-in class by name -/
def eIsi (T : String) (f : Ev D) : Ev D := fun ρ μ => (f ρ μ).bnd fun d μ1 => match isD (tyD μ1 d) T with
  | some b => some (.ok (.bl b) μ1)
  | none => none
theorem de_isi {T : String} {t : TE} {f : Ev D} (h : DE G n0 W t f) : DE G n0 W (tCB (rIsi G.K) (tCons t (tCons (tC (.ty T)) tNil))) (eIsi T f) := by
  intro w ρ μ σ c vr hn
  refine (h w ρ μ σ c vr hn).bnd (uu := fun x H1 Q => rIsi G.K [x, .ty T] H1 Q) fun w1 μ1 d x p1 r1 => ?_
  intro q e Q f
  split at e <;> cases e
  rename_i b hb
  have hne : tyD μ1 d ≠ "" := fun z => by rw [z] at hb; simp [isD] at hb
  exact ⟨x, .ty T, _, _, b, rfl, .ty T, tyD_ok p1.mc r1 hne, kit_ty (isD_kit hb), f w1 _ (.refl p1.mc) rfl⟩
end
end G4

/-! G6: dicts, targets, statements, loops, comprehensions. -/
namespace G4
open PySem PySem.Spec PyProof.Rows L2

/-! ### dicts -/
section
variable {κ : Type} [DecidableEq κ]
def look (kvs : List (κ × D)) (k : κ) : Option D := (kvs.find? fun kv => decide (kv.1 = k)).map (·.2)
def putD (kvs : List (κ × D)) (k : κ) (d : D) : List (κ × D) := if (kvs.any fun kv => decide (kv.1 = k)) = true then kvs.map (fun kv => if kv.1 = k then (kv.1, d) else kv) else kvs ++ [(k, d)]
theorem look_rel {K : PySem.W.Frag} {w : Hw} (k : κ) : ∀ {kvs : List (κ × D)} {kvs' : List (κ × V)}, kvs'.map (·.1) = kvs.map (·.1) → Frs K w (kvs.map (·.2)) (kvs'.map (·.2)) →
    (∀ d, look kvs k = some d → ∃ v, valV kvs' k = some v ∧ Fr K w d v) ∧ (look kvs k = none → valV kvs' k = none)
  | [], [], _, _ => ⟨fun d h => (by simp [look] at h), fun _ => rfl⟩
  | [], _ :: _, e, _ => by simp at e
  | _ :: _, [], e, _ => by simp at e
  | p :: r, q :: r', e, f => by
    simp only [List.map_cons, List.cons.injEq] at e
    obtain ⟨e1, e2⟩ := e
    obtain ⟨v, s, e3, h, t⟩ := f
    simp only [List.map_cons, List.cons.injEq] at e3
    obtain ⟨e3, e4⟩ := e3
    rw [← e4] at t
    obtain ⟨i1, i2⟩ := look_rel k e2 t
    by_cases hk : p.1 = k
    · have hk' : q.1 = k := e1.trans hk
      have l1 : look (p :: r) k = some p.2 := by simp [look, List.find?_cons, hk]
      have l2 : valV (q :: r') k = some q.2 := valV_pos hk'
      refine ⟨fun d hd => ?_, fun hd => ?_⟩
      · rw [l1] at hd
        cases hd
        exact ⟨q.2, l2, e3 ▸ h⟩
      · rw [l1] at hd; cases hd
    · have hk' : ¬ q.1 = k := fun z => hk (e1 ▸ z)
      have l1 : look (p :: r) k = look r k := by simp [look, List.find?_cons, hk]
      have l2 : valV (q :: r') k = valV r' k := valV_neg hk'
      rw [l1, l2]
      exact ⟨i1, i2⟩
theorem any_rel (k : κ) : ∀ {kvs : List (κ × D)} {kvs' : List (κ × V)}, kvs'.map (·.1) = kvs.map (·.1) → (kvs'.any fun kv => decide (kv.1 = k)) = (kvs.any fun kv => decide (kv.1 = k))
  | [], [], _ => rfl
  | [], _ :: _, e => by simp at e
  | _ :: _, [], e => by simp at e
  | p :: r, q :: r', e => by
    simp only [List.map_cons, List.cons.injEq] at e
    rw [List.any_cons, List.any_cons, e.1, any_rel k e.2]
theorem map_rel {K : PySem.W.Frag} {w : Hw} (k : κ) {d : D} {v : V} (fr : Fr K w d v) : ∀ {kvs : List (κ × D)} {kvs' : List (κ × V)}, kvs'.map (·.1) = kvs.map (·.1) → Frs K w (kvs.map (·.2)) (kvs'.map (·.2)) →
    (kvs'.map fun kv => if kv.1 = k then (kv.1, v) else kv).map (·.1) = (kvs.map fun kv => if kv.1 = k then (kv.1, d) else kv).map (·.1) ∧
    Frs K w ((kvs.map fun kv => if kv.1 = k then (kv.1, d) else kv).map (·.2)) ((kvs'.map fun kv => if kv.1 = k then (kv.1, v) else kv).map (·.2))
  | [], [], _, _ => ⟨rfl, rfl⟩
  | [], _ :: _, e, _ => by simp at e
  | _ :: _, [], e, _ => by simp at e
  | p :: r, q :: r', e, f => by
    simp only [List.map_cons, List.cons.injEq] at e
    obtain ⟨e1, e2⟩ := e
    obtain ⟨u, s, e3, h, t⟩ := f
    simp only [List.map_cons, List.cons.injEq] at e3
    obtain ⟨e3, e4⟩ := e3
    rw [← e4] at t
    obtain ⟨i1, i2⟩ := map_rel k fr e2 t
    by_cases hk : p.1 = k
    · have hk' : q.1 = k := e1.trans hk
      simp only [List.map_cons, if_pos hk, if_pos hk', i1, e1]
      exact ⟨trivial, v, _, rfl, fr, i2⟩
    · have hk' : ¬ q.1 = k := fun z => hk (e1 ▸ z)
      simp only [List.map_cons, if_neg hk, if_neg hk', i1, e1]
      exact ⟨trivial, q.2, _, rfl, e3 ▸ h, i2⟩
theorem put_rel {K : PySem.W.Frag} {w : Hw} (k : κ) {d : D} {v : V} (fr : Fr K w d v) {kvs : List (κ × D)} {kvs' : List (κ × V)} (e : kvs'.map (·.1) = kvs.map (·.1)) (f : Frs K w (kvs.map (·.2)) (kvs'.map (·.2))) :
    (putK kvs' k v).map (·.1) = (putD kvs k d).map (·.1) ∧ Frs K w ((putD kvs k d).map (·.2)) ((putK kvs' k v).map (·.2)) := by
  unfold putK putD
  rw [any_rel k e]
  split
  · exact map_rel k fr e f
  · simp only [List.map_append, e]
    exact ⟨rfl, f.append (Frs.one fr)⟩
theorem low_put {n : Nat} (k : κ) {d : D} (h : d.low n = true) {kvs : List (κ × D)} (hk : lows n (kvs.map (·.2)) = true) : lows n ((putD kvs k d).map (·.2)) = true := by
  rw [lows_iff] at hk ⊢
  intro e he
  unfold putD at he
  split at he
  · rw [List.map_map] at he
    obtain ⟨p, hp, q⟩ := List.mem_map.mp he
    simp only [Function.comp] at q
    split at q
    · subst q; exact h
    · subst q; exact hk _ (List.mem_map_of_mem hp)
  · rw [List.map_append, List.mem_append] at he
    rcases he with he | he
    · exact hk e he
    · have : e = d := by simpa using he
      subst this
      exact h
end
def keyOf : D → Option Key
  | .int i => some (.inl i)
  | .str x => some (.inr x)
  | _ => none
theorem keyOf_ok {K : PySem.W.Frag} {w : Hw} {d : D} {v : V} {k : Key} (h : Fr K w d v) (e : keyOf d = some k) : v = kV k := by
  cases d <;> simp [keyOf] at e <;> subst e <;> exact h
def keysOf : List D → Option (List Key)
  | [] => some []
  | d :: ds => match keyOf d, keysOf ds with
    | some k, some ks => some (k :: ks)
    | _, _ => none
theorem keysOf_ok {K : PySem.W.Frag} {w : Hw} : ∀ {ds : List D} {vs : List V} {ks : List Key}, Frs K w ds vs → keysOf ds = some ks → vs = ks.map kV
  | [], _, _, h, e => by cases h; cases e; rfl
  | d :: ds, _, _, ⟨v, r, q, h, t⟩, e => by
    subst q
    unfold keysOf at e
    split at e <;> cases e
    rename_i k ks e1 e2
    rw [List.map_cons, ← keyOf_ok h e1, ← keysOf_ok t e2]
/-- what the dict d holds at e -/
def dget (μ : Mu) (d e : D) : Option (Option D) := match d with
  | .cell k => match μ[k]? with
    | some (some (.dK kvs)) => match keyOf e with
      | some j => some (look kvs j)
      | none => none
    | some (some (.dT kvs)) => match e with
      | .tup es => match keysOf es with
        | some j => some (look kvs j)
        | none => none
      | _ => none
    | _ => none
  | _ => none
theorem dget_ok {G : Gx} {w : Hw} {μ : Mu} (c : Mc G w μ) {d e : D} {x y : V} {o : Option D} (h : Fr G.K w d x) (k : Fr G.K w e y) (q : dget μ d e = some o) :
    ∃ a o', x = .ref a ∧ DGet w.H a y o' ∧ (∀ r, o = some r → ∃ v, o' = some v ∧ Fr G.K w r v) ∧ (o = none → o' = none) := by
  unfold dget at q
  split at q
  · obtain ⟨a, rfl, ha⟩ := h
    split at q
    · rename_i kvs hm
      split at q <;> cases q
      rename_i j hj
      obtain ⟨⟨kvs', h1, h2, h3⟩, _⟩ := c.cell _ _ a hm ha
      rw [keyOf_ok k hj]
      obtain ⟨l1, l2⟩ := look_rel j h2 h3
      exact ⟨a, _, rfl, .k h1, l1, l2⟩
    · rename_i kvs hm
      split at q <;> try cases q
      split at q <;> cases q
      rename_i es j hj
      obtain ⟨⟨kvs', h1, h2, h3⟩, _⟩ := c.cell _ _ a hm ha
      obtain ⟨b, vs, rfl, nb, hb, rs⟩ := k
      rw [keysOf_ok rs hj] at hb
      obtain ⟨l1, l2⟩ := look_rel j h2 h3
      exact ⟨a, _, rfl, .t h1 hb, l1, l2⟩
    · cases q
  · cases q
section
variable {G : Gx} {n0 : Nat} {W : WX}
def eGet (f g : Ev D) : Ev D := fun ρ μ => (f ρ μ).bnd fun a μ1 => (g ρ μ1).bnd fun b μ2 => match dget μ2 a b with
  | some (some d) => some (.ok d μ2)
  | _ => none
theorem de_get {t u : TE} {f g : Ev D} (h : DE G n0 W t f) (k : DE G n0 W u g) : DE G n0 W (tDGet t u) (eGet f g) := by
  intro w ρ μ σ c vr hn
  refine (h w ρ μ σ c vr hn).bnd (uu := fun x H1 (Q : VK) => u σ H1 fun y H2 => ∃ a v, x = .ref a ∧ DGet H2 a y (some v) ∧ Q v H2) fun w1 μ1 d x p1 r1 => ?_
  refine (k w1 ρ μ1 σ p1.mc (vr.mono p1.ex) (p1.nn hn)).bnd (uu := fun y H2 (Q : VK) => ∃ a v, x = .ref a ∧ DGet H2 a y (some v) ∧ Q v H2) fun w2 μ2 e y p2 r2 => ?_
  intro q eq Q fin
  split at eq <;> cases eq
  rename_i d' hd
  obtain ⟨a, o', e1, g1, g2, _⟩ := dget_ok p2.mc (r1.mono p2.ex) r2 hd
  obtain ⟨v, rfl, fr⟩ := g2 d' rfl
  exact ⟨a, v, e1, g1, fin w2 v (.refl p2.mc) fr⟩
/-- k in d -/
def eDin (neg : Bool) (f g : Ev D) : Ev D := fun ρ μ => (f ρ μ).bnd fun b μ1 => (g ρ μ1).bnd fun a μ2 => match dget μ2 a b with
  | some o => some (.ok (.bl (neg ^^ o.isSome)) μ2)
  | none => none
theorem de_din {t u : TE} {f g : Ev D} (h : DE G n0 W t f) (k : DE G n0 W u g) : DE G n0 W (tDIn t u) (eDin false f g) := by
  intro w ρ μ σ c vr hn
  refine (h w ρ μ σ c vr hn).bnd (uu := fun y H1 (Q : VK) => u σ H1 fun x H2 => ∃ a o, x = .ref a ∧ DGet H2 a y o ∧ Q (.bl o.isSome) H2) fun w1 μ1 d x p1 r1 => ?_
  refine (k w1 ρ μ1 σ p1.mc (vr.mono p1.ex) (p1.nn hn)).bnd (uu := fun y H2 (Q : VK) => ∃ a o, y = .ref a ∧ DGet H2 a x o ∧ Q (.bl o.isSome) H2) fun w2 μ2 e y p2 r2 => ?_
  intro q eq Q fin
  split at eq <;> cases eq
  rename_i o hd
  obtain ⟨a, o', e1, g1, g2, g3⟩ := dget_ok p2.mc r2 (r1.mono p2.ex) hd
  refine ⟨a, o', e1, g1, fin w2 _ (.refl p2.mc) ?_⟩
  cases o with
  | none => rw [g3 rfl]; rfl
  | some r => obtain ⟨v, e, _⟩ := g2 r rfl; rw [e]; rfl
theorem de_dnotin {t u : TE} {f g : Ev D} (h : DE G n0 W t f) (k : DE G n0 W u g) : DE G n0 W (tDNotIn t u) (eDin true f g) := by
  intro w ρ μ σ c vr hn
  refine (h w ρ μ σ c vr hn).bnd (uu := fun y H1 (Q : VK) => u σ H1 fun x H2 => ∃ a o, x = .ref a ∧ DGet H2 a y o ∧ Q (.bl (!o.isSome)) H2) fun w1 μ1 d x p1 r1 => ?_
  refine (k w1 ρ μ1 σ p1.mc (vr.mono p1.ex) (p1.nn hn)).bnd (uu := fun y H2 (Q : VK) => ∃ a o, y = .ref a ∧ DGet H2 a x o ∧ Q (.bl (!o.isSome)) H2) fun w2 μ2 e y p2 r2 => ?_
  intro q eq Q fin
  split at eq <;> cases eq
  rename_i o hd
  obtain ⟨a, o', e1, g1, g2, g3⟩ := dget_ok p2.mc r2 (r1.mono p2.ex) hd
  refine ⟨a, o', e1, g1, fin w2 _ (.refl p2.mc) ?_⟩
  cases o with
  | none => rw [g3 rfl]; rfl
  | some r => obtain ⟨v, e, _⟩ := g2 r rfl; rw [e]; rfl
/-- {} -/
def eNewK : Ev D := fun ρ μ => some (.ok (.cell μ.length) (μ ++ [some (.dK [])]))
def eNewT : Ev D := fun ρ μ => some (.ok (.cell μ.length) (μ ++ [some (.dT [])]))
theorem de_newK : DE G n0 W tDNewK eNewK := by
  intro w ρ μ σ c vr hn q e Q f
  cases e
  exact fun p hp => fin_mk (m := .dK []) c hn hp ⟨[], upd_same, rfl, rfl⟩ f
theorem de_newT : DE G n0 W tDNewT eNewT := by
  intro w ρ μ σ c vr hn q e Q f
  cases e
  exact fun p hp => fin_mk (m := .dT []) c hn hp ⟨[], upd_same, rfl, rfl⟩ f
/-- {k: v, ..} -/
def ePairs : List (Ev D × Ev D) → Ev (List (D × D))
  | [] => fun _ μ => some (.ok [] μ)
  | p :: r => fun ρ μ => (p.1 ρ μ).bnd fun a μ1 => (p.2 ρ μ1).bnd fun b μ2 => (ePairs r ρ μ2).bnd fun ps μ3 => some (.ok ((a, b) :: ps) μ3)
inductive DPs (G : Gx) (n0 : Nat) (W : WX) : List (TE × TE) → List (Ev D × Ev D) → Prop
  | nil : DPs G n0 W [] []
  | cons {t u : TE} {f g : Ev D} {ts fs} : DE G n0 W t f → DE G n0 W u g → DPs G n0 W ts fs → DPs G n0 W ((t, u) :: ts) ((f, g) :: fs)
def Prs (K : PySem.W.Frag) (w : Hw) (ps : List (D × D)) (vs : List (V × V)) : Prop := Frs K w (ps.map (·.1)) (vs.map (·.1)) ∧ Frs K w (ps.map (·.2)) (vs.map (·.2))
theorem dps_ok {ts : List (TE × TE)} {fs : List (Ev D × Ev D)} (h : DPs G n0 W ts fs) : DX G n0 W (Prs G.K) (tPairs ts) (ePairs fs) := by
  induction h with
  | nil => exact fun w ρ μ σ c vr hn => .ret (v := []) c ⟨rfl, rfl⟩ fun Q q => q
  | @cons t u f g ts fs h k _ ih =>
    intro w ρ μ σ c vr hn
    refine (h w ρ μ σ c vr hn).bnd (uu := fun x H1 Q => u σ H1 fun y H2 => tPairs ts σ H2 fun ps H3 => Q ((x, y) :: ps) H3) fun w1 μ1 a x p1 r1 => ?_
    refine (k w1 ρ μ1 σ p1.mc (vr.mono p1.ex) (p1.nn hn)).bnd (uu := fun y H2 Q => tPairs ts σ H2 fun ps H3 => Q ((x, y) :: ps) H3) fun w2 μ2 b y p2 r2 => ?_
    refine (ih w2 ρ μ2 σ p2.mc ((vr.mono p1.ex).mono p2.ex) (p2.nn (p1.nn hn))).bnd (uu := fun ps H3 Q => Q ((x, y) :: ps) H3) fun w3 μ3 ps vs p3 r3 => ?_
    exact .ret p3.mc ⟨⟨x, _, rfl, (r1.mono p2.ex).mono p3.ex, r3.1⟩, ⟨y, _, rfl, r2.mono p3.ex, r3.2⟩⟩ fun Q q => q
def keyPs : List (D × D) → Option (List (Key × D))
  | [] => some []
  | p :: r => match keyOf p.1, keyPs r with
    | some k, some ks => some ((k, p.2) :: ks)
    | _, _ => none
theorem keyPs_ok {K : PySem.W.Frag} {w : Hw} : ∀ {ps : List (D × D)} {vs : List (V × V)} {kvs : List (Key × D)}, Prs K w ps vs → keyPs ps = some kvs →
    ∃ kvs' : List (Key × V), vs = kvs'.map (fun kv => (kV kv.1, kv.2)) ∧ kvs'.map (·.1) = kvs.map (·.1) ∧ Frs K w (kvs.map (·.2)) (kvs'.map (·.2)) ∧ kvs'.length = kvs.length
  | [], [], _, _, e => by cases e; exact ⟨[], rfl, rfl, rfl, rfl⟩
  | [], _ :: _, _, h, _ => by have := h.1; simp [Frs] at this
  | _ :: _, [], _, h, _ => by obtain ⟨v, r, e, _⟩ := h.1; simp at e
  | p :: ps, q :: vs, _, ⟨⟨v, r, e1, h1, t1⟩, ⟨u, s, e2, h2, t2⟩⟩, e => by
    unfold keyPs at e
    split at e <;> cases e
    rename_i k ks k1 k2
    simp only [List.map_cons, List.cons.injEq] at e1 e2
    obtain ⟨e1, e1'⟩ := e1
    obtain ⟨e2, e2'⟩ := e2
    rw [← e1'] at t1
    rw [← e2'] at t2
    obtain ⟨kvs', i1, i2, i3, i4⟩ := keyPs_ok (ps := ps) (vs := vs) ⟨t1, t2⟩ k2
    refine ⟨(k, q.2) :: kvs', ?_, by simp [i2], ⟨q.2, _, rfl, e2 ▸ h2, i3⟩, by simp [i4]⟩
    rw [List.map_cons, ← i1]
    have := keyOf_ok h1 k1
    obtain ⟨q1, q2⟩ := q
    simp only at e1
    rw [e1, this]
def mergeD (kvs more : List (Key × D)) : List (Key × D) := more.foldl (fun acc kv => putD acc kv.1 kv.2) kvs
theorem merge_rel {K : PySem.W.Frag} {w : Hw} : ∀ {more : List (Key × D)} {more' : List (Key × V)} {kvs : List (Key × D)} {kvs' : List (Key × V)}, more'.map (·.1) = more.map (·.1) → Frs K w (more.map (·.2)) (more'.map (·.2)) →
    kvs'.map (·.1) = kvs.map (·.1) → Frs K w (kvs.map (·.2)) (kvs'.map (·.2)) → (mergeK kvs' more').map (·.1) = (mergeD kvs more).map (·.1) ∧ Frs K w ((mergeD kvs more).map (·.2)) ((mergeK kvs' more').map (·.2))
  | [], [], _, _, _, _, e, f => ⟨e, f⟩
  | [], _ :: _, _, _, e, _, _, _ => by simp at e
  | _ :: _, [], _, _, e, _, _, _ => by simp at e
  | p :: r, q :: r', kvs, kvs', e, f, e', f' => by
    simp only [List.map_cons, List.cons.injEq] at e
    obtain ⟨v, s, e3, h, t⟩ := f
    simp only [List.map_cons, List.cons.injEq] at e3
    obtain ⟨e3, e4⟩ := e3
    rw [← e4] at t
    obtain ⟨a1, a2⟩ := put_rel p.1 (e3 ▸ h : Fr K w p.2 q.2) e' f'
    have := merge_rel (kvs := putD kvs p.1 p.2) (kvs' := putK kvs' p.1 q.2) e.2 t a1 a2
    rw [← e.1] at this
    simpa [mergeK, mergeD, e.1] using this
def eDisp (fs : List (Ev D × Ev D)) : Ev D := fun ρ μ => (ePairs fs ρ μ).bnd fun ps μ1 => match keyPs ps with
  | some kvs => if kvs.length ≤ 15 then some (.ok (.cell μ1.length) (μ1 ++ [some (.dK (mergeD [] kvs))])) else none
  | none => none
theorem de_disp {ts : List (TE × TE)} {fs : List (Ev D × Ev D)} (h : DPs G n0 W ts fs) : DE G n0 W (tDisp ts) (eDisp fs) := by
  intro w ρ μ σ c vr hn r e Q f p hp
  obtain ⟨x1, c1, h1⟩ := Hid.new (o := .dK []) c hp
  have p0 : Post G n0 w μ (w.wr p (.dK [])) μ := ⟨x1, c1, .refl _ _⟩
  rcases Ro.bnd_some e with ⟨ps, μ1, e1, e2⟩ | ⟨x, μ1, e1, e2⟩
  · refine dps_ok h _ ρ μ σ c1 (vr.mono x1) hn _ e1 _ fun w2 vs p2 r2 => ?_
    have h2 := h1.ex p2.ex
    split at e2 <;> try cases e2
    rename_i kvs hk
    split at e2 <;> rename_i hl <;> cases e2
    obtain ⟨kvs', i1, i2, i3, i4⟩ := keyPs_ok r2 hk
    refine ⟨h2.at_, kvs', i1, by omega, ?_⟩
    have x2 := x1.trans p2.ex
    obtain ⟨x3, c3, h3, fr⟩ := Hid.wr (o' := .dK (mergeK [] kvs')) c hp x2 h2 p2.mc
    obtain ⟨m1, m2⟩ := merge_rel (kvs := []) (kvs' := []) i2 i3 rfl (by simp [Frs])
    obtain ⟨x4, c4, l4⟩ := Hid.cel (m := .dK (mergeD [] kvs)) hp x3 h3 c3 ⟨_, upd_same, m1, fr m2⟩
    exact f _ (.ref p) ⟨x4, c4, p2.kp.trans (.push (p2.nn hn) _)⟩ ⟨p, rfl, l4⟩
  · subst e2
    exact dps_ok h _ ρ μ σ c1 (vr.mono x1) hn _ e1 _ fun w2 cls dx p2 xx => f w2 cls dx (p0.trans p2) xx
end
end G4

/-! G7: targets, statements, loops. -/
namespace G4
open PySem PySem.Spec PyProof.Rows L2

inductive Fl where
  | nx (ρ : Env) (μ : Mu)
  | bk (ρ : Env) (μ : Mu)
  | ct (ρ : Env) (μ : Mu)
  | rt (d : D) (μ : Mu)
  | ex (x : XD) (ρ : Env) (μ : Mu)
abbrev Sv := Env → Mu → Option Fl
abbrev Tv := D → Env → Mu → Ro Env

section
variable (G : Gx) (n0 : Nat) (W : WX)
def FinG (w : Hw) (μ : Mu) (σ : L2.St) (Q : L2.St → Hp → Prop) : Rs Env → Prop
  | .ok ρ' μ' => ∀ w' σ', Post G n0 w μ w' μ' → Vr G.K w' ρ' σ' → Q σ' w'.H
  | .exc x μ' => ∀ w' cls dx, Post G n0 w μ w' μ' → Xr G w' x cls dx → W cls dx σ w'.H
/-- a target -/
def DG (g : TG) (h : Tv) : Prop := ∀ w ρ μ σ d v, Mc G w μ → Vr G.K w ρ σ → n0 ≤ μ.length → Fr G.K w d v → ∀ r, h d ρ μ = some r → ∀ Q, FinG G n0 W w μ σ Q r → g v σ w.H Q
def FinS (w : Hw) (μ : Mu) (E : Ends) : Fl → Prop
  | .nx ρ' μ' => ∀ w' σ', Post G n0 w μ w' μ' → Vr G.K w' ρ' σ' → E.nx σ' w'.H
  | .bk ρ' μ' => ∀ w' σ', Post G n0 w μ w' μ' → Vr G.K w' ρ' σ' → E.bk σ' w'.H
  | .ct ρ' μ' => ∀ w' σ', Post G n0 w μ w' μ' → Vr G.K w' ρ' σ' → E.ct σ' w'.H
  | .rt d μ' => ∀ w' v, Post G n0 w μ w' μ' → Fr G.K w' d v → E.rt v w'.H
  | .ex x ρ' μ' => ∀ w' σ' cls dx, Post G n0 w μ w' μ' → Vr G.K w' ρ' σ' → Xr G w' x cls dx → W cls dx σ' w'.H
/-- a statement -/
def DS (t : TS) (g : Sv) : Prop := ∀ w ρ μ σ, Mc G w μ → Vr G.K w ρ σ → n0 ≤ μ.length → ∀ fl, g ρ μ = some fl → ∀ E, FinS G n0 W w μ E fl → t E σ w.H
end
section
variable {G : Gx} {n0 : Nat} {W : WX}
theorem FinS.post {w w1 : Hw} {μ μ1 : Mu} {E : Ends} (p : Post G n0 w μ w1 μ1) : ∀ {fl : Fl}, FinS G n0 W w μ E fl → FinS G n0 W w1 μ1 E fl
  | .nx _ _, f => fun w' σ' p' v => f w' σ' (p.trans p') v
  | .bk _ _, f => fun w' σ' p' v => f w' σ' (p.trans p') v
  | .ct _ _, f => fun w' σ' p' v => f w' σ' (p.trans p') v
  | .rt _ _, f => fun w' v p' r => f w' v (p.trans p') r
  | .ex _ _ _, f => fun w' σ' cls dx p' v x => f w' σ' cls dx (p.trans p') v x
/-- an expression, then a statement's rest -/
def Ro.thn {α : Type} (r : Ro α) (ρ : Env) (k : α → Mu → Option Fl) : Option Fl := match r with
  | some (.ok a μ) => k a μ
  | some (.exc x μ) => some (.ex x ρ μ)
  | none => none
theorem Ro.thn_some {α : Type} {r : Ro α} {ρ : Env} {k : α → Mu → Option Fl} {fl : Fl} (h : r.thn ρ k = some fl) : (∃ a μ, r = some (.ok a μ) ∧ k a μ = some fl) ∨ ∃ x μ, r = some (.exc x μ) ∧ fl = .ex x ρ μ := by
  cases r with
  | none => cases h
  | some r =>
    cases r with
    | ok a μ => exact .inl ⟨a, μ, rfl, h⟩
    | exc x μ => cases h; exact .inr ⟨x, μ, rfl, rfl⟩
theorem thn_run {β ν : Type} {R : Hw → β → ν → Prop} {t : L2.St → Hp → (ν → Hp → Prop) → Prop} {f : Ev β} {w : Hw} {ρ : Env} {μ : Mu} {σ : L2.St} {k : β → Mu → Option Fl} {fl : Fl} {E : Ends} {Q : ν → Hp → Prop} (h : DX G n0 W R t f)
    (c : Mc G w μ) (vr : Vr G.K w ρ σ) (hn : n0 ≤ μ.length) (e : (f ρ μ).thn ρ k = some fl) (fin : FinS G n0 W w μ E fl)
    (next : ∀ w1 μ1 b v, Post G n0 w μ w1 μ1 → R w1 b v → k b μ1 = some fl → FinS G n0 W w1 μ1 E fl → Q v w1.H) : t σ w.H Q := by
  rcases Ro.thn_some e with ⟨b, μ1, e1, e2⟩ | ⟨x, μ1, e1, e2⟩
  · exact h w ρ μ σ c vr hn _ e1 _ fun w1 v p r => next w1 μ1 b v p r e2 (fin.post p)
  · subst e2
    exact h w ρ μ σ c vr hn _ e1 _ fun w1 cls dx p x => fin w1 σ cls dx p (vr.mono p.ex) x

/-! ### targets -/
def tName (i : Nat) : Tv := fun d ρ μ => some (.ok (ρ.set i (some d)) μ)
theorem dg_name {i : Nat} : DG G n0 W (gName i) (tName i) := by
  intro w ρ μ σ d v c vr hn fr r e Q f
  cases e
  exact f w _ (.refl c) (vr.set fr i)
abbrev Tvs := List D → Env → Mu → Ro Env
def DGs (G : Gx) (n0 : Nat) (W : WX) (g : TGs) (h : Tvs) : Prop := ∀ w ρ μ σ ds vs, Mc G w μ → Vr G.K w ρ σ → n0 ≤ μ.length → Frs G.K w ds vs → ∀ r, h ds ρ μ = some r → ∀ Q, FinG G n0 W w μ σ Q r → g vs σ w.H Q
def tNils : Tvs := fun ds ρ μ => match ds with
  | [] => some (.ok ρ μ)
  | _ => none
/-- names within a tuple do not raise -/
def tConss (t : Tv) (u : Tvs) : Tvs := fun ds ρ μ => match ds with
  | d :: r => match t d ρ μ with
    | some (.ok ρ1 μ1) => match u r ρ1 μ1 with
      | some (.ok ρ2 μ2) => some (.ok ρ2 μ2)
      | _ => none
    | _ => none
  | [] => none
theorem dgs_nil : DGs G n0 W gNil tNils := by
  intro w ρ μ σ ds vs c vr hn fr r e Q f
  unfold tNils at e
  split at e <;> cases e
  cases fr
  exact ⟨rfl, f w _ (.refl c) vr⟩
theorem dgs_cons {g : TG} {gs : TGs} {t : Tv} {u : Tvs} (h : DG G n0 W g t) (k : DGs G n0 W gs u) : DGs G n0 W (gCons g gs) (tConss t u) := by
  intro w ρ μ σ ds vs c vr hn fr r e Q f
  unfold tConss at e
  split at e <;> try cases e
  rename_i d rs
  split at e <;> try cases e
  rename_i ρ1 μ1 h1
  split at e <;> cases e
  rename_i ρ2 μ2 h2
  obtain ⟨v, vs', rfl, r1, r2⟩ := fr
  refine ⟨v, vs', rfl, h w ρ μ σ d v c vr hn r1 _ h1 _ fun w1 σ1 p1 vr1 => ?_⟩
  exact k w1 ρ1 μ1 σ1 rs vs' p1.mc vr1 (p1.nn hn) (r2.mono p1.ex) _ h2 _ fun w2 σ2 p2 vr2 => f w2 σ2 (p1.trans p2) vr2
def tTupT (n : Nat) (u : Tvs) : Tv := fun d ρ μ => match viewT d with
  | some ds => if ds.length = n then u ds ρ μ else none
  | none => none
theorem dg_tup {n : Nat} {gs : TGs} {u : Tvs} (k : DGs G n0 W gs u) : DG G n0 W (gTup G.K n gs) (tTupT n u) := by
  intro w ρ μ σ d v c vr hn fr r e Q f
  unfold tTupT at e
  split at e <;> try cases e
  rename_i ds hd
  split at e <;> rename_i hl <;> try cases e
  obtain ⟨a, vs, rfl, s, rs⟩ := view_T fr hd
  exact ⟨a, vs, rfl, s, by rw [rs.length]; exact hl, k w ρ μ σ ds vs c vr hn rs r e Q f⟩
/-- o[i] = d, a list's item -/
def tSub (n0 : Nat) (f g : Ev D) : Tv := fun d ρ μ => (f ρ μ).bnd fun o μ1 => (g ρ μ1).bnd fun i μ2 => match o, i with
  | .cell k, .int i => match μ2[k]? with
    | some (some (.lst xs)) => match ixN xs.length i with
      | some j => if decide (n0 ≤ k) || d.pure then some (.ok ρ (μ2.set k (some (.lst (xs.set j d))))) else none
      | none => none
    | _ => none
  | _, _ => none
theorem wr_low {n0 k : Nat} {d : D} (h : (decide (n0 ≤ k) || d.pure) = true) {n : Nat} (hn : n ≤ n0) (hk : k < n) : d.low n = true := by
  rw [Bool.or_eq_true, decide_eq_true_eq] at h
  rcases h with h | h
  · omega
  · exact low_of_pure h
theorem dg_sub {to ti : TE} {f g : Ev D} (ho : DE G n0 W to f) (hi : DE G n0 W ti g) : DG G n0 W (gSub to ti rSetL) (tSub n0 f g) := by
  intro w ρ μ σ d v c vr hn fr r e Q fin
  rcases Ro.bnd_some e with ⟨o, μ1, e1, e2⟩ | ⟨x, μ1, e1, e2⟩
  · refine ho w ρ μ σ c vr hn _ e1 _ fun w1 x p1 r1 => ?_
    rcases Ro.bnd_some e2 with ⟨i, μ2, e3, e4⟩ | ⟨x, μ2, e3, e4⟩
    · refine hi w1 ρ μ1 σ p1.mc (vr.mono p1.ex) (p1.nn hn) _ e3 _ fun w2 y p2 r2 => ?_
      have p12 := p1.trans p2
      split at e4 <;> try cases e4
      rename_i k i
      split at e4 <;> try cases e4
      rename_i xs hm
      split at e4 <;> try cases e4
      rename_i j hj
      split at e4 <;> rename_i hp <;> cases e4
      obtain ⟨a, rfl, ha⟩ := r1.mono p2.ex
      have r2 : y = .int i := r2
      subst r2
      obtain ⟨⟨vs, h1, h2⟩, nN⟩ := p2.mc.cell k _ a hm ha
      refine ⟨a, vs, i, j, rfl, rfl, h1, by rw [h2.length]; exact hj, ?_⟩
      have x3 : Ex w2 (w2.wr a (.lst (vs.set j v))) := Ex.wr p2.mc hm ha
      have c3 := Mc.wr (m' := .lst (xs.set j d)) (o := .lst (vs.set j v)) p2.mc hm ha ⟨_, upd_same, Frs.set ((fr.mono p12.ex).mono x3) j (h2.mono x3)⟩
      refine fin (w2.wr a (.lst (vs.set j v))) σ (p12.trans ⟨x3, c3, Kp.wr fun n hn hk lo => ?_⟩) (((vr.mono p12.ex)).mono x3)
      have := lo k _ hk hm
      simp only [M.low] at this ⊢
      rw [lows_iff] at this ⊢
      intro z hz
      rcases List.mem_or_eq_of_mem_set hz with hz | hz
      · exact this z hz
      · subst hz; exact wr_low hp hn hk
    · subst e4
      exact hi w1 ρ μ1 σ p1.mc (vr.mono p1.ex) (p1.nn hn) _ e3 _ fun w2 cls dx p2 x => fin w2 cls dx (p1.trans p2) x
  · subst e2
    exact ho w ρ μ σ c vr hn _ e1 _ fun w1 cls dx p1 x => fin w1 cls dx p1 x

/-! ### statements -/
def sNil : Sv := fun ρ μ => some (.nx ρ μ)
theorem ds_next : DS G n0 W tNext sNil := by
  intro w ρ μ σ c vr hn fl e E f
  cases e
  exact f w σ (.refl c) vr
def sSeq (g h : Sv) : Sv := fun ρ μ => match g ρ μ with
  | some (.nx ρ1 μ1) => h ρ1 μ1
  | r => r
theorem ds_seq {t u : TS} {g h : Sv} (a : DS G n0 W t g) (b : DS G n0 W u h) : DS G n0 W (tSeq t u) (sSeq g h) := by
  intro w ρ μ σ c vr hn fl e E f
  unfold sSeq at e
  split at e
  · rename_i ρ1 μ1 h1
    exact a w ρ μ σ c vr hn _ h1 _ fun w1 σ1 p1 v1 => b w1 ρ1 μ1 σ1 p1.mc v1 (p1.nn hn) fl e E (f.post p1)
  · rename_i hno
    refine a w ρ μ σ c vr hn fl e _ ?_
    cases fl with
    | nx ρ1 μ1 => exact absurd e (hno ρ1 μ1)
    | bk _ _ => exact f
    | ct _ _ => exact f
    | rt _ _ => exact f
    | ex _ _ _ => exact f
def sIf (c : Ev Bool) (g h : Sv) : Sv := fun ρ μ => (c ρ μ).thn ρ fun b μ1 => if b then g ρ μ1 else h ρ μ1
theorem ds_if {c : TT} {t u : TS} {k : Ev Bool} {g h : Sv} (hc : DT G n0 W c k) (a : DS G n0 W t g) (b : DS G n0 W u h) : DS G n0 W (tIfS c t u) (sIf k g h) := by
  intro w ρ μ σ mc vr hn fl e E f
  refine thn_run hc mc vr hn e f fun w1 μ1 b' v p r e2 f2 => ?_
  have r : v = b' := r
  subst r
  cases v with
  | true => simpa using a w1 ρ μ1 σ p.mc (vr.mono p.ex) (p.nn hn) fl (by simpa using e2) E f2
  | false => simpa using b w1 ρ μ1 σ p.mc (vr.mono p.ex) (p.nn hn) fl (by simpa using e2) E f2
def sRet (f : Ev D) : Sv := fun ρ μ => (f ρ μ).thn ρ fun d μ1 => some (.rt d μ1)
theorem ds_ret {t : TE} {f : Ev D} (h : DE G n0 W t f) : DS G n0 W (tRet t) (sRet f) := by
  intro w ρ μ σ mc vr hn fl e E fin
  refine thn_run h mc vr hn e fin fun w1 μ1 d v p r e2 f2 => ?_
  cases e2
  exact f2 w1 v (.refl p.mc) r
def sRetN : Sv := fun _ μ => some (.rt .non μ)
theorem ds_retN : DS G n0 W tRetN sRetN := by
  intro w ρ μ σ c vr hn fl e E f
  cases e
  exact f w .non (.refl c) rfl
def sDrop (f : Ev D) : Sv := fun ρ μ => (f ρ μ).thn ρ fun _ μ1 => some (.nx ρ μ1)
theorem ds_drop {t : TE} {f : Ev D} (h : DE G n0 W t f) : DS G n0 W (tDrop t) (sDrop f) := by
  intro w ρ μ σ mc vr hn fl e E fin
  refine thn_run h mc vr hn e fin fun w1 μ1 d v p r e2 f2 => ?_
  cases e2
  exact f2 w1 σ (.refl p.mc) (vr.mono p.ex)
def sBrk : Sv := fun ρ μ => some (.bk ρ μ)
def sCnt : Sv := fun ρ μ => some (.ct ρ μ)
theorem ds_brk : DS G n0 W tBreak sBrk := by
  intro w ρ μ σ c vr hn fl e E f
  cases e
  exact f w σ (.refl c) vr
theorem ds_cnt : DS G n0 W tCont sCnt := by
  intro w ρ μ σ c vr hn fl e E f
  cases e
  exact f w σ (.refl c) vr
def sNever : Sv := fun _ _ => none
theorem ds_never : DS G n0 W tNever sNever := fun _ _ _ _ _ _ _ _ e => nomatch e
def Ro.tg (r : Ro Env) (ρ : Env) : Option Fl := match r with
  | some (.ok ρ' μ) => some (.nx ρ' μ)
  | some (.exc x μ) => some (.ex x ρ μ)
  | none => none
def sAsg (f : Ev D) (t : Tv) : Sv := fun ρ μ => (f ρ μ).thn ρ fun d μ1 => (t d ρ μ1).tg ρ
theorem ds_asg {te : TE} {g : TG} {f : Ev D} {t : Tv} (h : DE G n0 W te f) (k : DG G n0 W g t) : DS G n0 W (tAsg te g) (sAsg f t) := by
  intro w ρ μ σ mc vr hn fl e E fin
  refine thn_run h mc vr hn e fin fun w1 μ1 d v p r e2 f2 => ?_
  unfold Ro.tg at e2
  split at e2 <;> cases e2
  · rename_i ρ' μ2 h2
    exact k w1 ρ μ1 σ d v p.mc (vr.mono p.ex) (p.nn hn) r _ h2 _ fun w' σ' p' v' => f2 w' σ' p' v'
  · rename_i x μ2 h2
    exact k w1 ρ μ1 σ d v p.mc (vr.mono p.ex) (p.nn hn) r _ h2 _ fun w' cls dx p' x' => f2 w' σ cls dx p' ((vr.mono p.ex).mono p'.ex) x'
/-- x = e, the most frequent one -/
def sSet (i : Nat) (f : Ev D) : Sv := fun ρ μ => (f ρ μ).thn ρ fun d μ1 => some (.nx (ρ.set i (some d)) μ1)
theorem ds_set {i : Nat} {te : TE} {f : Ev D} (h : DE G n0 W te f) : DS G n0 W (tAsg te (gName i)) (sSet i f) := ds_asg (t := tName i) h dg_name
/-- x op= e -/
def DIp (G : Gx) (n0 : Nat) (W : WX) (t : TIp) (op : D → D → Mu → Ro D) : Prop := ∀ w μ σ a x b y, Mc G w μ → n0 ≤ μ.length → Fr G.K w a x → Fr G.K w b y → At G n0 W (Fr G.K) w μ σ (fun H Q => t x y H Q) (op a b μ)
def sAug (i : Nat) (op : D → D → Mu → Ro D) (f : Ev D) : Sv := fun ρ μ => match ρ[i]? with
  | some (some a) => (f ρ μ).thn ρ fun b μ1 => (op a b μ1).thn ρ fun d μ2 => some (.nx (ρ.set i (some d)) μ2)
  | _ => none
theorem ds_aug {i : Nat} {te : TE} {ti : TIp} {op : D → D → Mu → Ro D} {f : Ev D} (h : DE G n0 W te f) (ho : DIp G n0 W ti op) : DS G n0 W (tAug i te ti) (sAug i op f) := by
  intro w ρ μ σ mc vr hn fl e E fin
  unfold sAug at e
  split at e <;> try cases e
  rename_i a ha
  obtain ⟨x, hx, ra⟩ := vr.at_ i a ha
  refine ⟨x, hx, thn_run h mc vr hn e fin fun w1 μ1 b y p r e2 f2 => ?_⟩
  have hs := ho w1 μ1 σ a x b y p.mc (p.nn hn) (ra.mono p.ex) r
  rcases Ro.thn_some e2 with ⟨d, μ2, e3, e4⟩ | ⟨x', μ2, e3, e4⟩
  · cases e4
    exact hs _ e3 _ fun w2 v p2 r2 => f2 w2 _ p2 (((vr.mono p.ex).mono p2.ex).set r2 i)
  · subst e4
    exact hs _ e3 _ fun w2 cls dx p2 x2 => f2 w2 σ cls dx p2 ((vr.mono p.ex).mono p2.ex) x2
theorem dip_add : DIp G n0 W (ipI fun i j => i + j) oAdd := dr_I0 (g := fun i j => .int (i + j)) fun _ _ _ => rfl
theorem dip_sub : DIp G n0 W (ipI fun i j => i - j) oSub := dr_I0 (g := fun i j => .int (i - j)) fun _ _ _ => rfl
/-- d[k] = e -/
def sPut (n0 : Nat) (fd fk fv : Ev D) : Sv := fun ρ μ => (fv ρ μ).thn ρ fun v μ1 => (fd ρ μ1).thn ρ fun d μ2 => (fk ρ μ2).thn ρ fun k μ3 => match d with
  | .cell c => match μ3[c]? with
    | some (some (.dK kvs)) => match keyOf k with
      | some j => if decide (kvs.length < 16777216) && (decide (n0 ≤ c) || v.pure) then some (.nx ρ (μ3.set c (some (.dK (putD kvs j v))))) else none
      | none => none
    | some (some (.dT kvs)) => match k with
      | .tup es => match keysOf es with
        | some j => if decide (kvs.length < 16777216) && (decide (n0 ≤ c) || v.pure) then some (.nx ρ (μ3.set c (some (.dT (putD kvs j v))))) else none
        | none => none
      | _ => none
    | _ => none
  | _ => none
theorem ds_put {td ty tv : TE} {fd fk fv : Ev D} (hd : DE G n0 W td fd) (hk : DE G n0 W ty fk) (hv : DE G n0 W tv fv) : DS G n0 W (sDPut td ty tv) (sPut n0 fd fk fv) := by
  intro w ρ μ σ mc vr hn fl e E fin
  refine thn_run hv mc vr hn e fin fun w1 μ1 v x p1 r1 e fin => ?_
  refine thn_run hd p1.mc (vr.mono p1.ex) (p1.nn hn) e fin fun w2 μ2 d y p2 r2 e fin => ?_
  refine thn_run hk p2.mc ((vr.mono p1.ex).mono p2.ex) (p2.nn (p1.nn hn)) e fin fun w3 μ3 k z p3 r3 e fin => ?_
  have vr3 := ((vr.mono p1.ex).mono p2.ex).mono p3.ex
  have rv := (r1.mono p2.ex).mono p3.ex
  have rd := r2.mono p3.ex
  split at e <;> try cases e
  obtain ⟨a, rfl, ha⟩ := rd
  split at e
  · rename_i kvs hm
    split at e <;> try cases e
    rename_i j hj
    split at e <;> rename_i hs <;> cases e
    rw [Bool.and_eq_true] at hs
    obtain ⟨⟨kvs', h1, h2, h3⟩, _⟩ := p3.mc.cell _ _ a hm ha
    have hl : kvs'.length = kvs.length := by simpa using congrArg List.length h2
    rw [keyOf_ok r3 hj]
    refine ⟨a, _, rfl, .k h1 (by rw [hl]; exact small_ok' hs.1), ?_⟩
    obtain ⟨m1, m2⟩ := put_rel j rv h2 h3
    have x4 : Ex w3 (w3.wr a (.dK (putK kvs' j x))) := Ex.wr p3.mc hm ha
    have c4 := Mc.wr (m' := .dK (putD kvs j v)) (o := .dK (putK kvs' j x)) p3.mc hm ha ⟨_, upd_same, m1, m2.mono x4⟩
    exact fin (w3.wr a (.dK (putK kvs' j x))) σ ⟨x4, c4, Kp.wr fun n hn hk lo => low_put j (wr_low hs.2 hn hk) (lo _ _ hk hm)⟩ (vr3.mono x4)
  · rename_i kvs hm
    split at e <;> try cases e
    split at e <;> try cases e
    rename_i es j hj
    split at e <;> rename_i hs <;> cases e
    rw [Bool.and_eq_true] at hs
    obtain ⟨⟨kvs', h1, h2, h3⟩, _⟩ := p3.mc.cell _ _ a hm ha
    have hl : kvs'.length = kvs.length := by simpa using congrArg List.length h2
    obtain ⟨b, vs, rfl, nb, hb, rs⟩ := r3
    rw [keysOf_ok rs hj] at hb
    refine ⟨a, _, rfl, .t h1 hb (by rw [hl]; exact small_ok' hs.1), ?_⟩
    obtain ⟨m1, m2⟩ := put_rel j rv h2 h3
    have x4 : Ex w3 (w3.wr a (.dT (putK kvs' j x))) := Ex.wr p3.mc hm ha
    have c4 := Mc.wr (m' := .dT (putD kvs j v)) (o := .dT (putK kvs' j x)) p3.mc hm ha ⟨_, upd_same, m1, m2.mono x4⟩
    exact fin (w3.wr a (.dT (putK kvs' j x))) σ ⟨x4, c4, Kp.wr fun n hn hk lo => low_put j (wr_low hs.2 hn hk) (lo _ _ hk hm)⟩ (vr3.mono x4)
  · cases e

/-! ### what is walked -/
inductive Src where
  | its (ds : List D)
  | cel (k : Nat)
def Src.cur (μ : Mu) : Src → Option (List D)
  | .its ds => some ds
  | .cel k => viewL μ (.cell k)
/-- J walks src -/
def Yl (G : Gx) (w0 : Hw) (src : Src) (J : It) : Prop := ∀ w μ, Ex0 w0 w → Mc G w μ → ∀ ds, src.cur μ = some ds → ∀ i,
  (∀ d, ds[i]? = some d → J.go i w.H ∧ ∀ x H', J.yld i w.H x H' → ∃ w', w'.H = H' ∧ Ex w w' ∧ Mc G w' μ ∧ Fr G.K w' d x) ∧ (ds.length ≤ i → J.stop i w.H)
def DI (G : Gx) (n0 : Nat) (W : WX) (wi : TI) (f : Ev Src) : Prop := ∀ w ρ μ σ, Mc G w μ → Vr G.K w ρ σ → n0 ≤ μ.length → ∀ r, f ρ μ = some r → ∀ R : It → Hp → Prop,
  (match r with
    | .ok src μ' => ∀ w' J, Post G n0 w μ w' μ' → Yl G w' src J → R J w'.H
    | .exc x μ' => ∀ w' cls dx, Post G n0 w μ w' μ' → Xr G w' x cls dx → W cls dx σ w'.H) → wi σ w.H R
/-- a list's items -/
def iSeq (f : Ev D) : Ev Src := fun ρ μ => (f ρ μ).bnd fun d μ1 => match d with
  | .lst ds => some (.ok (.its ds) μ1)
  | .scr ds => some (.ok (.its ds) μ1)
  | .cell k => match viewL μ1 (.cell k) with
    | some _ => some (.ok (.cel k) μ1)
    | none => none
  | _ => none
def iSeqT (f : Ev D) : Ev Src := fun ρ μ => (f ρ μ).bnd fun d μ1 => match d with
  | .tup ds => some (.ok (.its ds) μ1)
  | _ => none
theorem yl_list {w0 : Hw} {a : Addr} {src : Src} (h : ∀ w μ, Ex0 w0 w → Mc G w μ → ∀ ds, src.cur μ = some ds → ∃ vs, SqL G.K w.H a vs ∧ Frs G.K w ds vs) : Yl G w0 src (Itl G.K a) := by
  intro w μ x c ds e i
  obtain ⟨vs, s, r⟩ := h w μ x c ds e
  refine ⟨fun d hd => ?_, fun hl => ⟨vs, s, by rw [r.length]; exact hl⟩⟩
  obtain ⟨v, hv, fr⟩ := r.get hd
  refine ⟨⟨vs, v, s, hv⟩, fun y H' q => ?_⟩
  obtain ⟨e1, q⟩ := q
  have := q vs s
  rw [hv] at this
  cases this
  exact ⟨w, e1.symm, .refl w, c, fr⟩
end
end G4

/-! G8: loops, comprehensions. -/
namespace G4
open PySem PySem.Spec PyProof.Rows L2
section
variable {G : Gx} {n0 : Nat} {W : WX}
theorem di_bnd {t : TE} {f : Ev D} {g : D → Mu → Ro Src} {ti : V → L2.St → Hp → (It → Hp → Prop) → Prop} (h : DE G n0 W t f)
    (k : ∀ w μ σ d v, Mc G w μ → n0 ≤ μ.length → Fr G.K w d v → ∀ src μ', g d μ = some (.ok src μ') → μ' = μ ∧ ∀ R : It → Hp → Prop, (∀ J, Yl G w src J → R J w.H) → ti v σ w.H R) (hx : ∀ d μ x μ', g d μ = some (.exc x μ') → False) :
    DI G n0 W (fun σ H R => t σ H fun v H1 => ti v σ H1 R) (fun ρ μ => (f ρ μ).bnd g) := by
  intro w ρ μ σ c vr hn r e R fin
  rcases Ro.bnd_some e with ⟨d, μ1, e1, e2⟩ | ⟨x, μ1, e1, e2⟩
  · refine h w ρ μ σ c vr hn _ e1 _ fun w1 v p r1 => ?_
    cases r with
    | ok src μ' =>
      obtain ⟨e3, q⟩ := k w1 μ1 σ d v p.mc (p.nn hn) r1 src μ' e2
      subst e3
      exact q R fun J y => fin w1 J p y
    | exc x μ' => exact (hx _ _ _ _ e2).elim
  · subst e2
    exact h w ρ μ σ c vr hn _ e1 _ fun w1 cls dx p x => fin w1 cls dx p x
theorem di_seq {t : TE} {f : Ev D} (h : DE G n0 W t f) : DI G n0 W (iList G.K t) (iSeq f) := by
  refine di_bnd (ti := fun x σ H1 R => ∃ a, x = .ref a ∧ (∃ xs, SqL G.K H1 a xs) ∧ R (Itl G.K a) H1) h (fun w μ σ d v c hn fr src μ' e => ?_) fun d μ x μ' e => ?_
  · cases d <;> simp only [] at e <;> try cases e
    · rename_i ds
      refine ⟨rfl, fun R q => ?_⟩
      obtain ⟨a, vs, rfl, n, hH, r⟩ := fr
      refine ⟨a, rfl, ⟨vs, .of hH⟩, q _ (yl_list fun w' μ' x c' ds' e' => ?_)⟩
      cases e'
      exact ⟨vs, .of ((x.keep _ n).trans hH), r.mono0 x⟩
    · rename_i ds
      refine ⟨rfl, fun R q => ?_⟩
      obtain ⟨a, vs, rfl, hs, r⟩ := fr
      refine ⟨a, rfl, ⟨vs, hs.sq⟩, q _ (yl_list fun w' μ' x c' ds' e' => ?_)⟩
      cases e'
      exact ⟨vs, (hs.mono0 x).sq, r.mono0 x⟩
    · rename_i k
      split at e <;> cases e
      rename_i xs hx
      refine ⟨rfl, fun R q => ?_⟩
      obtain ⟨a, vs, e1, s, r⟩ := view_L c fr hx
      obtain ⟨b, e2, hb⟩ := fr
      rw [e1] at e2
      cases e2
      refine ⟨a, e1, ⟨vs, s⟩, q _ (yl_list fun w' μ' x c' ds' e' => ?_)⟩
      obtain ⟨b, vs', e3, s', r'⟩ := view_L (d := .cell k) (v := .ref a) c' ⟨a, rfl, x.pre _ _ hb⟩ e'
      cases e3
      exact ⟨vs', s', r'⟩
  · cases d <;> simp only [] at e <;> try cases e
    split at e <;> cases e
theorem di_seqT {t : TE} {f : Ev D} (h : DE G n0 W t f) : DI G n0 W (iTup G.K t) (iSeqT f) := by
  refine di_bnd (ti := fun x σ H1 R => ∃ a, x = .ref a ∧ (∃ xs, SqT G.K H1 a xs) ∧ R (Itt G.K a) H1) h (fun w μ σ d v c hn fr src μ' e => ?_) fun d μ x μ' e => ?_
  · cases d <;> simp only [] at e <;> try cases e
    rename_i ds
    refine ⟨rfl, fun R q => ?_⟩
    obtain ⟨a, vs, rfl, n, hH, r⟩ := fr
    refine ⟨a, rfl, ⟨vs, .of hH⟩, q _ fun w' μ' x c' ds' e' i => ?_⟩
    cases e'
    have s : SqT G.K w'.H a vs := .of ((x.keep _ n).trans hH)
    refine ⟨fun d hd => ?_, fun hl => ⟨vs, s, by rw [r.length]; exact hl⟩⟩
    obtain ⟨v, hv, fr⟩ := r.get hd
    refine ⟨⟨vs, v, s, hv⟩, fun y H' q => ?_⟩
    obtain ⟨e1, q⟩ := q
    have := q vs s
    rw [hv] at this
    cases this
    exact ⟨w', e1.symm, .refl w', c', fr.mono0 x⟩
  · cases d <;> simp only [] at e <;> cases e
/-- range -/
def rngD (lo : Int) (n : Nat) : List D := (List.range n).map fun i => .int (lo + (i : Nat))
theorem rngD_get {lo : Int} {n i : Nat} {d : D} (h : (rngD lo n)[i]? = some d) : i < n ∧ d = .int (lo + i) := by
  unfold rngD at h
  rw [List.getElem?_map] at h
  cases e : (List.range n)[i]? with
  | none => rw [e] at h; cases h
  | some j =>
    rw [e] at h
    obtain ⟨hi, e⟩ := List.getElem?_eq_some_iff.mp e
    rw [List.getElem_range] at e
    subst e
    cases h
    exact ⟨by simpa using hi, rfl⟩
theorem rngD_length (lo : Int) (n : Nat) : (rngD lo n).length = n := by simp [rngD]
theorem yl_range {w0 : Hw} {lo : Int} {n : Nat} : Yl G w0 (.its (rngD lo n)) (Itr lo n) := by
  intro w μ x c ds e i
  cases e
  refine ⟨fun d hd => ?_, fun hl => by rw [rngD_length] at hl; exact hl⟩
  obtain ⟨h1, h2⟩ := rngD_get hd
  subst h2
  refine ⟨h1, fun y H' q => ?_⟩
  obtain ⟨e1, e2⟩ := q
  exact ⟨w, e1.symm, .refl w, c, e2⟩
noncomputable def rOk (i : Int) : Bool := cdec (-(2 ^ 62) ≤ i ∧ i < 2 ^ 62)
theorem rOk_iff {i : Int} : rOk i = true ↔ -(2 ^ 62) ≤ i ∧ i < 2 ^ 62 := cdec_iff
noncomputable def rng1 (ds : List D) (μ1 : Mu) : Ro Src := match ds with
  | [.int j] => if rOk j then some (.ok (.its (rngD 0 j.toNat)) μ1) else none
  | _ => none
noncomputable def rng2 (ds : List D) (μ1 : Mu) : Ro Src := match ds with
  | [.int i, .int j] => if rOk i && rOk j then some (.ok (.its (rngD i (j - i).toNat)) μ1) else none
  | _ => none
noncomputable def iRg1 (f : Ev (List D)) : Ev Src := fun ρ μ => (f ρ μ).bnd rng1
noncomputable def iRg2 (f : Ev (List D)) : Ev Src := fun ρ μ => (f ρ μ).bnd rng2
theorem di_rg1 {t : TA} {f : Ev (List D)} (h : DA G n0 W t f) : DI G n0 W (iRng1 t) (iRg1 f) := by
  intro w ρ μ σ c vr hn r e R fin
  rcases Ro.bnd_some e with ⟨ds, μ1, e1, e2⟩ | ⟨x, μ1, e1, e2⟩
  · refine h w ρ μ σ c vr hn _ e1 _ fun w1 vs p r1 => ?_
    unfold rng1 at e2
    split at e2 <;> try cases e2
    rename_i j
    split at e2 <;> rename_i hj <;> cases e2
    obtain ⟨x, rfl, q⟩ := frs1 r1
    have q : x = .int j := q
    subst q
    rw [rOk_iff] at hj
    exact ⟨j, rfl, hj.1, hj.2, fin w1 _ p yl_range⟩
  · subst e2
    exact h w ρ μ σ c vr hn _ e1 _ fun w1 cls dx p x => fin w1 cls dx p x
theorem di_rg2 {t : TA} {f : Ev (List D)} (h : DA G n0 W t f) : DI G n0 W (iRng2 t) (iRg2 f) := by
  intro w ρ μ σ c vr hn r e R fin
  rcases Ro.bnd_some e with ⟨ds, μ1, e1, e2⟩ | ⟨x, μ1, e1, e2⟩
  · refine h w ρ μ σ c vr hn _ e1 _ fun w1 vs p r1 => ?_
    unfold rng2 at e2
    split at e2 <;> try cases e2
    rename_i i j
    split at e2 <;> rename_i hj <;> cases e2
    obtain ⟨x, y, rfl, q, q2⟩ := frs2 r1
    have q : x = .int i := q
    have q2 : y = .int j := q2
    subst q q2
    rw [Bool.and_eq_true, rOk_iff, rOk_iff] at hj
    exact ⟨i, j, rfl, ⟨hj.1.1, hj.1.2, hj.2.1, hj.2.2⟩, fin w1 _ p yl_range⟩
  · subst e2
    exact h w ρ μ σ c vr hn _ e1 _ fun w1 cls dx p x => fin w1 cls dx p x

/-! ### for -/
def turn (tg : Tv) (body : Sv) (d : D) (ρ : Env) (μ : Mu) (rest : Sv) : Option Fl := match tg d ρ μ with
  | some (.ok ρ1 μ1) => match body ρ1 μ1 with
    | some (.nx ρ2 μ2) => rest ρ2 μ2
    | some (.ct ρ2 μ2) => rest ρ2 μ2
    | some (.bk ρ2 μ2) => some (.nx ρ2 μ2)
    | r => r
  | _ => none
def loopN (src : Src) (tg : Tv) (body : Sv) : Nat → Nat → Sv
  | 0, i => fun ρ μ => match src.cur μ with
    | some ds => if ds.length ≤ i then some (.nx ρ μ) else none
    | none => none
  | n + 1, i => fun ρ μ => match src.cur μ with
    | some ds => match ds[i]? with
      | some d => turn tg body d ρ μ (loopN src tg body n (i + 1))
      | none => some (.nx ρ μ)
    | none => none
def loopL (tg : Tv) (body : Sv) : List D → Sv
  | [] => fun ρ μ => some (.nx ρ μ)
  | d :: ds => fun ρ μ => turn tg body d ρ μ (loopL tg body ds)
theorem loopL_eq (tg : Tv) (body : Sv) (ds : List D) : ∀ (n i : Nat), n + i = ds.length → loopN (.its ds) tg body n i = loopL tg body (ds.drop i)
  | 0, i, h => by
    have : ds.drop i = [] := List.drop_eq_nil_of_le (by omega)
    rw [this]
    funext ρ μ
    simp only [loopN, Src.cur, loopL]
    rw [if_pos (by omega)]
  | n + 1, i, h => by
    have hi : i < ds.length := by omega
    have e : ds.drop i = ds[i] :: ds.drop (i + 1) := List.drop_eq_getElem_cons hi
    rw [e]
    funext ρ μ
    simp only [loopN, Src.cur, loopL, List.getElem?_eq_getElem hi]
    rw [loopL_eq tg body ds n (i + 1) (by omega)]
def sFor (fi : Ev Src) (tg : Tv) (body : Sv) : Sv := fun ρ μ => (fi ρ μ).thn ρ fun src μ1 => match src with
  | .its ds => loopL tg body ds ρ μ1
  | .cel k => match viewL μ1 (.cell k) with
    | some ds => loopN (.cel k) tg body ds.length 0 ρ μ1
    | none => none
theorem turn_ok {w : Hw} {ρ : Env} {μ : Mu} {σ : L2.St} {g : TG} {tb : TS} {tg : Tv} {body rest : Sv} {d : D} {v : V} {fl : Fl} {E : Ends} {N : L2.St → Hp → Prop} (hg : DG G n0 W g tg) (hb : DS G n0 W tb body)
    (c : Mc G w μ) (vr : Vr G.K w ρ σ) (hn : n0 ≤ μ.length) (fr : Fr G.K w d v) (e : turn tg body d ρ μ rest = some fl) (fin : FinS G n0 W w μ E fl)
    (hN : ∀ w' ρ' μ' σ', Post G n0 w μ w' μ' → Vr G.K w' ρ' σ' → rest ρ' μ' = some fl → N σ' w'.H) : g v σ w.H fun σ2 H2 => tb { E with nx := N, ct := N, bk := E.nx } σ2 H2 := by
  unfold turn at e
  split at e <;> try cases e
  rename_i ρ1 μ1 h1
  refine hg w ρ μ σ d v c vr hn fr _ h1 _ fun w1 σ1 p1 v1 => ?_
  split at e
  · rename_i ρ2 μ2 h2
    exact hb w1 ρ1 μ1 σ1 p1.mc v1 (p1.nn hn) _ h2 _ fun w2 σ2 p2 v2 => hN w2 ρ2 μ2 σ2 (p1.trans p2) v2 e
  · rename_i ρ2 μ2 h2
    exact hb w1 ρ1 μ1 σ1 p1.mc v1 (p1.nn hn) _ h2 _ fun w2 σ2 p2 v2 => hN w2 ρ2 μ2 σ2 (p1.trans p2) v2 e
  · rename_i ρ2 μ2 h2
    cases e
    exact hb w1 ρ1 μ1 σ1 p1.mc v1 (p1.nn hn) _ h2 _ fun w2 σ2 p2 v2 => fin w2 σ2 (p1.trans p2) v2
  · rename_i n1 n2 n3
    refine hb w1 ρ1 μ1 σ1 p1.mc v1 (p1.nn hn) fl e _ ?_
    have f := fin.post p1
    cases fl with
    | nx a b => exact absurd e (n1 a b)
    | bk a b => exact absurd e (n3 a b)
    | ct a b => exact absurd e (n2 a b)
    | rt _ _ => exact f
    | ex _ _ _ => exact f
theorem loop_run {w : Hw} {ρ : Env} {μ : Mu} {σ : L2.St} {g : TG} {tb : TS} {tg : Tv} {body : Sv} {src : Src} {J : It} {n : Nat} {fl : Fl} {E : Ends} (hg : DG G n0 W g tg) (hb : DS G n0 W tb body) (c : Mc G w μ) (vr : Vr G.K w ρ σ) (hn : n0 ≤ μ.length)
    (y : Yl G w src J) (e : loopN src tg body n 0 ρ μ = some fl) (fin : FinS G n0 W w μ E fl) :
    ∃ Wv : Nat → Nat → L2.St → Hp → Prop, (∃ m, Wv 0 m σ w.H) ∧ ∀ i m σ H, Wv i m σ H →
      (J.stop i H ∧ E.nx σ H) ∨ (J.go i H ∧ ∃ N : L2.St → Hp → Prop, (∀ σ' H', N σ' H' → ∃ m', m' < m ∧ Wv (i + 1) m' σ' H') ∧ ∀ x H', J.yld i H x H' → g x σ H' fun σ2 H2 => tb { E with nx := N, ct := N, bk := E.nx } σ2 H2) := by
  refine ⟨fun i m σ' H' => ∃ w' ρ' μ', w'.H = H' ∧ Post G n0 w μ w' μ' ∧ Vr G.K w' ρ' σ' ∧ loopN src tg body m i ρ' μ' = some fl, ⟨n, w, ρ, μ, rfl, .refl c, vr, e⟩, ?_⟩
  rintro i m σ' H' ⟨w', ρ', μ', rfl, p, v', e'⟩
  cases m with
  | zero =>
    simp only [loopN] at e'
    split at e' <;> try cases e'
    rename_i ds hd
    split at e' <;> rename_i hl <;> cases e'
    exact .inl ⟨(y w' μ' p.ex.e0 p.mc ds hd i).2 hl, fin w' σ' p v'⟩
  | succ m =>
    simp only [loopN] at e'
    split at e' <;> try cases e'
    rename_i ds hd
    obtain ⟨y1, y2⟩ := y w' μ' p.ex.e0 p.mc ds hd i
    split at e'
    · rename_i d hdi
      obtain ⟨go, yl⟩ := y1 d hdi
      refine .inr ⟨go, fun σ' H' => ∃ w2 ρ2 μ2, w2.H = H' ∧ Post G n0 w μ w2 μ2 ∧ Vr G.K w2 ρ2 σ' ∧ loopN src tg body m (i + 1) ρ2 μ2 = some fl, fun σ' H' q => ⟨m, Nat.lt_succ_self m, q⟩, fun x H' hy => ?_⟩
      obtain ⟨w2, rfl, x2, c2, fr⟩ := yl x H' hy
      have p2 : Post G n0 w' μ' w2 μ' := ⟨x2, c2, .refl _ _⟩
      have p02 := p.trans p2
      exact turn_ok hg hb c2 (v'.mono x2) (p.nn hn) fr e' (fin.post p02) fun w3 ρ3 μ3 σ3 p3 v3 e3 => ⟨w3, ρ3, μ3, rfl, p02.trans p3, v3, e3⟩
    · rename_i hdi
      cases e'
      exact .inl ⟨y2 (by simpa using hdi), fin w' σ' p v'⟩
theorem ds_for {wi : TI} {g : TG} {tb : TS} {fi : Ev Src} {tg : Tv} {body : Sv} (hi : DI G n0 W wi fi) (hg : DG G n0 W g tg) (hb : DS G n0 W tb body) : DS G n0 W (tFor wi g tb) (sFor fi tg body) := by
  intro w ρ μ σ c vr hn fl e E fin
  rcases Ro.thn_some e with ⟨src, μ1, e1, e2⟩ | ⟨x, μ1, e1, e2⟩
  · refine hi w ρ μ σ c vr hn _ e1 _ fun w1 J p y => ?_
    have e3 : ∃ n, loopN src tg body n 0 ρ μ1 = some fl := by
      cases src with
      | its ds => exact ⟨ds.length, by rw [loopL_eq tg body ds ds.length 0 rfl]; exact e2⟩
      | cel k =>
        simp only [] at e2
        split at e2 <;> try cases e2
        exact ⟨_, e2⟩
    obtain ⟨n, e3⟩ := e3
    exact loop_run hg hb p.mc (vr.mono p.ex) (p.nn hn) y e3 (fin.post p)
  · subst e2
    exact hi w ρ μ σ c vr hn _ e1 _ fun w1 cls dx p x => fin w1 σ cls dx p (vr.mono p.ex) x

/-! ### while -/
def loopW (k : Ev Bool) (body : Sv) : Nat → Sv
  | 0 => fun _ _ => none
  | n + 1 => fun ρ μ => (k ρ μ).thn ρ fun b μ1 => if b then match body ρ μ1 with
      | some (.nx ρ2 μ2) => loopW k body n ρ2 μ2
      | some (.ct ρ2 μ2) => loopW k body n ρ2 μ2
      | some (.bk ρ2 μ2) => some (.nx ρ2 μ2)
      | r => r
    else some (.nx ρ μ1)
theorem ds_while {t : TT} {tb : TS} {k : Ev Bool} {body : Sv} (n : Nat) (hk : DT G n0 W t k) (hb : DS G n0 W tb body) : DS G n0 W (tWhile t tb) (loopW k body n) := by
  intro w ρ μ σ c vr hn fl e E fin
  refine ⟨fun m σ' H' => ∃ w' ρ' μ', w'.H = H' ∧ Post G n0 w μ w' μ' ∧ Vr G.K w' ρ' σ' ∧ loopW k body m ρ' μ' = some fl, ⟨n, w, ρ, μ, rfl, .refl c, vr, e⟩, ?_⟩
  rintro m σ' H' ⟨w', ρ', μ', rfl, p, v', e'⟩
  cases m with
  | zero => cases e'
  | succ m =>
    refine thn_run hk p.mc v' (p.nn hn) e' (fin.post p) fun w1 μ1 b x p1 r1 e2 f1 => ?_
    have r1 : x = b := r1
    subst r1
    have p01 := p.trans p1
    cases x with
    | false =>
      simp only [Bool.false_eq_true, if_false] at e2 ⊢
      cases e2
      exact fin w1 σ' p01 (v'.mono p1.ex)
    | true =>
      simp only [if_true] at e2 ⊢
      refine ⟨fun σ' H' => ∃ w2 ρ2 μ2, w2.H = H' ∧ Post G n0 w μ w2 μ2 ∧ Vr G.K w2 ρ2 σ' ∧ loopW k body m ρ2 μ2 = some fl, fun σ' H' q => ⟨m, Nat.lt_succ_self m, q⟩, ?_⟩
      have v1 := v'.mono p1.ex
      have hn1 := p01.nn hn
      split at e2
      · rename_i ρ2 μ2 h2
        exact hb w1 ρ' μ1 σ' p1.mc v1 hn1 _ h2 _ fun w2 σ2 p2 v2 => ⟨w2, ρ2, μ2, rfl, p01.trans p2, v2, e2⟩
      · rename_i ρ2 μ2 h2
        exact hb w1 ρ' μ1 σ' p1.mc v1 hn1 _ h2 _ fun w2 σ2 p2 v2 => ⟨w2, ρ2, μ2, rfl, p01.trans p2, v2, e2⟩
      · rename_i ρ2 μ2 h2
        cases e2
        exact hb w1 ρ' μ1 σ' p1.mc v1 hn1 _ h2 _ fun w2 σ2 p2 v2 => fin w2 σ2 (p01.trans p2) v2
      · rename_i n1 n2 n3
        refine hb w1 ρ' μ1 σ' p1.mc v1 hn1 fl e2 _ ?_
        have f := fin.post p01
        cases fl with
        | nx a b => exact absurd e2 (n1 a b)
        | bk a b => exact absurd e2 (n3 a b)
        | ct a b => exact absurd e2 (n2 a b)
        | rt _ _ => exact f
        | ex _ _ _ => exact f
end
end G4

/-! G9: comprehensions, freezing, methods of lists, calls, defs. -/
namespace G4
open PySem PySem.Spec PyProof.Rows L2
section
variable {G : Gx} {n0 : Nat} {W : WX}
/-! ### list comprehensions -/
def W0 : WX := fun _ _ _ _ => False
def wipeE (ρ : Env) : List Nat → Env
  | [] => ρ
  | v :: vs => (wipeE ρ vs).set v none
theorem wipeE_some {ρ : Env} {i : Nat} {d : D} : ∀ {vs : List Nat}, (wipeE ρ vs)[i]? = some (some d) → ρ[i]? = some (some d) ∧ i ∉ vs
  | [], h => ⟨h, by simp⟩
  | v :: vs, h => by
    unfold wipeE at h
    by_cases hi : v = i
    · subst hi
      by_cases hv : v < (wipeE ρ vs).length
      · rw [List.getElem?_set_self hv] at h; cases h
      · rw [List.getElem?_eq_none (by simpa using hv)] at h; cases h
    · rw [List.getElem?_set_ne hi] at h
      obtain ⟨h1, h2⟩ := wipeE_some h
      exact ⟨h1, by simp only [List.mem_cons, not_or]; exact ⟨fun e => hi e.symm, h2⟩⟩
theorem wipeE_length (ρ : Env) : ∀ vs : List Nat, (wipeE ρ vs).length = ρ.length
  | [] => rfl
  | v :: vs => by unfold wipeE; rw [List.length_set, wipeE_length ρ vs]
theorem Vr.wipe {K : PySem.W.Frag} {w : Hw} {ρ : Env} {σ : L2.St} (h : Vr K w ρ σ) (vs : List Nat) : Vr K w (wipeE ρ vs) (wipe σ vs) :=
  ⟨by rw [wipe_length, wipeE_length]; exact h.len, fun i d e => by
    obtain ⟨e1, e2⟩ := wipeE_some e
    rw [wipe_out e2]
    exact h.at_ i d e1⟩
theorem wipe_set_in {σ : L2.St} {i : Nat} {x : Option V} : ∀ {vs : List Nat}, i ∈ vs → wipe (σ.set i x) vs = wipe σ vs
  | [], h => by cases h
  | v :: vs, h => by
    unfold L2.wipe
    by_cases hi : i ∈ vs
    · rw [wipe_set_in hi]
    · have hv : i = v := by
        rcases List.mem_cons.mp h with e | e
        · exact e
        · exact absurd e hi
      subst hv
      apply List.ext_getElem?
      intro j
      by_cases hj : i = j
      · subst hj
        by_cases hl : i < σ.length
        · rw [List.getElem?_set_self (by rw [wipe_length, List.length_set]; exact hl), List.getElem?_set_self (by rw [wipe_length]; exact hl)]
        · rw [List.getElem?_eq_none (by rw [List.length_set, wipe_length, List.length_set]; omega), List.getElem?_eq_none (by rw [List.length_set, wipe_length]; omega)]
      · rw [List.getElem?_set_ne hj, List.getElem?_set_ne hj]
        by_cases hjv : j ∈ vs
        · have a : ∀ σ : L2.St, (wipe σ vs)[j]? = if j < σ.length then some none else none := fun σ => by
            clear hi h hj
            induction vs with
            | nil => cases hjv
            | cons u us ih =>
              unfold L2.wipe
              by_cases hu : u = j
              · subst hu
                by_cases hl : u < σ.length
                · rw [List.getElem?_set_self (by rw [wipe_length]; exact hl), if_pos hl]
                · rw [List.getElem?_eq_none (by rw [List.length_set, wipe_length]; omega), if_neg hl]
              · rw [List.getElem?_set_ne hu]
                rcases List.mem_cons.mp hjv with e | e
                · exact absurd e.symm hu
                · exact ih e
          rw [a, a, List.length_set]
        · rw [wipe_out hjv, wipe_out hjv, List.getElem?_set_ne hj]
theorem wipe_wipe (σ : L2.St) (vs : List Nat) : wipe (wipe σ vs) vs = wipe σ vs := by
  have all : ∀ us : List Nat, (∀ u ∈ us, u ∈ vs) → wipe (wipe σ us) vs = wipe σ vs := by
    intro us
    induction us with
    | nil => intro _; rfl
    | cons u us ih =>
      intro h
      show wipe ((wipe σ us).set u none) vs = wipe σ vs
      rw [wipe_set_in (h u List.mem_cons_self)]
      exact ih fun x hx => h x (List.mem_cons_of_mem _ hx)
  exact all vs fun _ h => h
/-- a target that stores in vs alone -/
def Own (g : TG) (vs : List Nat) : Prop := ∀ v σ H Q, g v σ H Q → g v σ H fun σ2 H2 => wipe σ2 vs = wipe σ vs ∧ Q σ2 H2
def Owns (g : TGs) (vs : List Nat) : Prop := ∀ us σ H Q, g us σ H Q → g us σ H fun σ2 H2 => wipe σ2 vs = wipe σ vs ∧ Q σ2 H2
theorem own_name {i : Nat} {vs : List Nat} (h : i ∈ vs := by decide) : Own (gName i) vs := fun v σ H Q q => ⟨wipe_set_in h, q⟩
theorem owns_nil {vs : List Nat} : Owns gNil vs := fun us σ H Q q => ⟨q.1, rfl, q.2⟩
theorem owns_cons {g : TG} {gs : TGs} {vs : List Nat} (h : Own g vs) (k : Owns gs vs) (mono : ∀ v σ H (Q Q' : L2.St → Hp → Prop), (∀ σ H, Q σ H → Q' σ H) → g v σ H Q → g v σ H Q') (monos : ∀ v σ H (Q Q' : L2.St → Hp → Prop), (∀ σ H, Q σ H → Q' σ H) → gs v σ H Q → gs v σ H Q') : Owns (gCons g gs) vs := by
  intro us σ H Q q
  obtain ⟨v, r, e, q⟩ := q
  refine ⟨v, r, e, mono _ _ _ _ _ (fun σ1 H1 ⟨e1, q1⟩ => ?_) (h v σ H _ q)⟩
  exact monos _ _ _ _ _ (fun σ2 H2 ⟨e2, q2⟩ => ⟨e2.trans e1, q2⟩) (k r σ1 H1 Q q1)
theorem own_tup {n : Nat} {gs : TGs} {vs : List Nat} (k : Owns gs vs) : Own (gTup G.K n gs) vs := fun v σ H Q ⟨a, xs, e, s, l, q⟩ => ⟨a, xs, e, s, l, k xs σ H Q q⟩
/-- targets of names, tuples of names -/
def Mono (g : TG) : Prop := ∀ v σ H (Q Q' : L2.St → Hp → Prop), (∀ σ H, Q σ H → Q' σ H) → g v σ H Q → g v σ H Q'
def Monos (g : TGs) : Prop := ∀ v σ H (Q Q' : L2.St → Hp → Prop), (∀ σ H, Q σ H → Q' σ H) → g v σ H Q → g v σ H Q'
theorem mono_name {i : Nat} : Mono (gName i) := fun _ _ _ _ _ h q => h _ _ q
theorem mono_nil : Monos gNil := fun _ _ _ _ _ h q => ⟨q.1, h _ _ q.2⟩
theorem mono_cons {g : TG} {gs : TGs} (a : Mono g) (b : Monos gs) : Monos (gCons g gs) := fun _ _ _ _ _ h ⟨v, r, e, q⟩ => ⟨v, r, e, a _ _ _ _ _ (fun _ _ q => b _ _ _ _ _ h q) q⟩
theorem mono_tup {n : Nat} {gs : TGs} (b : Monos gs) : Mono (gTup G.K n gs) := fun _ _ _ _ _ h ⟨a, xs, e, s, l, q⟩ => ⟨a, xs, e, s, l, b _ _ _ _ _ h q⟩

def stepC (tg : Tv) (tt : Ev Bool) (te : Ev D) (ρ : Env) (d : D) (μ : Mu) (rest : Mu → Ro (List D)) : Ro (List D) := match tg d ρ μ with
  | some (.ok ρ1 μ1) => match tt ρ1 μ1 with
    | some (.ok true μ2) => match te ρ1 μ2 with
      | some (.ok y μ3) => match rest μ3 with
        | some (.ok ys μ4) => some (.ok (y :: ys) μ4)
        | _ => none
      | _ => none
    | some (.ok false μ2) => rest μ2
    | _ => none
  | _ => none
def compN (src : Src) (tg : Tv) (tt : Ev Bool) (te : Ev D) (ρ : Env) : Nat → Nat → Mu → Ro (List D)
  | 0, i => fun μ => match src.cur μ with
    | some ds => if ds.length ≤ i then some (.ok [] μ) else none
    | none => none
  | n + 1, i => fun μ => match src.cur μ with
    | some ds => match ds[i]? with
      | some d => stepC tg tt te ρ d μ (compN src tg tt te ρ n (i + 1))
      | none => some (.ok [] μ)
    | none => none
def compL (tg : Tv) (tt : Ev Bool) (te : Ev D) (ρ : Env) : List D → Mu → Ro (List D)
  | [] => fun μ => some (.ok [] μ)
  | d :: ds => fun μ => stepC tg tt te ρ d μ (compL tg tt te ρ ds)
theorem compL_eq (tg : Tv) (tt : Ev Bool) (te : Ev D) (ρ : Env) (ds : List D) : ∀ (n i : Nat), n + i = ds.length → compN (.its ds) tg tt te ρ n i = compL tg tt te ρ (ds.drop i)
  | 0, i, h => by
    have : ds.drop i = [] := List.drop_eq_nil_of_le (by omega)
    rw [this]
    funext μ
    simp only [compN, Src.cur, compL]
    rw [if_pos (by omega)]
  | n + 1, i, h => by
    have hi : i < ds.length := by omega
    have e : ds.drop i = ds[i] :: ds.drop (i + 1) := List.drop_eq_getElem_cons hi
    rw [e]
    funext μ
    simp only [compN, Src.cur, compL, List.getElem?_eq_getElem hi]
    rw [compL_eq tg tt te ρ ds n (i + 1) (by omega)]
def comp (tg : Tv) (tt : Ev Bool) (te : Ev D) (ρ : Env) (src : Src) (μ : Mu) : Ro (List D) := match src with
  | .its ds => compL tg tt te ρ ds μ
  | .cel k => match viewL μ (.cell k) with
    | some ds => compN (.cel k) tg tt te ρ ds.length 0 μ
    | none => none
def eComp (fi : Ev Src) (tg : Tv) (tt : Ev Bool) (te : Ev D) (vs : List Nat) : Ev D := fun ρ μ => (fi ρ μ).bnd fun src μ1 => match comp tg tt te (wipeE ρ vs) src μ1 with
  | some (.ok ys μ2) => newL ys μ2
  | _ => none
def eCompC (fi : Ev Src) (tg : Tv) (tt : Ev Bool) (te : Ev D) (vs : List Nat) : Ev D := fun ρ μ => (fi ρ μ).bnd fun src μ1 => match comp tg tt te (wipeE ρ vs) src μ1 with
  | some (.ok ys μ2) => newC ys μ2
  | _ => none
def eYes : Ev Bool := fun _ μ => some (.ok true μ)
theorem dt_yes : DT G n0 W tYes eYes := fun w ρ μ σ c vr hn => .ret c rfl fun Q q => q
theorem comp_run {w : Hw} {ρ : Env} {μ μf : Mu} {σ : L2.St} {g : TG} {t : TT} {te : TE} {tg : Tv} {ft : Ev Bool} {fe : Ev D} {src : Src} {J : It} {vs : List Nat} {n : Nat} {ys : List D} {p : Addr} {Q : VK}
    (hg : DG G n0 W0 g tg) (ho : Own g vs) (hm : Mono g) (ht : DT G n0 W0 t ft) (he : DE G n0 W0 te fe) (c : Mc G w μ) (vr : Vr G.K w ρ σ) (hn : n0 ≤ μ.length) (hp : w.H p = none)
    (y : Yl G w src J) (e : compN src tg ft fe (wipeE ρ vs) n 0 μ = some (.ok ys μf)) (hs : ys.length ≤ 16777216)
    (fin : ∀ w' vs', Ex w w' → Mc G w' μf → Kp n0 μ μf → Hid w' p (.lst vs') → Frs G.K w' ys vs' → Q (.ref p) w'.H) :
    ∃ Wv : Nat → Nat → Hp → Prop, (∃ m, Wv 0 m (upd w.H p (.lst []))) ∧ ∀ i m H, Wv i m H →
      (J.stop i H ∧ Q (.ref p) H) ∨ (J.go i H ∧ ∃ Nx : Hp → Prop, (∀ H', Nx H' → ∃ m', m' < m ∧ Wv (i + 1) m' H') ∧ ∀ x H', J.yld i H x H' → g x (wipe σ vs) H' fun σ2 H2 => wipe σ2 vs = wipe σ vs ∧ t σ2 H2 fun b H3 =>
        if b = true then te σ2 H3 fun y H4 => ∃ acc, H4 p = some (.lst acc) ∧ acc.length < sizeLine ∧ Nx (upd H4 p (.lst (acc ++ [y]))) else Nx H3) := by
  have inv : ∀ (i m : Nat) (H : Hp), (∃ w' μ' acc av zs, w'.H = H ∧ Ex w w' ∧ Mc G w' μ' ∧ Kp n0 μ μ' ∧ Hid w' p (.lst av) ∧ Frs G.K w' acc av ∧ acc ++ zs = ys ∧ compN src tg ft fe (wipeE ρ vs) m i μ' = some (.ok zs μf)) → True := fun _ _ _ _ => trivial
  refine ⟨fun i m H => ∃ w' μ' acc av zs, w'.H = H ∧ Ex w w' ∧ Mc G w' μ' ∧ Kp n0 μ μ' ∧ Hid w' p (.lst av) ∧ Frs G.K w' acc av ∧ acc ++ zs = ys ∧ compN src tg ft fe (wipeE ρ vs) m i μ' = some (.ok zs μf), ?_, ?_⟩
  · obtain ⟨x1, c1, h1⟩ := Hid.new (o := .lst []) c hp
    exact ⟨n, w.wr p (.lst []), μ, [], [], ys, rfl, x1, c1, .refl _ _, h1, rfl, rfl, e⟩
  · rintro i m H ⟨w', μ', acc, av, zs, rfl, x, c', kp, h, r, e1, e2⟩
    have stop : ∀ ds, src.cur μ' = some ds → ds.length ≤ i → zs = [] → μ' = μf → J.stop i w'.H ∧ Q (.ref p) w'.H := fun ds hd hl hz hμ => by
      subst hz hμ
      rw [List.append_nil] at e1
      subst e1
      exact ⟨(y w' μ' x.e0 c' ds hd i).2 hl, fin w' av x c' kp h r⟩
    cases m with
    | zero =>
      simp only [compN] at e2
      split at e2 <;> try cases e2
      rename_i ds hd
      split at e2 <;> rename_i hl <;> cases e2
      exact .inl (stop ds hd hl rfl rfl)
    | succ m =>
      simp only [compN] at e2
      split at e2 <;> try cases e2
      rename_i ds hd
      obtain ⟨y1, y2⟩ := y w' μ' x.e0 c' ds hd i
      split at e2
      · rename_i d hdi
        obtain ⟨go, yl⟩ := y1 d hdi
        refine .inr ⟨go, fun H => ∃ w' μ' acc av zs, w'.H = H ∧ Ex w w' ∧ Mc G w' μ' ∧ Kp n0 μ μ' ∧ Hid w' p (.lst av) ∧ Frs G.K w' acc av ∧ acc ++ zs = ys ∧ compN src tg ft fe (wipeE ρ vs) m (i + 1) μ' = some (.ok zs μf), fun H' q => ⟨m, Nat.lt_succ_self m, q⟩, fun u H' hy => ?_⟩
        obtain ⟨w2, rfl, x2, c2, fr⟩ := yl u H' hy
        have hn2 : n0 ≤ μ'.length := Nat.le_trans hn kp.len
        have xx2 := x.trans x2
        unfold stepC at e2
        split at e2 <;> try cases e2
        rename_i ρ1 μ1 h1
        refine hm _ _ _ _ _ (fun σ2 H2 ⟨a, b⟩ => ⟨a.trans (wipe_wipe σ vs), b⟩) (ho _ _ _ _ (hg w2 (wipeE ρ vs) μ' (wipe σ vs) d u c2 ((vr.mono xx2).wipe vs) hn2 fr _ h1 _ fun w3 σ3 p3 v3 => ?_))
        have hn3 := p3.nn hn2
        have xx3 := xx2.trans p3.ex
        have kp3 := kp.trans p3.kp
        split at e2
        · rename_i μ2 h2
          refine ht w3 ρ1 μ1 σ3 p3.mc v3 hn3 _ h2 _ fun w4 b p4 r4 => ?_
          have r4 : b = true := r4
          subst r4
          rw [if_pos rfl]
          have hn4 := p4.nn hn3
          split at e2 <;> try cases e2
          rename_i y' μ3 h3
          split at e2 <;> cases e2
          rename_i ys' h4
          refine he w4 ρ1 μ2 σ3 p4.mc (v3.mono p4.ex) hn4 _ h3 _ fun w5 v5 p5 r5 => ?_
          have xx5 := (xx3.trans p4.ex).trans p5.ex
          have x25 := (x2.trans p3.ex).trans (p4.ex.trans p5.ex)
          have h5 := h.ex x25
          have rl := r.length
          have hl : acc.length + (1 + ys'.length) = ys.length := by rw [← e1]; simp; omega
          refine ⟨av, h5.at_, by rw [sizeLine_eq, rl]; omega, ?_⟩
          obtain ⟨x6, c6, h6, f6⟩ := Hid.wr (o' := .lst (av ++ [v5])) c hp xx5 h5 p5.mc
          exact ⟨w5.wr p (.lst (av ++ [v5])), μ3, acc ++ [y'], av ++ [v5], ys', rfl, x6, c6, (kp3.trans p4.kp).trans p5.kp, h6, f6 ((r.mono x25).append (Frs.one r5)), by rw [← e1]; simp, h4⟩
        · rename_i μ2 h2
          refine ht w3 ρ1 μ1 σ3 p3.mc v3 hn3 _ h2 _ fun w4 b p4 r4 => ?_
          have r4 : b = false := r4
          subst r4
          rw [if_neg Bool.false_ne_true]
          have x24 := (x2.trans p3.ex).trans p4.ex
          exact ⟨w4, μ2, acc, av, zs, rfl, xx3.trans p4.ex, p4.mc, kp3.trans p4.kp, h.ex x24, r.mono x24, e1, e2⟩
        · cases e2
      · rename_i hdi
        cases e2
        exact .inl (stop ds hd (by simpa using hdi) rfl rfl)
theorem comp_n {tg : Tv} {tt : Ev Bool} {te : Ev D} {ρ : Env} {src : Src} {μ : Mu} {r : Rs (List D)} (e : comp tg tt te ρ src μ = some r) : ∃ n, compN src tg tt te ρ n 0 μ = some r := by
  cases src with
  | its ds => exact ⟨ds.length, by rw [compL_eq tg tt te ρ ds ds.length 0 rfl]; exact e⟩
  | cel k =>
    simp only [comp] at e
    split at e <;> try cases e
    exact ⟨_, e⟩
theorem de_comp {wi : TI} {g : TG} {t : TT} {te : TE} {fi : Ev Src} {tg : Tv} {ft : Ev Bool} {fe : Ev D} {vs : List Nat} (hi : DI G n0 W wi fi) (hg : DG G n0 W0 g tg) (ho : Own g vs) (hm : Mono g) (ht : DT G n0 W0 t ft) (he : DE G n0 W0 te fe) :
    DE G n0 W (tLc wi g t te vs) (eComp fi tg ft fe vs) := by
  intro w ρ μ σ c vr hn r e Q fin
  rcases Ro.bnd_some e with ⟨src, μ1, e1, e2⟩ | ⟨x, μ1, e1, e2⟩
  · refine hi w ρ μ σ c vr hn _ e1 _ fun w1 J p1 y => ?_
    intro p hp
    split at e2 <;> try cases e2
    rename_i ys μ2 h2
    obtain ⟨n, h3⟩ := comp_n h2
    unfold newL at e2
    split at e2 <;> rename_i hs <;> cases e2
    refine comp_run hg ho hm ht he p1.mc (vr.mono p1.ex) (p1.nn hn) hp y h3 (by simpa [small] using hs) fun w2 vs' x2 c2 k2 h2 r2 => ?_
    obtain ⟨x3, c3, f3⟩ := h2.stays hp x2 c2
    exact fin (w2.kill p) (.ref p) (p1.trans ⟨x3, c3, k2⟩) ⟨p, vs', rfl, .inr rfl, h2.at_, f3 r2⟩
  · subst e2
    exact hi w ρ μ σ c vr hn _ e1 _ fun w1 cls dx p x => fin w1 cls dx p x
theorem de_compC {wi : TI} {g : TG} {t : TT} {te : TE} {fi : Ev Src} {tg : Tv} {ft : Ev Bool} {fe : Ev D} {vs : List Nat} (hi : DI G n0 W wi fi) (hg : DG G n0 W0 g tg) (ho : Own g vs) (hm : Mono g) (ht : DT G n0 W0 t ft) (he : DE G n0 W0 te fe) :
    DE G n0 W (tLc wi g t te vs) (eCompC fi tg ft fe vs) := by
  intro w ρ μ σ c vr hn r e Q fin
  rcases Ro.bnd_some e with ⟨src, μ1, e1, e2⟩ | ⟨x, μ1, e1, e2⟩
  · refine hi w ρ μ σ c vr hn _ e1 _ fun w1 J p1 y => ?_
    intro p hp
    split at e2 <;> try cases e2
    rename_i ys μ2 h2
    obtain ⟨n, h3⟩ := comp_n h2
    unfold newC at e2
    split at e2 <;> rename_i hs <;> cases e2
    refine comp_run hg ho hm ht he p1.mc (vr.mono p1.ex) (p1.nn hn) hp y h3 (by simpa [small] using hs) fun w2 vs' x2 c2 k2 h2 r2 => ?_
    obtain ⟨x3, c3, l3⟩ := Hid.cel (m := .lst ys) hp x2 h2 c2 ⟨vs', h2.at_, r2⟩
    exact fin (w2.cel p) (.ref p) (p1.trans ⟨x3, c3, k2.trans (.push (Nat.le_trans (p1.nn hn) k2.len) _)⟩) ⟨p, rfl, l3⟩
  · subst e2
    exact hi w ρ μ σ c vr hn _ e1 _ fun w1 cls dx p x => fin w1 cls dx p x

/-! ### freezing -/
def frzs (f : D → Mu → Option (D × Mu)) : List D → Mu → Option (List D × Mu)
  | [], μ => some ([], μ)
  | d :: ds, μ => match f d μ with
    | some (e, μ1) => match frzs f ds μ1 with
      | some (es, μ2) => some (e :: es, μ2)
      | none => none
    | none => none
def frz : Nat → D → Mu → Option (D × Mu)
  | 0, d, μ => match d with
    | .cell _ => none
    | d => some (d, μ)
  | n + 1, d, μ => match d with
    | .cell k => match μ[k]? with
      | some (some (.lst xs)) => match frzs (frz n) xs (μ.set k none) with
        | some (ys, μ1) => some (.lst ys, μ1)
        | none => none
      | _ => none
    | d => some (d, μ)
def FrzOk (G : Gx) (f : D → Mu → Option (D × Mu)) : Prop := ∀ w μ d v d' μ', Mc G w μ → Fr G.K w d v → f d μ = some (d', μ') → ∃ w', w'.H = w.H ∧ Ex w w' ∧ Mc G w' μ' ∧ (∀ n0, Kp n0 μ μ') ∧ Fr G.K w' d' v
theorem frzs_ok {f : D → Mu → Option (D × Mu)} (h : FrzOk G f) : ∀ (ds : List D) (w : Hw) (μ : Mu) (vs : List V) (ds' : List D) (μ' : Mu), Mc G w μ → Frs G.K w ds vs → frzs f ds μ = some (ds', μ') →
    ∃ w', w'.H = w.H ∧ Ex w w' ∧ Mc G w' μ' ∧ (∀ n0, Kp n0 μ μ') ∧ Frs G.K w' ds' vs
  | [], w, μ, vs, ds', μ', c, r, e => by
    cases e
    exact ⟨w, rfl, .refl w, c, fun _ => .refl _ _, r⟩
  | d :: ds, w, μ, vs, ds', μ', c, ⟨v, r, e1, h1, t⟩, e => by
    subst e1
    unfold frzs at e
    split at e <;> try cases e
    rename_i e1 μ1 q1
    split at e <;> cases e
    rename_i es q2
    obtain ⟨w1, hH, x1, c1, k1, f1⟩ := h w μ d v e1 μ1 c h1 q1
    obtain ⟨w2, hH2, x2, c2, k2, f2⟩ := frzs_ok h ds w1 μ1 r es μ' c1 (t.mono x1) q2
    exact ⟨w2, hH2.trans hH, x1.trans x2, c2, fun n => (k1 n).trans (k2 n), v, r, rfl, f1.mono x2, f2⟩
theorem frz_ok : ∀ n, FrzOk G (frz n)
  | 0 => by
    intro w μ d v d' μ' c fr e
    unfold frz at e
    cases d <;> cases e
    all_goals exact ⟨w, rfl, .refl w, c, fun _ => .refl _ _, fr⟩
  | n + 1 => by
    intro w μ d v d' μ' c fr e
    unfold frz at e
    cases d
    case cell k =>
      simp only at e
      split at e <;> try cases e
      rename_i xs hm
      split at e <;> cases e
      rename_i ys hy
      obtain ⟨a, rfl, ha⟩ := fr
      obtain ⟨⟨vs, h1, h2⟩, _⟩ := c.cell k _ a hm ha
      have x1 : Ex w (w.kill a) := Ex.kill ha
      have c1 := Mc.kill c hm ha
      obtain ⟨w2, hH, x2, c2, k2, f2⟩ := frzs_ok (frz_ok n) xs (w.kill a) _ vs ys μ' c1 (h2.mono x1) hy
      exact ⟨w2, hH, x1.trans x2, c2, fun n0 => (Kp.kill k).trans (k2 n0), a, vs, rfl, x2.le _ (.inr rfl), by rw [hH]; exact h1, f2⟩
    all_goals
      simp only at e
      cases e
      exact ⟨w, rfl, .refl w, c, fun _ => .refl _ _, fr⟩
/-- the value stays as it is from now on -/
def eFrz (f : Ev D) : Ev D := fun ρ μ => (f ρ μ).bnd fun d μ1 => match frz 4 d μ1 with
  | some (d', μ2) => some (.ok d' μ2)
  | none => none
theorem de_frz {t : TE} {f : Ev D} (h : DE G n0 W t f) : DE G n0 W t (eFrz f) := by
  intro w ρ μ σ c vr hn r e Q fin
  rcases Ro.bnd_some e with ⟨d, μ1, e1, e2⟩ | ⟨x, μ1, e1, e2⟩
  · refine h w ρ μ σ c vr hn _ e1 _ fun w1 v p r1 => ?_
    split at e2 <;> cases e2
    rename_i d' μ2 hf
    obtain ⟨w2, hH, x2, c2, k2, f2⟩ := frz_ok 4 w1 μ1 d v d' μ2 p.mc r1 hf
    rw [← hH]
    exact fin w2 v (p.trans ⟨x2, c2, k2 n0⟩) f2
  · subst e2
    exact h w ρ μ σ c vr hn _ e1 _ fun w1 cls dx p x => fin w1 cls dx p x

/-! ### methods of lists -/
/-- o.m(args): o a cell that holds a list -/
def eMt (op : Nat → List D → List D → Mu → Ro D) (f : Ev D) (g : Ev (List D)) : Ev D := fun ρ μ => (f ρ μ).bnd fun o μ1 => match o with
  | .cell k => (match μ1[k]? with
    | some (some (.lst _)) => (g ρ μ1).bnd fun as μ2 => match μ2[k]? with
      | some (some (.lst xs)) => op k xs as μ2
      | _ => none
    | _ => none)
  | _ => none
def DM (G : Gx) (n0 : Nat) (W : WX) (r : V → List V → Hp → VK → Prop) (op : Nat → List D → List D → Mu → Ro D) : Prop := ∀ w μ σ k a xs vs as us, Mc G w μ → n0 ≤ μ.length → μ[k]? = some (some (.lst xs)) → w.A[k]? = some a → w.H a = some (.lst vs) → Frs G.K w xs vs → Frs G.K w as us →
  At G n0 W (Fr G.K) w μ σ (fun H Q => r (.ref a) us H Q) (op k xs as μ)
theorem de_mt {r : V → List V → Hp → VK → Prop} {op : Nat → List D → List D → Mu → Ro D} {to : TE} {t : TA} {f : Ev D} {g : Ev (List D)} (ho : DM G n0 W r op) (h : DE G n0 W to f) (k : DA G n0 W t g) : DE G n0 W (tBM G.K "list" r to t) (eMt op f g) := by
  intro w ρ μ σ c vr hn
  refine (h w ρ μ σ c vr hn).bnd (uu := fun x H1 (Q : VK) => tyV G.K "list" x H1 ∧ t σ H1 fun xs H2 => r x xs H2 Q) fun w1 μ1 o x p1 r1 => ?_
  intro q e Q fin
  split at e <;> try cases e
  rename_i k'
  split at e <;> try cases e
  rename_i ys hm
  obtain ⟨a, rfl, ha⟩ := r1
  obtain ⟨⟨vs, h1, _⟩, _⟩ := p1.mc.cell k' _ a hm ha
  refine ⟨.inl ⟨rfl, vs, .of h1⟩, ?_⟩
  have := (k w1 ρ μ1 σ p1.mc (vr.mono p1.ex) (p1.nn hn)).bnd (R' := Fr G.K) (uu := fun xs H2 (Q : VK) => r (.ref a) xs H2 Q) (g := fun as μ2 => match μ2[k']? with
      | some (some (.lst xs)) => op k' xs as μ2
      | _ => none) fun w2 μ2 as us p2 r2 => ?_
  · exact this q e Q fin
  · intro q e Q fin
    split at e <;> try cases e
    rename_i xs hm2
    have ha2 := p2.ex.pre _ _ ha
    obtain ⟨⟨vs2, g1, g2⟩, _⟩ := p2.mc.cell k' _ a hm2 ha2
    exact ho w2 μ2 σ k' a xs vs2 as us p2.mc (p2.nn (p1.nn hn)) hm2 ha2 g1 g2 r2 q e Q fin
theorem wr_lst {w : Hw} {μ : Mu} {k : Nat} {a : Addr} {xs zs : List D} {us : List V} {d : D} (c : Mc G w μ) (hm : μ[k]? = some (some (.lst xs))) (ha : w.A[k]? = some a) (r : Frs G.K w zs us) (hz : ∀ z ∈ zs, z ∈ xs ∨ ((decide (n0 ≤ k) || z.pure) = true)) :
    Post G n0 w μ (w.wr a (.lst us)) (μ.set k (some (.lst zs))) := by
  have x : Ex w (w.wr a (.lst us)) := Ex.wr c hm ha
  refine ⟨x, Mc.wr (m' := .lst zs) c hm ha ⟨us, upd_same, r.mono x⟩, Kp.wr fun n hn hk lo => ?_⟩
  have := lo k _ hk hm
  simp only [M.low] at this ⊢
  rw [lows_iff] at this ⊢
  intro z hz'
  rcases hz z hz' with q | q
  · exact this z q
  · exact wr_low q hn hk
def oAppend (n0 : Nat) : Nat → List D → List D → Mu → Ro D := fun k xs as μ => match as with
  | [d] => if decide (xs.length < 16777216) && (decide (n0 ≤ k) || d.pure) then some (.ok .non (μ.set k (some (.lst (xs ++ [d]))))) else none
  | _ => none
theorem dm_append : DM G n0 W rAppend (oAppend n0) := by
  intro w μ σ k a xs vs as us c hn hm ha h1 h2 r q e Q f
  unfold oAppend at e
  split at e <;> try cases e
  rename_i d
  split at e <;> rename_i hs <;> cases e
  rw [Bool.and_eq_true] at hs
  obtain ⟨v, rfl, fr⟩ := frs1 r
  refine ⟨a, vs, v, rfl, rfl, h1, by rw [h2.length]; exact small_ok' hs.1, ?_⟩
  refine f (w.wr a (.lst (vs ++ [v]))) .non (wr_lst (d := d) c hm ha (h2.append (Frs.one fr)) fun z hz => ?_) rfl
  rcases List.mem_append.mp hz with hz | hz
  · exact .inl hz
  · have : z = d := by simpa using hz
    subst this
    exact .inr hs.2
def eMt0 (op : Nat → List D → Mu → Ro D) (f : Ev D) : Ev D := fun ρ μ => (f ρ μ).bnd fun o μ1 => match o with
  | .cell k => (match μ1[k]? with
    | some (some (.lst xs)) => op k xs μ1
    | _ => none)
  | _ => none
def DM0 (G : Gx) (n0 : Nat) (W : WX) (r : V → List V → Hp → VK → Prop) (op : Nat → List D → Mu → Ro D) : Prop := ∀ w μ σ k a xs vs, Mc G w μ → n0 ≤ μ.length → μ[k]? = some (some (.lst xs)) → w.A[k]? = some a → w.H a = some (.lst vs) → Frs G.K w xs vs →
  At G n0 W (Fr G.K) w μ σ (fun H Q => r (.ref a) [] H Q) (op k xs μ)
theorem de_mt0 {r : V → List V → Hp → VK → Prop} {op : Nat → List D → Mu → Ro D} {to : TE} {f : Ev D} (ho : DM0 G n0 W r op) (h : DE G n0 W to f) : DE G n0 W (tBM0 G.K "list" r to) (eMt0 op f) := by
  intro w ρ μ σ c vr hn
  refine (h w ρ μ σ c vr hn).bnd (uu := fun x H1 (Q : VK) => tyV G.K "list" x H1 ∧ r x [] H1 Q) fun w1 μ1 o x p1 r1 => ?_
  intro q e Q fin
  split at e <;> try cases e
  rename_i k'
  split at e <;> try cases e
  rename_i ys hm
  obtain ⟨a, rfl, ha⟩ := r1
  obtain ⟨⟨vs, h1, h2⟩, _⟩ := p1.mc.cell k' _ a hm ha
  exact ⟨.inl ⟨rfl, vs, .of h1⟩, ho w1 μ1 σ k' a ys vs p1.mc (p1.nn hn) hm ha h1 h2 q e Q fin⟩
def oPop : Nat → List D → Mu → Ro D := fun k xs μ => match xs[xs.length - 1]? with
  | some d => some (.ok d (μ.set k (some (.lst xs.dropLast))))
  | none => none
theorem dm_pop : DM0 G n0 W rPop oPop := by
  intro w μ σ k a xs vs c hn hm ha h1 h2 q e Q f
  unfold oPop at e
  split at e <;> cases e
  rename_i d hd
  obtain ⟨v, hv, fr⟩ := h2.get hd
  have hl := h2.length
  refine ⟨a, vs, v, rfl, rfl, h1, by rw [hl]; exact hv, ?_⟩
  have x : Ex w (w.wr a (.lst vs.dropLast)) := Ex.wr c hm ha
  refine f (w.wr a (.lst vs.dropLast)) v (wr_lst (d := d) c hm ha (by rw [List.dropLast_eq_take, List.dropLast_eq_take, hl]; exact h2.take _) fun z hz => .inl (List.dropLast_subset _ hz)) (fr.mono x)
def oReverse : Nat → List D → Mu → Ro D := fun k xs μ => some (.ok .non (μ.set k (some (.lst xs.reverse))))
theorem dm_reverse : DM0 G n0 W rReverse oReverse := by
  intro w μ σ k a xs vs c hn hm ha h1 h2 q e Q f
  cases e
  exact ⟨a, vs, rfl, rfl, h1, f (w.wr a (.lst vs.reverse)) .non (wr_lst (d := .non) c hm ha h2.reverse fun z hz => .inl (List.mem_reverse.mp hz)) rfl⟩
end
end G4

/-! G10: defs and their calls. -/
namespace G4
open PySem PySem.Spec PyProof.Rows L2
abbrev Fd := List D → Mu → Ro D
def XD.low (n : Nat) (x : XD) : Bool := lows n (x.fs.map (·.2))
/-- what a def promises: n arguments, its meaning m -/
def spD (G : Gx) (n : Nat) (m : Fd) : Sp := fun vs H Q E => ∃ (w : Hw) (μ : Mu) (ds : List D) (r : Rs D), w.H = H ∧ Mc G w μ ∧ Frs G.K w ds vs ∧ ds.length = n ∧ m ds μ = some r ∧
  match r with
  | .ok d μ' => ∀ w' v, Post G μ.length w μ w' μ' → Fr G.K w' d v → Q v w'.H
  | .exc x μ' => ∀ w' cls dx, Post G μ.length w μ w' μ' → Xr G w' x cls dx → E cls dx w'.H
/-- back to the caller's cells -/
def leave (n0 : Nat) (d : D) (μ : Mu) : Ro D := match d with
  | .cell k => if k < n0 then some (.ok (.cell k) (μ.take n0)) else match μ[k]? with
    | some (some m) => if m.low n0 then some (.ok (.cell n0) (μ.take n0 ++ [some m])) else none
    | _ => none
  | d => if d.low n0 then some (.ok d (μ.take n0)) else none
/-- a def's meaning: its names, its body -/
def runD (N : Nat) (body : Nat → Sv) : Fd := fun ds μ => match body μ.length (ds.map some ++ List.replicate (N - ds.length) none) μ with
  | some (.nx _ μ') => leave μ.length .non μ'
  | some (.rt d μ') => leave μ.length d μ'
  | some (.ex x _ μ') => if x.low μ.length then some (.exc x (μ'.take μ.length)) else none
  | _ => none
section
variable {G : Gx}
theorem lo_of {w : Hw} {μ : Mu} (c : Mc G w μ) : Lo μ.length μ := fun k m hk e => by
  have : k < w.A.length := by rw [c.len]; exact hk
  obtain ⟨r, _⟩ := c.cell k m _ e (List.getElem?_eq_getElem this)
  rw [← c.len]
  exact r.low
/-- the cells from n on forgotten -/
def Hw.cut (w : Hw) (n : Nat) : Hw := ⟨w.N, w.A.take n, w.H, w.T⟩
theorem cut_ok {w w1 : Hw} {μ μ1 : Mu} (c : Mc G w μ) (p : Post G μ.length w μ w1 μ1) : Post G μ.length w μ (w1.cut μ.length) (μ1.take μ.length) ∧ (∀ {d : D} {v : V}, d.low μ.length = true → Fr G.K w1 d v → Fr G.K (w1.cut μ.length) d v) ∧
    ∀ {ds : List D} {vs : List V}, lows μ.length ds = true → Frs G.K w1 ds vs → Frs G.K (w1.cut μ.length) ds vs := by
  have hA : ∀ (k : Nat) (a : Addr), k < μ.length → w1.A[k]? = some a → (w1.cut μ.length).A[k]? = some a := fun k a hk e => by
    show (w1.A.take μ.length)[k]? = some a
    rw [List.getElem?_take, if_pos hk]
    exact e
  have lo := p.kp.lo μ.length (Nat.le_refl _) (lo_of c)
  have hl : w1.A.length = μ1.length := p.mc.len
  have hle := p.kp.len
  refine ⟨⟨⟨p.ex.le, fun k a e => ?_, p.ex.keep, p.ex.old, fun a ha => p.ex.new a (List.mem_of_mem_take ha), p.ex.newN, p.ex.tabs, p.ex.newT, p.ex.old2, p.ex.tc⟩, ⟨?_, ?_, fun k m a hm ha => ?_, p.mc.old, fun a ha => p.mc.oldA a (List.mem_of_mem_take ha), p.mc.tab, fun a ha => ⟨(p.mc.tabN a ha).1, fun z => (p.mc.tabN a ha).2 (List.mem_of_mem_take z)⟩, p.mc.tab0, fun a f z => XdAt.cut (w := w1) (w' := w1.cut μ.length) (fun _ z => z) (fun _ _ => rfl) (p.mc.xd0 a f z)⟩, ⟨?_, fun n hn l k m hk e => ?_⟩⟩,
    fun hd fr => Fr.cut (w := w1) (w' := w1.cut μ.length) (n := μ.length) (fun _ z => z) (fun _ _ => rfl) hA hd fr, fun hd fr => Frs.cut (w := w1) (w' := w1.cut μ.length) (n := μ.length) (fun _ z => z) (fun _ _ => rfl) hA hd fr⟩
  · refine hA k a ?_ (p.ex.pre k a e)
    rw [← c.len]
    exact (List.getElem?_eq_some_iff.mp e).1
  · show (w1.A.take μ.length).length = (μ1.take μ.length).length
    rw [List.length_take, List.length_take, hl]
  · exact p.mc.nd.sublist (List.take_sublist _ _)
  · have hk : k < μ.length := by
      have := (List.getElem?_eq_some_iff.mp hm).1
      rw [List.length_take] at this
      omega
    rw [List.getElem?_take, if_pos hk] at hm
    have ha : (w1.A.take μ.length)[k]? = some a := ha
    rw [List.getElem?_take, if_pos hk] at ha
    obtain ⟨r, n⟩ := p.mc.cell k m a hm ha
    exact ⟨Mr.cut (w := w1) (w' := w1.cut μ.length) (n := μ.length) (fun _ z => z) (fun _ _ => rfl) hA rfl (lo k m hk hm) r, n⟩
  · rw [List.length_take]; omega
  · have hk2 : k < μ.length := by omega
    rw [List.getElem?_take, if_pos hk2] at e
    exact p.kp.lo n hn l k m hk e
theorem leave_ok {w w1 : Hw} {μ μ1 : Mu} {d : D} {v : V} {r : Rs D} (c : Mc G w μ) (p : Post G μ.length w μ w1 μ1) (fr : Fr G.K w1 d v) (e : leave μ.length d μ1 = some r) :
    ∃ d' μ' w', r = .ok d' μ' ∧ w'.H = w1.H ∧ Post G μ.length w μ w' μ' ∧ Fr G.K w' d' v := by
  obtain ⟨pc, fc, fcs⟩ := cut_ok c p
  have gen : ∀ {d : D}, Fr G.K w1 d v → (if d.low μ.length then some (Rs.ok d (μ1.take μ.length)) else none) = some r → ∃ d' μ' w', r = .ok d' μ' ∧ w'.H = w1.H ∧ Post G μ.length w μ w' μ' ∧ Fr G.K w' d' v := fun {d} fr e => by
    split at e <;> rename_i hd <;> cases e
    exact ⟨d, _, w1.cut μ.length, rfl, rfl, pc, fc hd fr⟩
  cases d with
  | cell k =>
    simp only [leave] at e
    split at e
    · rename_i hk
      exact gen fr (by rw [show (D.cell k).low μ.length = true by simpa [D.low] using hk]; simpa using e)
    · rename_i hk
      split at e <;> try cases e
      rename_i m hm
      split at e <;> rename_i hl <;> cases e
      -- one new cell comes along
      obtain ⟨a, rfl, ha⟩ := fr
      obtain ⟨q, nN⟩ := p.mc.cell k m a hm ha
      have na : a ∉ (w1.cut μ.length).A := fun hm2 => by
        have hm2 : a ∈ w1.A.take μ.length := hm2
        obtain ⟨j, hj, ej⟩ := List.getElem_of_mem hm2
        have hj2 : j < μ.length := by rw [List.length_take] at hj; omega
        have e2 : (w1.A.take μ.length)[j]? = some a := by rw [List.getElem?_eq_getElem hj, ej]
        rw [List.getElem?_take, if_pos hj2] at e2
        have := nodup_get p.mc.nd e2 ha
        omega
      obtain ⟨o, ho⟩ := p.mc.oldA a (List.mem_of_getElem? ha)
      have q2 : Mr G (w1.cut μ.length) a m := Mr.cut (w := w1) (w' := w1.cut μ.length) (n := μ.length) (fun _ z => z) (fun _ _ => rfl) (fun k a hk e => by
        show (w1.A.take μ.length)[k]? = some a
        rw [List.getElem?_take, if_pos hk]
        exact e) rfl hl q
      have hid : Hid (w1.cut μ.length) a o := ⟨ho, na, nN, fun z => (p.mc.tabN a z).2 (List.mem_of_getElem? ha)⟩
      have hnew : w.H a = none := by
        rcases p.ex.new a (List.mem_of_getElem? ha) with z | z
        · obtain ⟨j, hj, ej⟩ := List.getElem_of_mem z
          have e2 : w.A[j]? = some a := by rw [List.getElem?_eq_getElem hj, ej]
          have := nodup_get p.mc.nd (p.ex.pre _ _ e2) ha
          rw [c.len] at hj
          omega
        · exact z
      have hle := p.kp.len
      have hlen : (μ1.take μ.length).length = μ.length := by rw [List.length_take]; omega
      obtain ⟨x3, c3, l3⟩ := Hid.cel (m := m) hnew pc.ex hid pc.mc q2
      exact ⟨.cell μ.length, _, (w1.cut μ.length).cel a, rfl, rfl, ⟨x3, c3, pc.kp.trans (.push (by rw [hlen]; exact Nat.le_refl _) _)⟩, a, rfl, by rw [hlen] at l3; exact l3⟩
  | non => exact gen fr (by simpa [leave] using e)
  | bl b => exact gen fr (by simpa [leave] using e)
  | int b => exact gen fr (by simpa [leave] using e)
  | str b => exact gen fr (by simpa [leave] using e)
  | tup b => exact gen fr (by simpa [leave] using e)
  | lst b => exact gen fr (by simpa [leave] using e)
  | scr b => exact gen fr (by simpa [leave] using e)
  | exn b => exact gen fr (by simpa [leave] using e)
theorem start_vr {K : PySem.W.Frag} {w : Hw} {N : List Str} {ds : List D} {vs : List V} (r : Frs K w ds vs) (hl : ds.length ≤ N.length) : Vr K w (ds.map some ++ List.replicate (N.length - ds.length) none) (L2.start N vs) := by
  have hv := r.length
  refine ⟨by simp [L2.start, hv], fun i d e => ?_⟩
  by_cases hi : i < ds.length
  · rw [List.getElem?_append_left (by simpa using hi), List.getElem?_map] at e
    cases q : ds[i]? with
    | none => rw [q] at e; cases e
    | some d' =>
      rw [q] at e
      cases e
      obtain ⟨v, hv2, fr⟩ := r.get q
      refine ⟨v, ?_, fr⟩
      unfold L2.start
      rw [List.getElem?_append_left (by rw [List.length_map, hv]; exact hi), List.getElem?_map, hv2]
      rfl
  · rw [List.getElem?_append_right (by simpa using hi)] at e
    rw [List.getElem?_replicate] at e
    split at e <;> cases e
/-- the reading of a def's body gives its promise -/
theorem def_reads {N : List Str} {n : Nat} {body : Nat → Sv} {t : TS} {vs : List V} {H : Hp} {Q : VK} {E : XK} (h : ∀ n0, DS G n0 (fun cls dx _ H => E cls dx H) t (body n0)) (hN : n ≤ N.length) (sp : spD G n (runD N.length body) vs H Q E) :
    t { nx := fun _ H' => Q .non H', rt := Q } (L2.start N vs) H := by
  obtain ⟨w, μ, ds, r, rfl, c, fr, hn, e, k⟩ := sp
  unfold runD at e
  have vr := start_vr (N := N) fr (by omega)
  split at e
  · rename_i ρ' μ' h1
    refine h μ.length w _ μ _ c vr (Nat.le_refl _) _ h1 _ fun w1 σ1 p1 v1 => ?_
    obtain ⟨d', μ2, w2, rfl, hH, p2, f2⟩ := leave_ok (d := .non) (v := .non) c p1 rfl e
    show Q .non w1.H
    rw [← hH]
    exact k w2 .non p2 f2
  · rename_i d μ' h1
    refine h μ.length w _ μ _ c vr (Nat.le_refl _) _ h1 _ fun w1 v p1 r1 => ?_
    obtain ⟨d', μ2, w2, rfl, hH, p2, f2⟩ := leave_ok c p1 r1 e
    show Q v w1.H
    rw [← hH]
    exact k w2 v p2 f2
  · rename_i x ρ' μ' h1
    split at e <;> rename_i hx <;> cases e
    refine h μ.length w _ μ _ c vr (Nat.le_refl _) _ h1 _ fun w1 σ1 cls dx p1 v1 x1 => ?_
    obtain ⟨pc, fc, fcs⟩ := cut_ok c p1
    have := k (w1.cut μ.length) cls dx pc ⟨x1.1, by
      have x2 := x1.2
      split
      · rename_i he
        rw [he] at x2
        exact x2
      · rename_i fs hne
        split at x2
        · rename_i he; exact absurd he hne
        · obtain ⟨a, fs', e1, e2, e3, e4, e5⟩ := x2
          exact ⟨a, fs', e1, e2, e3, e4, fcs hx e5⟩⟩
    exact this
  · cases e
theorem spD_len {n : Nat} {m : Fd} {vs : List V} {H : Hp} {Q : VK} {E : XK} (h : spD G n m vs H Q E) : vs.length = n := by
  obtain ⟨w, μ, ds, r, _, _, fr, hn, _⟩ := h
  rw [fr.length, hn]
end
section
variable {G : Gx} {n0 : Nat} {W : WX}
/-- a call that raises nothing -/
def eCall (m : Fd) (f : Ev (List D)) : Ev D := fun ρ μ => (f ρ μ).bnd fun ds μ1 => match m ds μ1 with
  | some (.ok d μ2) => some (.ok d μ2)
  | _ => none
theorem de_call {n : Nat} {m : Fd} {t : TA} {f : Ev (List D)} (h : DA G n0 W t f) (hn : ∀ ρ μ ds μ1, f ρ μ = some (.ok ds μ1) → ds.length = n) : DE G n0 W (tCall (spD G n m) [] E0 t) (eCall m f) := by
  intro w ρ μ σ c vr hn0 r e Q fin
  rcases Ro.bnd_some e with ⟨ds, μ1, e1, e2⟩ | ⟨x, μ1, e1, e2⟩
  · refine h w ρ μ σ c vr hn0 _ e1 _ fun w1 vs p r1 => ?_
    split at e2 <;> cases e2
    rename_i d μ2 h2
    refine ⟨w1, μ1, ds, _, rfl, p.mc, by rw [List.append_nil]; exact r1, hn ρ μ ds μ1 e1, h2, fun w2 v p2 r2 => ?_⟩
    exact fin w2 v (p.trans ⟨p2.ex, p2.mc, p2.kp.mono (p.nn hn0)⟩) r2
  · subst e2
    exact h w ρ μ σ c vr hn0 _ e1 _ fun w1 cls dx p x => fin w1 cls dx p x
/-- a call that may raise -/
def eCallX (m : Fd) (f : Ev (List D)) : Ev D := fun ρ μ => (f ρ μ).bnd m
theorem de_callX {n : Nat} {m : Fd} {t : TA} {f : Ev (List D)} (h : DA G n0 W t f) (hn : ∀ ρ μ ds μ1, f ρ μ = some (.ok ds μ1) → ds.length = n) : DE G n0 W (tCallSD (spD G n m) [] (fun σ cls dx H => W cls dx σ H) t) (eCallX m f) := by
  intro w ρ μ σ c vr hn0 r e Q fin
  rcases Ro.bnd_some e with ⟨ds, μ1, e1, e2⟩ | ⟨x, μ1, e1, e2⟩
  · refine h w ρ μ σ c vr hn0 _ e1 _ fun w1 vs p r1 => ?_
    refine ⟨w1, μ1, ds, r, rfl, p.mc, by rw [List.append_nil]; exact r1, hn ρ μ ds μ1 e1, e2, ?_⟩
    cases r with
    | ok d μ2 => exact fun w2 v p2 r2 => fin w2 v (p.trans ⟨p2.ex, p2.mc, p2.kp.mono (p.nn hn0)⟩) r2
    | exc x μ2 => exact fun w2 cls dx p2 x2 => fin w2 cls dx (p.trans ⟨p2.ex, p2.mc, p2.kp.mono (p.nn hn0)⟩) x2
  · subst e2
    exact h w ρ μ σ c vr hn0 _ e1 _ fun w1 cls dx p x => fin w1 cls dx p x
/-- how many arguments there are -/
def ArgN (n : Nat) (f : Ev (List D)) : Prop := ∀ ρ μ ds μ1, f ρ μ = some (.ok ds μ1) → ds.length = n
theorem argN_nil : ArgN 0 aNil := fun ρ μ ds μ1 e => by cases e; rfl
theorem argN_cons {n : Nat} {f : Ev D} {g : Ev (List D)} (h : ArgN n g) : ArgN (n + 1) (aCons f g) := fun ρ μ ds μ1 e => by
  rcases Ro.bnd_some e with ⟨d, μ2, _, e2⟩ | ⟨x, μ2, _, e2⟩
  · rcases Ro.bnd_some e2 with ⟨es, μ3, e3, e4⟩ | ⟨x, μ3, _, e4⟩
    · cases e4
      rw [List.length_cons, h _ _ _ _ e3]
    · cases e4
  · cases e2
end

/-! ### a def stands, with its meaning -/
/-- the def x of n arguments means m; calls of it raise nothing -/
structure Df (P : Program) (w : World) (K : PySem.W.Frag) (mg : Str → Option Value) (base : Heap) (C : Ct) (k : Nat) (x : Str) (n : Nat) (m : Fd) : Prop where
  ex : ∃ (f : Addr) (fd : FuncData) (ps : List Str), FnOk P w K mg base CX0 k f fd ps (spD ⟨K, C⟩ n m) ∧ mg x = some (.ref f) ∧ PySem.W.keepIn K (.ref f) = true ∧ Binds K fd ps []
theorem Df.mono {P : Program} {w : World} {K : PySem.W.Frag} {mg : Str → Option Value} {base : Heap} {C : Ct} {k j : Nat} {x : Str} {n : Nat} {m : Fd} (h : Df P w K mg base C k x n m) (hj : k ≤ j) : Df P w K mg base C j x n m := by
  obtain ⟨f, fd, ps, F, a, b, c⟩ := h.ex
  exact ⟨f, fd, ps, F.mono hj, a, b, c⟩
section
variable {P : Program} {w : World} {K : PySem.W.Frag} {mg : Str → Option Value} {base : Heap} {C : Ct}
/-- from the body's derivation -/
theorem df_mk {x : Str} {st : Stmt} {f : Addr} {fd : FuncData} {N ps : List Str} {k : Nat} {n : Nat} {body : Nat → Sv} (F : Fun K x x st f fd) (S : FnScope N ps (defScope st)) (hn : ps.length = n) (hN : n ≤ N.length) (hm : mg x = some (.ref f))
    (b : Binds K fd ps []) (h : ∀ (X : Cx) (A : Around) (s : Shared) (H : Hp) (E : XK) (outer : List PySem.Env) (cdv : Value), X = (cxOf CX0 P w K mg base N x (defScope st) f cdv A outer s H E).nox → Room k X.A →
      ∃ t, PSs X (defBody st) t ∧ ∀ n0, DS ⟨K, C⟩ n0 (fun cls dx _ H => E cls dx H) t (body n0)) : Df P w K mg base C (k + 1) x n (runD N.length body) := by
  refine ⟨f, fd, ps, F.ok S (fun vs H Q E q => by rw [spD_len q, hn]) (fun cdv A outer s H vs Q E hr q => ?_), hm, F.kp, b⟩
  obtain ⟨t, h1, h2⟩ := h _ A s H E outer cdv rfl hr
  exact ⟨t, h1, def_reads h2 hN q⟩
end
end G4

/-! G11: walks of lists or tuples, truth, slices, more operators, the law's end. -/
namespace G4
open PySem PySem.Spec PyProof.Rows L2
section
variable {X : Cx} {tg : Expr}
def iAny (K : PySem.W.Frag) (tl : TE) : TI := fun σ H R => tl σ H fun x H1 => ∃ a, x = .ref a ∧ (((∃ xs, SqL K H1 a xs) ∧ R (Itl K a) H1) ∨ ((∃ xs, SqT K H1 a xs) ∧ R (Itt K a) H1))
theorem pi_any {l : Expr} {tl : TE} (hl : PE X l tl) : PI X tg l (iAny X.K tl) := by
  refine ⟨fun pins s σ H R I h => ?_⟩
  refine thn (hl.run pins s σ H _ I h) fun v s1 ⟨x, H1, I1, r1, q1⟩ => ?_
  obtain ⟨a, e, q | q⟩ := q1
  · obtain ⟨⟨xs, hq⟩, q⟩ := q
    subst e
    cases r1
    obtain ⟨its, rv, p, hz⟩ := I1.list hq
    refine wpAny_pyIter_list p.isList ?_
    refine ⟨s1.heap.objs.size, [s1.heap.objs.size], _, _, H1, rfl, I1.kept (t' := s1.toks) fun b o e => Heap.get?_push_of_some _ e, turn_list a _, ⟨_, Heap.get?_push_size _ rfl, rfl, rfl⟩, fun b hb => ?_, q⟩
    have e : b = s1.heap.objs.size := by simpa using hb
    subst e
    exact I1.fpOk (Nat.le_refl _) (I1.hok.fresh (Nat.le_refl _))
  · obtain ⟨⟨xs, hq⟩, q⟩ := q
    subst e
    cases r1
    obtain ⟨its, rv, p, hz⟩ := I1.tuple hq
    refine wpAny_pyIter_tuple (show s1.heap.IsTuple a its.toArray from p) ?_
    refine ⟨s1.heap.objs.size, [s1.heap.objs.size], _, _, H1, rfl, I1.kept (t' := s1.toks) fun b o e => Heap.get?_push_of_some _ e, turn_tuple a _, ⟨_, Heap.get?_push_size _ rfl, rfl, rfl⟩, fun b hb => ?_, q⟩
    have e : b = s1.heap.objs.size := by simpa using hb
    subst e
    exact I1.fpOk (Nat.le_refl _) (I1.hok.fresh (Nat.le_refl _))
end
section
variable {G : Gx} {n0 : Nat} {W : WX}
def srcOf (μ : Mu) : D → Option Src
  | .lst ds => some (.its ds)
  | .scr ds => some (.its ds)
  | .tup ds => some (.its ds)
  | .cell k => match viewL μ (.cell k) with
    | some _ => some (.cel k)
    | none => none
  | _ => none
def iAnyD (f : Ev D) : Ev Src := fun ρ μ => (f ρ μ).bnd fun d μ1 => match srcOf μ1 d with
  | some s => some (.ok s μ1)
  | none => none
theorem di_any {t : TE} {f : Ev D} (h : DE G n0 W t f) : DI G n0 W (iAny G.K t) (iAnyD f) := by
  refine di_bnd (ti := fun x σ H1 R => ∃ a, x = .ref a ∧ (((∃ xs, SqL G.K H1 a xs) ∧ R (Itl G.K a) H1) ∨ ((∃ xs, SqT G.K H1 a xs) ∧ R (Itt G.K a) H1))) h (fun w μ σ d v c hn fr src μ' e => ?_) fun d μ x μ' e => ?_
  · split at e <;> cases e
    rename_i hs
    refine ⟨rfl, fun R q => ?_⟩
    cases d <;> simp only [srcOf] at hs <;> try cases hs
    · rename_i ds
      obtain ⟨a, vs, rfl, n, hH, r⟩ := fr
      refine ⟨a, rfl, .inr ⟨⟨vs, .of hH⟩, q _ fun w' μ' x c' ds' e' i => ?_⟩⟩
      cases e'
      have s : SqT G.K w'.H a vs := .of ((x.keep _ n).trans hH)
      refine ⟨fun d hd => ?_, fun hl => ⟨vs, s, by rw [r.length]; exact hl⟩⟩
      obtain ⟨v, hv, fr⟩ := r.get hd
      refine ⟨⟨vs, v, s, hv⟩, fun y H' q => ?_⟩
      obtain ⟨e1, q⟩ := q
      have := q vs s
      rw [hv] at this
      cases this
      exact ⟨w', e1.symm, .refl w', c', fr.mono0 x⟩
    · rename_i ds
      obtain ⟨a, vs, rfl, n, hH, r⟩ := fr
      refine ⟨a, rfl, .inl ⟨⟨vs, .of hH⟩, q _ (yl_list fun w' μ' x c' ds' e' => ?_)⟩⟩
      cases e'
      exact ⟨vs, .of ((x.keep _ n).trans hH), r.mono0 x⟩
    · rename_i ds
      obtain ⟨a, vs, rfl, hs, r⟩ := fr
      refine ⟨a, rfl, .inl ⟨⟨vs, hs.sq⟩, q _ (yl_list fun w' μ' x c' ds' e' => ?_)⟩⟩
      cases e'
      exact ⟨vs, (hs.mono0 x).sq, r.mono0 x⟩
    · rename_i k
      split at hs <;> cases hs
      rename_i xs hx
      obtain ⟨a, vs, e1, s, r⟩ := view_L c fr hx
      obtain ⟨b, e2, hb⟩ := fr
      rw [e1] at e2
      cases e2
      refine ⟨a, e1, .inl ⟨⟨vs, s⟩, q _ (yl_list fun w' μ' x c' ds' e' => ?_)⟩⟩
      obtain ⟨b, vs', e3, s', r'⟩ := view_L (d := .cell k) (v := .ref a) c' ⟨a, rfl, x.pre _ _ hb⟩ e'
      cases e3
      exact ⟨vs', s', r'⟩
  · split at e <;> cases e

/-! ### tests -/
theorem dt_test {t : TE} {f : Ev D} (h : DE G n0 W t f) : DT G n0 W (tTest t) (eTest f) := dt_val h
/-- a value's truth -/
def truth (μ : Mu) (d : D) : Option Bool := match d with
  | .non => some false
  | .bl b => some b
  | .int i => some (i != 0)
  | .str x => if small x.length then some ((x.length : Int) != 0) else none
  | d => match viewS μ d with
    | some xs => some (!xs.isEmpty)
    | none => none
def eTru (f : Ev D) : Ev Bool := fun ρ μ => (f ρ μ).bnd fun d μ1 => match truth μ1 d with
  | some b => some (.ok b μ1)
  | none => none
theorem isEmpty_rel {K : PySem.W.Frag} {w : Hw} {xs : List D} {vs : List V} (r : Frs K w xs vs) : vs.isEmpty = xs.isEmpty := by
  have := r.length
  cases xs <;> cases vs <;> simp at this <;> rfl
theorem dt_tru {t : TE} {f : Ev D} (h : DE G n0 W t f) : DT G n0 W (fun σ H Q => t σ H fun x H' => ∃ k, TruV G.K x H' k ∧ Q k H') (eTru f) := by
  intro w ρ μ σ c vr hn
  refine (h w ρ μ σ c vr hn).bnd (uu := fun x H' Q => ∃ k, TruV G.K x H' k ∧ Q k H') fun w1 μ1 d x p r => ?_
  intro q e Q fin
  split at e <;> cases e
  rename_i b hb
  refine ⟨b, ?_, fin w1 b (.refl p.mc) rfl⟩
  unfold truth at hb
  split at hb
  · cases hb; cases r; rfl
  · cases hb; cases r; rfl
  · cases hb; cases r; rfl
  · split at hb <;> rename_i hs <;> cases hb
    cases r
    exact ⟨small_ok hs, rfl⟩
  · split at hb <;> cases hb
    rename_i xs hx
    obtain ⟨a, vs, rfl, s, rs⟩ := view_S p.mc r hx
    rcases s with s | s
    · exact .inl ⟨vs, s, by rw [isEmpty_rel rs]⟩
    · exact .inr (.inl ⟨vs, s, by rw [isEmpty_rel rs]⟩)

/-! ### more operators -/
def oNeg : D → Mu → Ro D
  | .int i, μ => some (.ok (.int (-i)) μ)
  | _, _ => none
theorem dr_neg : DR1 G n0 W (rU fun i => .int (-i)) oNeg := by
  intro w μ σ a x c hn ra r e Q f
  cases a <;> simp only [oNeg] at e <;> cases e
  have e1 : x = .int _ := ra
  subst e1
  exact ⟨_, rfl, f w _ (.refl c) rfl⟩
/-- [x] * n -/
def repD (xs : List D) (n : Nat) : List D := (List.replicate n xs).flatten
theorem rep_rel {K : PySem.W.Frag} {w : Hw} {xs : List D} {vs : List V} (r : Frs K w xs vs) : ∀ n, Frs K w (repD xs n) (List.replicate n vs).flatten
  | 0 => rfl
  | n + 1 => by
    unfold repD
    rw [List.replicate_succ, List.replicate_succ, List.flatten_cons, List.flatten_cons]
    exact r.append (rep_rel r n)
def repL (mk : List D → Mu → Ro D) (a b : D) (μ : Mu) : Ro D := match viewK μ a, b with
  | some xs, .int k => if decide (-(2 ^ 63) ≤ k) && decide (k < 2 ^ 63) && small (xs.length * k.toNat) then mk (repD xs k.toNat) μ else none
  | _, _ => none
abbrev oRep := repL newL
abbrev oRepC := repL newC
theorem rep_parts {a b : D} {x y : V} {w : Hw} {μ : Mu} {q : Rs D} {mk : List D → Mu → Ro D} (c : Mc G w μ) (ra : Fr G.K w a x) (rb : Fr G.K w b y) (e : repL mk a b μ = some q) :
    ∃ l vs xs k, x = .ref l ∧ y = .int k ∧ w.H l = some (.lst vs) ∧ -(2 ^ 63) ≤ k ∧ k < 2 ^ 63 ∧ vs.length * k.toNat ≤ sizeLine ∧ Frs G.K w (repD xs k.toNat) (List.replicate k.toNat vs).flatten ∧ mk (repD xs k.toNat) μ = some q := by
  unfold repL at e
  split at e
  · rename_i xs k h1
    split at e <;> rename_i hs <;> try cases e
    simp only [Bool.and_eq_true, decide_eq_true_eq] at hs
    obtain ⟨l, vs, rfl, hl, rs⟩ := view_K c ra h1
    have rb : y = .int k := rb
    exact ⟨l, vs, xs, k, rfl, rb, hl, hs.1.1, hs.1.2, by rw [rs.length]; exact small_ok hs.2, rep_rel rs _, e⟩
  · cases e
theorem dr_rep : DR2 G n0 W rRep oRep := by
  intro w μ σ a x b y c hn ra rb q e Q f
  obtain ⟨l, vs, xs, k, rfl, rfl, hl, h1, h2, h3, h4, h5⟩ := rep_parts c ra rb e
  obtain ⟨_, h6⟩ := at_newL (σ := σ) c h4 q h5 Q f
  exact ⟨l, k, vs, rfl, rfl, hl, h1, h2, h3, h6⟩
theorem dr_repC : DR2 G n0 W rRep oRepC := by
  intro w μ σ a x b y c hn ra rb q e Q f
  obtain ⟨l, vs, xs, k, rfl, rfl, hl, h1, h2, h3, h4, h5⟩ := rep_parts c ra rb e
  obtain ⟨_, h6⟩ := at_newC (σ := σ) c hn h4 q h5 Q f
  exact ⟨l, k, vs, rfl, rfl, hl, h1, h2, h3, h6⟩
end

/-! ### the law's end -/
section
variable {P : Program} {w : World} {K : PySem.W.Frag} {mg : Str → Option Value} {base : Heap} {C : Ct}
theorem hu65 {k : Nat} {A : Around} (r : Room k A) : A.units + 65 < cLine := by have := r.un; omega
/-- the law's promise -/
def spLaw (K : PySem.W.Frag) (T : Addr → Prop) : Sp := fun vs H Q _ => ∃ (a : Addr) (ns : List Int), vs = [.ref a] ∧ SqL K H a (ns.map V.int) ∧ ns.length ≤ 63 ∧ (∀ P, T P → H P = some (.tbl #[])) ∧ ∀ H', Q (.bl true) H'
theorem frs_ints {K : PySem.W.Frag} {w : Hw} : ∀ ns : List Int, Frs K w (ns.map D.int) (ns.map V.int)
  | [] => rfl
  | n :: ns => ⟨.int n, _, rfl, rfl, frs_ints ns⟩
theorem law_sp {m : Fd} (h : ∀ ns : List Int, ns.length ≤ 63 → ∃ μ, m [.scr (ns.map D.int)] [] = some (.ok (.bl true) μ)) {vs : List V} {H : Hp} {Q : VK} {E : XK} (q : spLaw K C.tabs vs H Q E) (hx : ∀ dd fs, C.xds dd fs → False) (hcd : ∀ c P, C.cods c P → False := by intro _ _ z; exact z) : spD ⟨K, C⟩ 1 m vs H Q E := by
  obtain ⟨a, ns, rfl, hs, hl, hT, k⟩ := q
  obtain ⟨μ, hm⟩ := h ns hl
  refine ⟨⟨fun b => b = a ∧ Rd H a (.lst (ns.map V.int)), [], H, C.tabs⟩, [], [.scr (ns.map D.int)], .ok (.bl true) μ, rfl, ?_, ⟨.ref a, [], rfl, ⟨a, ns.map V.int, rfl, ?_, frs_ints ns⟩, rfl⟩, rfl, hm, fun w' v p r => ?_⟩
  · refine ⟨rfl, List.nodup_nil, fun k m a e => by simp at e, fun b hb => ?_, fun a h => (by cases h), fun P hP => .inr ⟨#[], hT P hP, trivial, fun pos cv hc => by simp [codeAmong] at hc⟩, fun P hP => ⟨fun hb => ?_, by simp⟩, ⟨fun P hP => ⟨hP, _, hT P hP⟩, fun c P z => (hcd c P z).elim⟩, fun a f z => (hx a f z).elim⟩
    · obtain ⟨rfl, hb | ⟨o, hb⟩⟩ := hb
      · exact ⟨_, hb⟩
      · exact ⟨_, hb⟩
    · obtain ⟨rfl, hb | ⟨o, hb⟩⟩ := hb
      · rw [hT _ hP] at hb; cases hb
      · rw [hT _ hP] at hb; cases hb
  · rcases hs with hs | hs
    · exact .inl ⟨⟨rfl, hs⟩, hs⟩
    · exact .inr hs
  · have r : v = .bl true := r
    subst r
    exact k _
end
end G4

/-! G12: names for the printed derivations. -/
namespace G4
open PySem PySem.Spec PyProof.Rows L2
abbrev rAddI : R2 := rI0 fun i j => .int (i + j)
abbrev rSubI : R2 := rI0 fun i j => .int (i - j)
abbrev rMulI : R2 := rI CMul fun i j => .int (i * j)
abbrev rDivI : R2 := rI CDiv fun i j => .int (i / j)
abbrev rModI : R2 := rI (fun _ j => 0 < j) fun i j => .int (i % j)
abbrev rPowI : R2 := rI CPow fun i j => .int (i ^ j.toNat)
abbrev rLtI : R2 := rI0 fun i j => .bl (decide (i < j))
abbrev rLeI : R2 := rI0 fun i j => .bl (decide (i ≤ j))
abbrev rGtI : R2 := rI0 fun i j => .bl (decide (j < i))
abbrev rGeI : R2 := rI0 fun i j => .bl (decide (j ≤ i))
abbrev rIsN' : R2 := fun x y H Q => y = .non ∧ Q (.bl (decide (x = .non))) H
abbrev rNotN' : R2 := fun x y H Q => y = .non ∧ Q (.bl (!decide (x = .non))) H
abbrev rInt1 : List V → Hp → VK → Prop := fun xs H Q => (∃ i, xs = [.int i] ∧ Q (.int i) H) ∨ ∃ k, xs = [.bl k] ∧ Q (.int (if k then 1 else 0)) H
abbrev rMax2 : List V → Hp → VK → Prop := fun xs H Q => ∃ i j, xs = [.int i, .int j] ∧ Q (.int (if j > i then j else i)) H
abbrev rMin2 : List V → Hp → VK → Prop := fun xs H Q => ∃ i j, xs = [.int i, .int j] ∧ Q (.int (if j < i then j else i)) H
abbrev rTuple (K : PySem.W.Frag) : List V → Hp → VK → Prop := fun xs H Q => ∃ p ys, xs = [.ref p] ∧ ((SqL K H p ys ∧ ∀ l, H l = none → Q (.ref l) (upd H l (.tup ys))) ∨ (SqT K H p ys ∧ Q (.ref p) H))
abbrev tTru (K : PySem.W.Frag) (t : TE) : TT := fun σ H Q => t σ H fun x H' => ∃ k, TruV K x H' k ∧ Q k H'
/-- a def of the text as it stands behind the top -/
structure DefAt (K : PySem.W.Frag) (mg : Str → Option Value) (x : Str) (st : Stmt) (ps : List Str) : Prop where
  ex : ∃ (f : Addr) (fd : FuncData), Fun K x x st f fd ∧ mg x = some (.ref f) ∧ Binds K fd ps []
section
variable {P : Program} {w : World} {K : PySem.W.Frag} {mg : Str → Option Value} {base : Heap} {C : Ct}
theorem df_of {x : Str} {st : Stmt} {N ps : List Str} {k n : Nat} {body : Nat → Sv} (T : DefAt K mg x st ps) (S : FnScope N ps (defScope st)) (hn : ps.length = n) (hN : n ≤ N.length)
    (h : ∀ (X : Cx) (f : Addr) (A : Around) (s : Shared) (H : Hp) (E : XK) (outer : List PySem.Env) (cdv : Value), X = (cxOf CX0 P w K mg base N x (defScope st) f cdv A outer s H E).nox → Room k X.A →
      ∃ t, PSs X (defBody st) t ∧ ∀ n0, DS ⟨K, C⟩ n0 (fun cls dx _ H => E cls dx H) t (body n0)) : Df P w K mg base C (k + 1) x n (runD N.length body) := by
  obtain ⟨f, fd, F, hm, b⟩ := T.ex
  exact df_mk F S hn hN hm b fun X A s H E outer cdv => h X f A s H E outer cdv
theorem fnD_of {x : Str} {st : Stmt} {f : Addr} {fd : FuncData} {N ps : List Str} {k n : Nat} {body : Nat → Sv} (F : Fun K x x st f fd) (S : FnScope N ps (defScope st)) (hn : ps.length = n) (hN : n ≤ N.length)
    (h : ∀ (X : Cx) (A : Around) (s : Shared) (H : Hp) (E : XK) (outer : List PySem.Env) (cdv : Value), X = (cxOf CX0 P w K mg base N x (defScope st) f cdv A outer s H E).nox → Room k X.A →
      ∃ t, PSs X (defBody st) t ∧ ∀ n0, DS ⟨K, C⟩ n0 (fun cls dx _ H => E cls dx H) t (body n0)) : FnOk P w K mg base CX0 (k + 1) f fd ps (spD ⟨K, C⟩ n (runD N.length body)) := by
  refine F.ok S (fun vs H Q E q => by rw [spD_len q, hn]) (fun cdv A outer s H vs Q E hr q => ?_)
  obtain ⟨t, h1, h2⟩ := h _ A s H E outer cdv rfl hr
  exact ⟨t, h1, def_reads h2 hN q⟩
end
end G4

/-! G13: the meanings run step by step by simp: applied forms, no binders. -/
namespace G4
open PySem L2
variable {α β : Type} {ρ : Env} {μ μ1 : Mu}
@[simp] theorem bnd_ok (a : α) (g : α → Mu → Ro β) : Ro.bnd (some (.ok a μ)) g = g a μ := rfl
@[simp] theorem thn_ok (a : α) (k : α → Mu → Option Fl) : Ro.thn (some (.ok a μ)) ρ k = k a μ := rfl
@[simp] theorem eVar_ap (i : Nat) : eVar i ρ μ = match ρ[i]? with
  | some (some d) => some (.ok d μ)
  | _ => none := rfl
@[simp] theorem eC_ap (d : D) : eC d ρ μ = some (.ok d μ) := rfl
def op2' (op : D → D → Mu → Ro D) (a : D) (r : Ro D) : Ro D := r.bnd fun b μ' => op a b μ'
def op2 (op : D → D → Mu → Ro D) (r : Ro D) (k : Mu → Ro D) : Ro D := r.bnd fun a μ => op2' op a (k μ)
@[simp] theorem eOp_ap (op : D → D → Mu → Ro D) (f g : Ev D) : eOp op f g ρ μ = op2 op (f ρ μ) (g ρ) := rfl
@[simp] theorem op2_ok (op : D → D → Mu → Ro D) (a : D) (k : Mu → Ro D) : op2 op (some (.ok a μ)) k = op2' op a (k μ) := rfl
@[simp] theorem op2'_ok (op : D → D → Mu → Ro D) (a b : D) : op2' op a (some (.ok b μ)) = op a b μ := rfl
def op1 (op : D → Mu → Ro D) (r : Ro D) : Ro D := r.bnd op
@[simp] theorem eUn_ap (op : D → Mu → Ro D) (f : Ev D) : eUn op f ρ μ = op1 op (f ρ μ) := rfl
@[simp] theorem op1_ok (op : D → Mu → Ro D) (a : D) : op1 op (some (.ok a μ)) = op a μ := rfl
/-! operators -/
@[simp] theorem oAdd_ap (i j : Int) : oAdd (.int i) (.int j) μ = some (.ok (.int (i + j)) μ) := rfl
@[simp] theorem oSub_ap (i j : Int) : oSub (.int i) (.int j) μ = some (.ok (.int (i - j)) μ) := rfl
@[simp] theorem oMul_ap {i j : Int} (h : cMul i j = true) : oMul (.int i) (.int j) μ = some (.ok (.int (i * j)) μ) := by simp [dInt2C, h]
@[simp] theorem oDiv_ap {i j : Int} (h : cDiv i j = true) : oDiv (.int i) (.int j) μ = some (.ok (.int (i / j)) μ) := by simp [dInt2C, h]
@[simp] theorem oMod_ap {i j : Int} (h : 0 < j) : oMod (.int i) (.int j) μ = some (.ok (.int (i % j)) μ) := by simp [dInt2C, h]
@[simp] theorem oPow_ap {i j : Int} (h : cPow i j = true) : oPow (.int i) (.int j) μ = some (.ok (.int (i ^ j.toNat)) μ) := by simp [dInt2C, h]
theorem cMul_l {i j : Int} (h0 : -18446744073709551616 < i) (h1 : i < 18446744073709551616) : cMul i j = true := cdec_iff.mpr (.inl ⟨h0, h1⟩)
theorem cMul_r {i j : Int} (h0 : -18446744073709551616 < j) (h1 : j < 18446744073709551616) : cMul i j = true := cdec_iff.mpr (.inr ⟨h0, h1⟩)
theorem cDiv_of {i j : Int} (h0 : 0 < j) (h1 : j < 1073741824) : cDiv i j = true := cdec_iff.mpr ⟨h0, h1⟩
theorem cPow_18 : cPow 10 18 = true := cdec_iff.mpr ⟨by decide, by decide, by decide⟩
@[simp] theorem oLt_ap (i j : Int) : oLt (.int i) (.int j) μ = some (.ok (.bl (decide (i < j))) μ) := rfl
@[simp] theorem oLe_ap (i j : Int) : oLe (.int i) (.int j) μ = some (.ok (.bl (decide (i ≤ j))) μ) := rfl
@[simp] theorem oGt_ap (i j : Int) : oGt (.int i) (.int j) μ = some (.ok (.bl (decide (j < i))) μ) := rfl
@[simp] theorem oGe_ap (i j : Int) : oGe (.int i) (.int j) μ = some (.ok (.bl (decide (j ≤ i))) μ) := rfl
@[simp] theorem oPlus_int (i j : Int) : oPlus (.int i) (.int j) μ = some (.ok (.int (i + j)) μ) := rfl
@[simp] theorem oPlus_str (i j : Str) : oPlus (.str i) (.str j) μ = if small (i.length + j.length) = true then some (.ok (.str (i ++ j)) μ) else none := rfl
@[simp] theorem oPlus_lst (xs ys : List D) : oPlus (.lst xs) (.lst ys) μ = newL (xs ++ ys) μ := rfl
@[simp] theorem oNeg_ap (i : Int) : oNeg (.int i) μ = some (.ok (.int (-i)) μ) := rfl
@[simp] theorem oIsN_ap (d : D) : oIsN d .non μ = some (.ok (.bl d.isNon) μ) := rfl
@[simp] theorem oNotN_ap (d : D) : oNotN d .non μ = some (.ok (.bl (!d.isNon)) μ) := rfl
@[simp] theorem isNon_non : D.isNon .non = true := rfl
@[simp] theorem isNon_int (i : Int) : D.isNon (.int i) = false := rfl
@[simp] theorem isNon_bl (i : Bool) : D.isNon (.bl i) = false := rfl
@[simp] theorem isNon_str (i : Str) : D.isNon (.str i) = false := rfl
@[simp] theorem isNon_tup (i : List D) : D.isNon (.tup i) = false := rfl
@[simp] theorem isNon_lst (i : List D) : D.isNon (.lst i) = false := rfl
@[simp] theorem viewT_tup (xs : List D) : viewT (.tup xs) = some xs := rfl
@[simp] theorem viewS_tup (xs : List D) : viewS μ (.tup xs) = some xs := rfl
@[simp] theorem viewS_lst (xs : List D) : viewS μ (.lst xs) = some xs := rfl
@[simp] theorem viewS_scr (xs : List D) : viewS μ (.scr xs) = some xs := rfl
@[simp] theorem viewS_cell (k : Nat) : viewS μ (.cell k) = viewL μ (.cell k) := rfl
@[simp] theorem viewL_lst (xs : List D) : viewL μ (.lst xs) = some xs := rfl
theorem viewL_cell {k : Nat} {xs : List D} (h : μ[k]? = some (some (.lst xs))) : viewL μ (.cell k) = some xs := by simp [viewL, h]
def ix1 (o : Option D) (μ : Mu) : Ro D := match o with
  | some d => some (.ok d μ)
  | none => none
@[simp] theorem ix1_some (d : D) : ix1 (some d) μ = some (.ok d μ) := rfl
@[simp] theorem oIx_lst (xs : List D) (i : Int) : oIx (.lst xs) (.int i) μ = ix1 (atI xs i) μ := by
  simp only [oIx, viewS_lst]; cases atI xs i <;> rfl
@[simp] theorem oIx_tup (xs : List D) (i : Int) : oIx (.tup xs) (.int i) μ = ix1 (atI xs i) μ := by
  simp only [oIx, viewS_tup]; cases atI xs i <;> rfl
theorem oIx_cell {k : Nat} {xs : List D} (h : μ[k]? = some (some (.lst xs))) (i : Int) : oIx (.cell k) (.int i) μ = ix1 (atI xs i) μ := by
  simp only [oIx, viewS_cell, viewL_cell h]; cases atI xs i <;> rfl
theorem atI_ok {xs : List D} {i : Int} {d : D} (h0 : 0 ≤ i) (h : xs[i.toNat]? = some d) : atI xs i = some d := by
  have := (List.getElem?_eq_some_iff.mp h).1
  unfold atI ixN
  rw [if_pos h0, if_pos (by omega)]
  exact h
/-! tests -/
def tst (r : Ro D) : Ro Bool := r.bnd fun d μ1 => match d with
  | .bl b => some (.ok b μ1)
  | _ => none
@[simp] theorem eTest_ap (f : Ev D) : eTest f ρ μ = tst (f ρ μ) := rfl
@[simp] theorem tst_ok (b : Bool) : tst (some (.ok (.bl b) μ)) = some (.ok b μ) := rfl
def and2 (r : Ro Bool) (k : Mu → Ro Bool) : Ro Bool := r.bnd fun b μ1 => if b then k μ1 else some (.ok false μ1)
def or2 (r : Ro Bool) (k : Mu → Ro Bool) : Ro Bool := r.bnd fun b μ1 => if b then some (.ok true μ1) else k μ1
def not1 (r : Ro Bool) : Ro Bool := r.bnd fun b μ1 => some (.ok (!b) μ1)
@[simp] theorem eAnd_ap (f g : Ev Bool) : eAnd f g ρ μ = and2 (f ρ μ) (g ρ) := rfl
@[simp] theorem eOr_ap (f g : Ev Bool) : eOr f g ρ μ = or2 (f ρ μ) (g ρ) := rfl
@[simp] theorem eNot_ap (f : Ev Bool) : eNot f ρ μ = not1 (f ρ μ) := rfl
@[simp] theorem and2_t (k : Mu → Ro Bool) : and2 (some (.ok true μ)) k = k μ := rfl
@[simp] theorem and2_f (k : Mu → Ro Bool) : and2 (some (.ok false μ)) k = some (.ok false μ) := rfl
@[simp] theorem or2_t (k : Mu → Ro Bool) : or2 (some (.ok true μ)) k = some (.ok true μ) := rfl
@[simp] theorem or2_f (k : Mu → Ro Bool) : or2 (some (.ok false μ)) k = k μ := rfl
@[simp] theorem not1_ok (b : Bool) : not1 (some (.ok b μ)) = some (.ok (!b) μ) := rfl
/-- both sides known: no case is needed -/
theorem and2_b {b c : Bool} {k : Mu → Ro Bool} (h : k μ = some (.ok c μ)) : and2 (some (.ok b μ)) k = some (.ok (b && c) μ) := by cases b <;> simp [h]
theorem or2_b {b c : Bool} {k : Mu → Ro Bool} (h : k μ = some (.ok c μ)) : or2 (some (.ok b μ)) k = some (.ok (b || c) μ) := by cases b <;> simp [h]
def ifE (r : Ro Bool) (f g : Mu → Ro D) : Ro D := r.bnd fun b μ1 => if b then f μ1 else g μ1
@[simp] theorem eIf_ap (c : Ev Bool) (f g : Ev D) : eIf c f g ρ μ = ifE (c ρ μ) (f ρ) (g ρ) := rfl
@[simp] theorem ifE_t (f g : Mu → Ro D) : ifE (some (.ok true μ)) f g = f μ := rfl
@[simp] theorem ifE_f (f g : Mu → Ro D) : ifE (some (.ok false μ)) f g = g μ := rfl
def andV (r : Ro D) (k : Mu → Ro D) : Ro D := r.bnd fun d μ1 => match d with
  | .bl b => if b then k μ1 else some (.ok (.bl false) μ1)
  | _ => none
def orV (r : Ro D) (k : Mu → Ro D) : Ro D := r.bnd fun d μ1 => match d with
  | .bl b => if b then some (.ok (.bl true) μ1) else k μ1
  | _ => none
def notV (r : Ro D) : Ro D := r.bnd fun d μ1 => match d with
  | .bl b => some (.ok (.bl (!b)) μ1)
  | _ => none
@[simp] theorem eAndV_ap (f g : Ev D) : eAndV f g ρ μ = andV (f ρ μ) (g ρ) := rfl
@[simp] theorem eOrV_ap (f g : Ev D) : eOrV f g ρ μ = orV (f ρ μ) (g ρ) := rfl
@[simp] theorem eNotV_ap (f : Ev D) : eNotV f ρ μ = notV (f ρ μ) := rfl
@[simp] theorem andV_t (k : Mu → Ro D) : andV (some (.ok (.bl true) μ)) k = k μ := rfl
@[simp] theorem andV_f (k : Mu → Ro D) : andV (some (.ok (.bl false) μ)) k = some (.ok (.bl false) μ) := rfl
@[simp] theorem orV_t (k : Mu → Ro D) : orV (some (.ok (.bl true) μ)) k = some (.ok (.bl true) μ) := rfl
@[simp] theorem orV_f (k : Mu → Ro D) : orV (some (.ok (.bl false) μ)) k = k μ := rfl
@[simp] theorem notV_ok (b : Bool) : notV (some (.ok (.bl b) μ)) = some (.ok (.bl (!b)) μ) := rfl
def chain2 (op' : D → D → Mu → Ro D) (b : D) (r : Ro D) (h : Mu → Ro D) : Ro D := r.bnd fun k μ3 => match k with
  | .bl k => if k then op2' op' b (h μ3) else some (.ok (.bl false) μ3)
  | _ => none
def chain1 (op op' : D → D → Mu → Ro D) (a : D) (r : Ro D) (h : Mu → Ro D) : Ro D := r.bnd fun b μ2 => chain2 op' b (op a b μ2) h
def chain0 (op op' : D → D → Mu → Ro D) (r : Ro D) (g h : Mu → Ro D) : Ro D := r.bnd fun a μ1 => chain1 op op' a (g μ1) h
@[simp] theorem eChain_ap (op op' : D → D → Mu → Ro D) (f g h : Ev D) : eChain op op' f g h ρ μ = chain0 op op' (f ρ μ) (g ρ) (h ρ) := rfl
@[simp] theorem chain0_ok (op op' : D → D → Mu → Ro D) (a : D) (g h : Mu → Ro D) : chain0 op op' (some (.ok a μ)) g h = chain1 op op' a (g μ) h := rfl
@[simp] theorem chain1_ok (op op' : D → D → Mu → Ro D) (a b : D) (h : Mu → Ro D) : chain1 op op' a (some (.ok b μ)) h = chain2 op' b (op a b μ) h := rfl
@[simp] theorem chain2_t (op' : D → D → Mu → Ro D) (b : D) (h : Mu → Ro D) : chain2 op' b (some (.ok (.bl true) μ)) h = op2' op' b (h μ) := rfl
@[simp] theorem chain2_f (op' : D → D → Mu → Ro D) (b : D) (h : Mu → Ro D) : chain2 op' b (some (.ok (.bl false) μ)) h = some (.ok (.bl false) μ) := rfl
@[simp] theorem eYes_ap : eYes ρ μ = some (.ok true μ) := rfl
def tru1 (r : Ro D) : Ro Bool := r.bnd fun d μ1 => match truth μ1 d with
  | some b => some (.ok b μ1)
  | none => none
@[simp] theorem eTru_ap (f : Ev D) : eTru f ρ μ = tru1 (f ρ μ) := rfl
@[simp] theorem tru1_lst (xs : List D) : tru1 (some (.ok (.lst xs) μ)) = some (.ok (!xs.isEmpty) μ) := rfl
@[simp] theorem tru1_tup (xs : List D) : tru1 (some (.ok (.tup xs) μ)) = some (.ok (!xs.isEmpty) μ) := rfl
@[simp] theorem tru1_bl (b : Bool) : tru1 (some (.ok (.bl b) μ)) = some (.ok b μ) := rfl
@[simp] theorem tru1_int (i : Int) : tru1 (some (.ok (.int i) μ)) = some (.ok (i != 0) μ) := rfl
/-! arguments, displays, calls -/
def cons2 (d : D) (r : Ro (List D)) : Ro (List D) := r.bnd fun ds μ2 => some (.ok (d :: ds) μ2)
def cons1 (r : Ro D) (k : Mu → Ro (List D)) : Ro (List D) := r.bnd fun d μ1 => cons2 d (k μ1)
@[simp] theorem aNil_ap : aNil ρ μ = some (.ok [] μ) := rfl
@[simp] theorem aCons_ap (f : Ev D) (g : Ev (List D)) : aCons f g ρ μ = cons1 (f ρ μ) (g ρ) := rfl
@[simp] theorem cons1_ok (d : D) (k : Mu → Ro (List D)) : cons1 (some (.ok d μ)) k = cons2 d (k μ) := rfl
@[simp] theorem cons2_ok (d : D) (ds : List D) : cons2 d (some (.ok ds μ)) = some (.ok (d :: ds) μ) := rfl
@[simp] theorem eLst_ap (f : Ev (List D)) : eLst f ρ μ = Ro.bnd (f ρ μ) newL := rfl
@[simp] theorem eLstC_ap (f : Ev (List D)) : eLstC f ρ μ = Ro.bnd (f ρ μ) newC := rfl
@[simp] theorem eTup_ap (f : Ev (List D)) : eTup f ρ μ = Ro.bnd (f ρ μ) newT := rfl
theorem newL_ok {ds : List D} (h : ds.length ≤ 16777216) : newL ds μ = some (.ok (.lst ds) μ) := by simp [newL, small, h]
theorem newC_ok {ds : List D} (h : ds.length ≤ 16777216) : newC ds μ = some (.ok (.cell μ.length) (μ ++ [some (.lst ds)])) := by simp [newC, small, h]
theorem newT_ok {ds : List D} (h : ds.length ≤ 16777216) : newT ds μ = some (.ok (.tup ds) μ) := by simp [newT, small, h]
@[simp] theorem newL_0 : newL [] μ = some (.ok (.lst []) μ) := newL_ok (by simp)
@[simp] theorem newL_1 (a : D) : newL [a] μ = some (.ok (.lst [a]) μ) := newL_ok (by simp)
@[simp] theorem newL_2 (a b : D) : newL [a, b] μ = some (.ok (.lst [a, b]) μ) := newL_ok (by simp)
@[simp] theorem newL_3 (a b c : D) : newL [a, b, c] μ = some (.ok (.lst [a, b, c]) μ) := newL_ok (by simp)
@[simp] theorem newL_4 (a b c d : D) : newL [a, b, c, d] μ = some (.ok (.lst [a, b, c, d]) μ) := newL_ok (by simp)
@[simp] theorem newL_7 (a b c d e f g : D) : newL [a, b, c, d, e, f, g] μ = some (.ok (.lst [a, b, c, d, e, f, g]) μ) := newL_ok (by simp)
@[simp] theorem newC_0 : newC [] μ = some (.ok (.cell μ.length) (μ ++ [some (.lst [])])) := newC_ok (by simp)
@[simp] theorem newC_1 (a : D) : newC [a] μ = some (.ok (.cell μ.length) (μ ++ [some (.lst [a])])) := newC_ok (by simp)
@[simp] theorem newT_0 : newT [] μ = some (.ok (.tup []) μ) := newT_ok (by simp)
@[simp] theorem newT_1 (a : D) : newT [a] μ = some (.ok (.tup [a]) μ) := newT_ok (by simp)
@[simp] theorem newT_2 (a b : D) : newT [a, b] μ = some (.ok (.tup [a, b]) μ) := newT_ok (by simp)
@[simp] theorem newT_3 (a b c : D) : newT [a, b, c] μ = some (.ok (.tup [a, b, c]) μ) := newT_ok (by simp)
@[simp] theorem newT_4 (a b c d : D) : newT [a, b, c, d] μ = some (.ok (.tup [a, b, c, d]) μ) := newT_ok (by simp)
@[simp] theorem eB_ap (op : List D → Mu → Ro D) (f : Ev (List D)) : eB op f ρ μ = Ro.bnd (f ρ μ) op := rfl
@[simp] theorem oInt_ap (i : Int) : oInt [.int i] μ = some (.ok (.int i) μ) := rfl
@[simp] theorem oMax2_ap (i j : Int) : oMax2 [.int i, .int j] μ = some (.ok (.int (if j > i then j else i)) μ) := rfl
@[simp] theorem oMin2_ap (i j : Int) : oMin2 [.int i, .int j] μ = some (.ok (.int (if j < i then j else i)) μ) := rfl
@[simp] theorem oLen_lst (xs : List D) : oLen [.lst xs] μ = some (.ok (.int xs.length) μ) := rfl
@[simp] theorem oLen_tup (xs : List D) : oLen [.tup xs] μ = some (.ok (.int xs.length) μ) := rfl
@[simp] theorem oLen_scr (xs : List D) : oLen [.scr xs] μ = some (.ok (.int xs.length) μ) := rfl
theorem oLen_cell {k : Nat} {xs : List D} (h : μ[k]? = some (some (.lst xs))) : oLen [.cell k] μ = some (.ok (.int xs.length) μ) := by
  simp only [oLen, viewS_cell, viewL_cell h]
@[simp] theorem oList_lst (xs : List D) : oList [.lst xs] μ = some (.ok (.lst xs) μ) := rfl
@[simp] theorem oList_tup (xs : List D) : oList [.tup xs] μ = some (.ok (.lst xs) μ) := rfl
@[simp] theorem oTuple_lst (xs : List D) : oTuple [.lst xs] μ = some (.ok (.tup xs) μ) := rfl
@[simp] theorem oTuple_tup (xs : List D) : oTuple [.tup xs] μ = some (.ok (.tup xs) μ) := rfl
theorem oTuple_cell {k : Nat} {xs : List D} (h : μ[k]? = some (some (.lst xs))) : oTuple [.cell k] μ = some (.ok (.tup xs) μ) := by
  simp only [oTuple, viewS_cell, viewL_cell h]
def isi1 (T : String) (r : Ro D) : Ro D := r.bnd fun d μ1 => match isD (tyD μ1 d) T with
  | some b => some (.ok (.bl b) μ1)
  | none => none
@[simp] theorem eIsi_ap (T : String) (f : Ev D) : eIsi T f ρ μ = isi1 T (f ρ μ) := rfl
@[simp] theorem isi_ii (i : Int) : isi1 "int" (some (.ok (.int i) μ)) = some (.ok (.bl true) μ) := rfl
@[simp] theorem isi_bi (i : Int) : isi1 "bool" (some (.ok (.int i) μ)) = some (.ok (.bl false) μ) := rfl
@[simp] theorem isi_tt (i : List D) : isi1 "tuple" (some (.ok (.tup i) μ)) = some (.ok (.bl true) μ) := rfl
@[simp] theorem isi_ll (i : List D) : isi1 "list" (some (.ok (.lst i) μ)) = some (.ok (.bl true) μ) := rfl
@[simp] theorem isi_bb (i : Bool) : isi1 "bool" (some (.ok (.bl i) μ)) = some (.ok (.bl true) μ) := rfl
def get2 (a : D) (r : Ro D) : Ro D := r.bnd fun b μ2 => match dget μ2 a b with
  | some (some d) => some (.ok d μ2)
  | _ => none
def get1 (r : Ro D) (k : Mu → Ro D) : Ro D := r.bnd fun a μ1 => get2 a (k μ1)
@[simp] theorem eGet_ap (f g : Ev D) : eGet f g ρ μ = get1 (f ρ μ) (g ρ) := rfl
@[simp] theorem get1_ok (a : D) (k : Mu → Ro D) : get1 (some (.ok a μ)) k = get2 a (k μ) := rfl
theorem get2_ok {a b d : D} (h : dget μ a b = some (some d)) : get2 a (some (.ok b μ)) = some (.ok d μ) := by simp [get2, h]
def call1 (m : Fd) (r : Ro (List D)) : Ro D := r.bnd fun ds μ1 => match m ds μ1 with
  | some (.ok d μ2) => some (.ok d μ2)
  | _ => none
@[simp] theorem eCall_ap (m : Fd) (f : Ev (List D)) : eCall m f ρ μ = call1 m (f ρ μ) := rfl
theorem call1_ok {m : Fd} {ds : List D} {d : D} (h : m ds μ = some (.ok d μ1)) : call1 m (some (.ok ds μ)) = some (.ok d μ1) := by simp [call1, h]
def frz1 (r : Ro D) : Ro D := r.bnd fun d μ1 => match frz 4 d μ1 with
  | some (d', μ2) => some (.ok d' μ2)
  | none => none
@[simp] theorem eFrz_ap (f : Ev D) : eFrz f ρ μ = frz1 (f ρ μ) := rfl
@[simp] theorem frz1_lst (xs : List D) : frz1 (some (.ok (.lst xs) μ)) = some (.ok (.lst xs) μ) := rfl
@[simp] theorem frz1_tup (xs : List D) : frz1 (some (.ok (.tup xs) μ)) = some (.ok (.tup xs) μ) := rfl
@[simp] theorem frz1_int (i : Int) : frz1 (some (.ok (.int i) μ)) = some (.ok (.int i) μ) := rfl
theorem frzs_pure {f : D → Mu → Option (D × Mu)} (hf : ∀ d μ, d.pure = true → f d μ = some (d, μ)) : ∀ {ds : List D}, pures ds = true → frzs f ds μ = some (ds, μ)
  | [], _ => rfl
  | d :: ds, h => by
    simp only [pures, Bool.and_eq_true] at h
    simp [frzs, hf d μ h.1, frzs_pure hf h.2]
theorem frz_pure (n : Nat) (d : D) (μ : Mu) (h : d.pure = true) : frz n d μ = some (d, μ) := by
  cases d <;> first | (simp [D.pure] at h; done) | (cases n <;> rfl)
theorem frz1_cell {k : Nat} {xs : List D} (h : μ[k]? = some (some (.lst xs))) (p : pures xs = true) : frz1 (some (.ok (.cell k) μ)) = some (.ok (.lst xs) (μ.set k none)) := by
  have e : frz 4 (.cell k) μ = some (.lst xs, μ.set k none) := by
    rw [frz]
    simp only [h]
    rw [frzs_pure (fun d μ => frz_pure 3 d μ) p]
  simp only [frz1, bnd_ok, e]
/-- o.append(d) and the like -/
def mt1 (op : Nat → List D → List D → Mu → Ro D) (r : Ro D) (k : Mu → Ro (List D)) : Ro D := r.bnd fun o μ1 => match o with
  | .cell c => (match μ1[c]? with
    | some (some (.lst _)) => (k μ1).bnd fun as μ2 => match μ2[c]? with
      | some (some (.lst xs)) => op c xs as μ2
      | _ => none
    | _ => none)
  | _ => none
@[simp] theorem eMt_ap (op : Nat → List D → List D → Mu → Ro D) (f : Ev D) (g : Ev (List D)) : eMt op f g ρ μ = mt1 op (f ρ μ) (g ρ) := rfl
theorem mt1_ok {op : Nat → List D → List D → Mu → Ro D} {c : Nat} {k : Mu → Ro (List D)} {xs ys as : List D} (h : μ[c]? = some (some (.lst xs))) (e : k μ = some (.ok as μ1)) (h2 : μ1[c]? = some (some (.lst ys))) : mt1 op (some (.ok (.cell c) μ)) k = op c ys as μ1 := by
  simp [mt1, h, e, h2]
theorem oAppend_ok {n0 k : Nat} {xs : List D} {d : D} (h : xs.length < 16777216) (p : (decide (n0 ≤ k) || d.pure) = true) : oAppend n0 k xs [d] μ = some (.ok .non (μ.set k (some (.lst (xs ++ [d]))))) := by
  simp only [oAppend, p, decide_eq_true h]; rfl
def mt0 (op : Nat → List D → Mu → Ro D) (r : Ro D) : Ro D := r.bnd fun o μ1 => match o with
  | .cell k => (match μ1[k]? with
    | some (some (.lst xs)) => op k xs μ1
    | _ => none)
  | _ => none
@[simp] theorem eMt0_ap (op : Nat → List D → Mu → Ro D) (f : Ev D) : eMt0 op f ρ μ = mt0 op (f ρ μ) := rfl
theorem mt0_ok {op : Nat → List D → Mu → Ro D} {c : Nat} {xs : List D} (h : μ[c]? = some (some (.lst xs))) : mt0 op (some (.ok (.cell c) μ)) = op c xs μ := by simp [mt0, h]
/-! walks -/
@[simp] theorem iRg1_ap (f : Ev (List D)) : iRg1 f ρ μ = Ro.bnd (f ρ μ) rng1 := rfl
@[simp] theorem iRg2_ap (f : Ev (List D)) : iRg2 f ρ μ = Ro.bnd (f ρ μ) rng2 := rfl
theorem rOk_of {j : Int} (h0 : -4611686018427387904 ≤ j) (h1 : j < 4611686018427387904) : rOk j = true := by
  exact rOk_iff.mpr ⟨h0, h1⟩
@[simp] theorem rng1_ok {j : Int} (h : rOk j = true) : rng1 [.int j] μ = some (.ok (.its (rngD 0 j.toNat)) μ) := by simp [rng1, h]
@[simp] theorem rng2_ok {i j : Int} (h : rOk i = true) (k : rOk j = true) : rng2 [.int i, .int j] μ = some (.ok (.its (rngD i (j - i).toNat)) μ) := by simp [rng2, h, k]
def any1 (r : Ro D) : Ro Src := r.bnd fun d μ1 => match srcOf μ1 d with
  | some s => some (.ok s μ1)
  | none => none
@[simp] theorem iAnyD_ap (f : Ev D) : iAnyD f ρ μ = any1 (f ρ μ) := rfl
@[simp] theorem any1_lst (xs : List D) : any1 (some (.ok (.lst xs) μ)) = some (.ok (.its xs) μ) := rfl
@[simp] theorem any1_tup (xs : List D) : any1 (some (.ok (.tup xs) μ)) = some (.ok (.its xs) μ) := rfl
@[simp] theorem any1_scr (xs : List D) : any1 (some (.ok (.scr xs) μ)) = some (.ok (.its xs) μ) := rfl
theorem any1_cell {k : Nat} {xs : List D} (h : μ[k]? = some (some (.lst xs))) : any1 (some (.ok (.cell k) μ)) = some (.ok (.cel k) μ) := by
  simp [any1, srcOf, viewL, h]
/-! targets -/
@[simp] theorem tName_ap (i : Nat) (d : D) : tName i d ρ μ = some (.ok (ρ.set i (some d)) μ) := rfl
@[simp] theorem tTupT_ap (n : Nat) (u : Tvs) (ds : List D) : tTupT n u (.tup ds) ρ μ = if ds.length = n then u ds ρ μ else none := rfl
def tg2 (r : Ro Env) : Ro Env := match r with
  | some (.ok ρ2 μ2) => some (.ok ρ2 μ2)
  | _ => none
def tg1 (r : Ro Env) (u : Env → Mu → Ro Env) : Ro Env := match r with
  | some (.ok ρ1 μ1) => tg2 (u ρ1 μ1)
  | _ => none
@[simp] theorem tConss_ap (t : Tv) (u : Tvs) (d : D) (r : List D) : tConss t u (d :: r) ρ μ = tg1 (t d ρ μ) (u r) := rfl
@[simp] theorem tg1_ok (u : Env → Mu → Ro Env) : tg1 (some (.ok ρ μ)) u = tg2 (u ρ μ) := rfl
@[simp] theorem tg2_ok : tg2 (some (.ok ρ μ)) = some (.ok ρ μ) := rfl
@[simp] theorem tNils_ap : tNils [] ρ μ = some (.ok ρ μ) := rfl
theorem tSub_ok {n0 k j : Nat} {f g : Ev D} {d : D} {xs : List D} {i : Int} {μ2 : Mu} (h1 : f ρ μ = some (.ok (.cell k) μ1)) (h2 : g ρ μ1 = some (.ok (.int i) μ2)) (h3 : μ2[k]? = some (some (.lst xs))) (i0 : 0 ≤ i) (hj : i.toNat = j) (hl : j < xs.length)
    (hp : (decide (n0 ≤ k) || d.pure) = true) : tSub n0 f g d ρ μ = some (.ok ρ (μ2.set k (some (.lst (xs.set j d))))) := by
  have e : ixN xs.length i = some j := by
    unfold ixN
    rw [if_pos i0, if_pos (by omega), hj]
  simp [tSub, h1, h2, h3, e]
  intro hk
  have : ¬ n0 ≤ k := by omega
  simpa [this] using hp
/-! statements -/
def seqs (r : Option Fl) (h : Sv) : Option Fl := match r with
  | some (.nx ρ1 μ1) => h ρ1 μ1
  | r => r
@[simp] theorem sSeq_ap (g h : Sv) : sSeq g h ρ μ = seqs (g ρ μ) h := rfl
@[simp] theorem seqs_nx (h : Sv) : seqs (some (.nx ρ μ)) h = h ρ μ := rfl
@[simp] theorem seqs_rt (d : D) (h : Sv) : seqs (some (.rt d μ)) h = some (.rt d μ) := rfl
@[simp] theorem seqs_bk (h : Sv) : seqs (some (.bk ρ μ)) h = some (.bk ρ μ) := rfl
@[simp] theorem seqs_ct (h : Sv) : seqs (some (.ct ρ μ)) h = some (.ct ρ μ) := rfl
@[simp] theorem seqs_ex (x : XD) (h : Sv) : seqs (some (.ex x ρ μ)) h = some (.ex x ρ μ) := rfl
@[simp] theorem seqs_seqs (r : Option Fl) (h k : Sv) : seqs (seqs r h) k = seqs r (sSeq h k) := by
  cases r with
  | none => rfl
  | some fl => cases fl <;> rfl
@[simp] theorem sNil_ap : sNil ρ μ = some (.nx ρ μ) := rfl
def ifs (r : Ro Bool) (ρ : Env) (g h : Sv) : Option Fl := r.thn ρ fun b μ1 => if b then g ρ μ1 else h ρ μ1
@[simp] theorem sIf_ap (c : Ev Bool) (g h : Sv) : sIf c g h ρ μ = ifs (c ρ μ) ρ g h := rfl
@[simp] theorem ifs_t (g h : Sv) : ifs (some (.ok true μ)) ρ g h = g ρ μ := rfl
@[simp] theorem ifs_f (g h : Sv) : ifs (some (.ok false μ)) ρ g h = h ρ μ := rfl
def rets (r : Ro D) (ρ : Env) : Option Fl := r.thn ρ fun d μ1 => some (.rt d μ1)
@[simp] theorem sRet_ap (f : Ev D) : sRet f ρ μ = rets (f ρ μ) ρ := rfl
@[simp] theorem rets_ok (d : D) : rets (some (.ok d μ)) ρ = some (.rt d μ) := rfl
@[simp] theorem sRetN_ap : sRetN ρ μ = some (.rt .non μ) := rfl
def drops (r : Ro D) (ρ : Env) : Option Fl := r.thn ρ fun _ μ1 => some (.nx ρ μ1)
@[simp] theorem sDrop_ap (f : Ev D) : sDrop f ρ μ = drops (f ρ μ) ρ := rfl
@[simp] theorem drops_ok (d : D) : drops (some (.ok d μ)) ρ = some (.nx ρ μ) := rfl
@[simp] theorem sBrk_ap : sBrk ρ μ = some (.bk ρ μ) := rfl
@[simp] theorem sCnt_ap : sCnt ρ μ = some (.ct ρ μ) := rfl
def sets (i : Nat) (r : Ro D) (ρ : Env) : Option Fl := r.thn ρ fun d μ1 => some (.nx (ρ.set i (some d)) μ1)
@[simp] theorem sSet_ap (i : Nat) (f : Ev D) : sSet i f ρ μ = sets i (f ρ μ) ρ := rfl
@[simp] theorem sets_ok (i : Nat) (d : D) : sets i (some (.ok d μ)) ρ = some (.nx (ρ.set i (some d)) μ) := rfl
def asgs (t : Tv) (r : Ro D) (ρ : Env) : Option Fl := r.thn ρ fun d μ1 => (t d ρ μ1).tg ρ
@[simp] theorem sAsg_ap (f : Ev D) (t : Tv) : sAsg f t ρ μ = asgs t (f ρ μ) ρ := rfl
@[simp] theorem asgs_ok (t : Tv) (d : D) : asgs t (some (.ok d μ)) ρ = (t d ρ μ).tg ρ := rfl
@[simp] theorem tg_ok {ρ' : Env} : Ro.tg (some (.ok ρ' μ)) ρ = some (.nx ρ' μ) := rfl
def fors (r : Ro Src) (ρ : Env) (tg : Tv) (body : Sv) : Option Fl := r.thn ρ fun src μ1 => match src with
  | .its ds => loopL tg body ds ρ μ1
  | .cel k => match viewL μ1 (.cell k) with
    | some ds => loopN (.cel k) tg body ds.length 0 ρ μ1
    | none => none
@[simp] theorem sFor_ap (fi : Ev Src) (tg : Tv) (body : Sv) : sFor fi tg body ρ μ = fors (fi ρ μ) ρ tg body := rfl
@[simp] theorem fors_its (ds : List D) (tg : Tv) (body : Sv) : fors (some (.ok (.its ds) μ)) ρ tg body = loopL tg body ds ρ μ := rfl
theorem fors_cel {k : Nat} {xs : List D} (h : μ[k]? = some (some (.lst xs))) (tg : Tv) (body : Sv) : fors (some (.ok (.cel k) μ)) ρ tg body = loopN (.cel k) tg body xs.length 0 ρ μ := by
  simp [fors, viewL, h]
/-- one turn -/
def turn1 (tg : Tv) (body : Sv) (d : D) : Sv := fun ρ μ => match tg d ρ μ with
  | some (.ok ρ1 μ1) => body ρ1 μ1
  | _ => none
/-- how a loop goes on -/
def Go (I : Env → Mu → Prop) (Q : Fl → Prop) : Option Fl → Prop
  | some (.nx ρ μ) => I ρ μ
  | some (.ct ρ μ) => I ρ μ
  | some (.bk ρ μ) => Q (.nx ρ μ)
  | some fl => Q fl
  | none => False
/-- THE RULE of a for over known items -/
theorem loop_rule {tg : Tv} {body : Sv} {Q : Fl → Prop} : ∀ {ds : List D} {ρ : Env} {μ : Mu} (I : Nat → Env → Mu → Prop) (h0 : I 0 ρ μ)
    (step : ∀ i d ρ μ, ds[i]? = some d → I i ρ μ → Go (I (i + 1)) Q (turn1 tg body d ρ μ)) (done : ∀ ρ μ, I ds.length ρ μ → Q (.nx ρ μ)), ∃ fl, loopL tg body ds ρ μ = some fl ∧ Q fl
  | [], ρ, μ, I, h0, step, done => ⟨_, rfl, done ρ μ h0⟩
  | d :: ds, ρ, μ, I, h0, step, done => by
    have h := step 0 d ρ μ rfl h0
    have rest : ∀ ρ' μ', I 1 ρ' μ' → ∃ fl, loopL tg body ds ρ' μ' = some fl ∧ Q fl := fun ρ' μ' h1 =>
      loop_rule (ds := ds) (fun i => I (i + 1)) h1 (fun i d ρ μ e h => step (i + 1) d ρ μ (by simpa using e) h) (fun ρ μ h => done ρ μ (by simpa using h))
    unfold turn1 at h
    show ∃ fl, turn tg body d ρ μ (loopL tg body ds) = some fl ∧ Q fl
    unfold turn
    split at h
    · rename_i ρ1 μ1 h1
      cases hb : body ρ1 μ1 with
      | none => rw [hb] at h; exact h.elim
      | some fl =>
        rw [hb] at h
        try simp only [h1, hb]
        cases fl with
        | nx a b => exact rest a b h
        | ct a b => exact rest a b h
        | bk a b => exact ⟨_, rfl, h⟩
        | rt a b => exact ⟨_, rfl, h⟩
        | ex a b c => exact ⟨_, rfl, h⟩
    · exact h.elim
/-- a for whose turns go on to the end -/
theorem loop_all {tg : Tv} {body : Sv} {ds : List D} {ρ : Env} {μ : Mu} (I : Nat → Env → Mu → Prop) (h0 : I 0 ρ μ)
    (step : ∀ i d ρ μ, ds[i]? = some d → I i ρ μ → Go (I (i + 1)) (fun _ => False) (turn1 tg body d ρ μ)) : ∃ ρ' μ', loopL tg body ds ρ μ = some (.nx ρ' μ') ∧ I ds.length ρ' μ' := by
  obtain ⟨fl, e, q⟩ := loop_rule (Q := fun fl => ∃ ρ' μ', fl = .nx ρ' μ' ∧ I ds.length ρ' μ') I h0 (fun i d ρ μ e h => by
    have := step i d ρ μ e h
    revert this
    cases turn1 tg body d ρ μ with
    | none => exact id
    | some fl => cases fl <;> simp [Go]) (fun ρ μ h => ⟨ρ, μ, rfl, h⟩)
  obtain ⟨ρ', μ', rfl, h⟩ := q
  exact ⟨ρ', μ', e, h⟩
@[simp] theorem turn1_name (i : Nat) (body : Sv) (d : D) : turn1 (tName i) body d ρ μ = body (ρ.set i (some d)) μ := rfl
theorem rng_get {lo : Int} {n i : Nat} {d : D} (h : (rngD lo n)[i]? = some d) : i < n ∧ d = .int (lo + i) := rngD_get h
/-! comprehensions -/
/-- a comprehension over known items: what each turn yields -/
theorem comp_rule {tg : Tv} {tt : Ev Bool} {te : Ev D} {ρ : Env} : ∀ {ds : List D} {μ : Mu} (I : Nat → Mu → List D → Prop) (h0 : I 0 μ [])
    (step : ∀ i d μ acc, ds[i]? = some d → I i μ acc → ∃ ρ1 μ1 b μ2, tg d ρ μ = some (.ok ρ1 μ1) ∧ tt ρ1 μ1 = some (.ok b μ2) ∧ (b = true → ∃ y μ3, te ρ1 μ2 = some (.ok y μ3) ∧ I (i + 1) μ3 (acc ++ [y])) ∧ (b = false → I (i + 1) μ2 acc)),
    ∃ ys μ', compL tg tt te ρ ds μ = some (.ok ys μ') ∧ I ds.length μ' ys := by
  have gen : ∀ {ds : List D} {μ : Mu} (I : Nat → Mu → List D → Prop) (acc : List D) (h0 : I 0 μ acc)
    (step : ∀ i d μ acc, ds[i]? = some d → I i μ acc → ∃ ρ1 μ1 b μ2, tg d ρ μ = some (.ok ρ1 μ1) ∧ tt ρ1 μ1 = some (.ok b μ2) ∧ (b = true → ∃ y μ3, te ρ1 μ2 = some (.ok y μ3) ∧ I (i + 1) μ3 (acc ++ [y])) ∧ (b = false → I (i + 1) μ2 acc)),
    ∃ ys μ', compL tg tt te ρ ds μ = some (.ok ys μ') ∧ I ds.length μ' (acc ++ ys) := by
    intro ds
    induction ds with
    | nil => intro μ I acc h0 step; exact ⟨[], μ, rfl, by simpa using h0⟩
    | cons d ds ih =>
      intro μ I acc h0 step
      obtain ⟨ρ1, μ1, b, μ2, e1, e2, ht, hf⟩ := step 0 d μ acc rfl h0
      have st := fun i d μ acc (e : ds[i]? = some d) h => step (i + 1) d μ acc (by simpa using e) h
      cases b with
      | true =>
        obtain ⟨y, μ3, e3, h1⟩ := ht rfl
        obtain ⟨ys, μ', e4, h2⟩ := ih (fun i => I (i + 1)) (acc ++ [y]) h1 st
        refine ⟨y :: ys, μ', ?_, by simpa using h2⟩
        show stepC tg tt te ρ d μ (compL tg tt te ρ ds) = _
        simp [stepC, e1, e2, e3, e4]
      | false =>
        obtain ⟨ys, μ', e4, h2⟩ := ih (fun i => I (i + 1)) acc (hf rfl) st
        refine ⟨ys, μ', ?_, by simpa using h2⟩
        show stepC tg tt te ρ d μ (compL tg tt te ρ ds) = _
        simp [stepC, e1, e2, e4]
  intro ds μ I h0 step
  obtain ⟨ys, μ', e, h⟩ := gen I [] h0 step
  exact ⟨ys, μ', e, by simpa using h⟩
def comps (mk : List D → Mu → Ro D) (r : Ro Src) (tg : Tv) (tt : Ev Bool) (te : Ev D) (ρ : Env) : Ro D := r.bnd fun src μ1 => match comp tg tt te ρ src μ1 with
  | some (.ok ys μ2) => mk ys μ2
  | _ => none
@[simp] theorem eComp_ap (fi : Ev Src) (tg : Tv) (tt : Ev Bool) (te : Ev D) (vs : List Nat) : eComp fi tg tt te vs ρ μ = comps newL (fi ρ μ) tg tt te (wipeE ρ vs) := rfl
@[simp] theorem eCompC_ap (fi : Ev Src) (tg : Tv) (tt : Ev Bool) (te : Ev D) (vs : List Nat) : eCompC fi tg tt te vs ρ μ = comps newC (fi ρ μ) tg tt te (wipeE ρ vs) := rfl
theorem comps_its {mk : List D → Mu → Ro D} {tg : Tv} {tt : Ev Bool} {te : Ev D} {ds ys : List D} (h : compL tg tt te ρ ds μ = some (.ok ys μ1)) : comps mk (some (.ok (.its ds) μ)) tg tt te ρ = mk ys μ1 := by
  simp [comps, comp, h]
theorem comps_cel {mk : List D → Mu → Ro D} {tg : Tv} {tt : Ev Bool} {te : Ev D} {k : Nat} {ds ys : List D} (hk : μ[k]? = some (some (.lst ds))) (h : compN (.cel k) tg tt te ρ ds.length 0 μ = some (.ok ys μ1)) : comps mk (some (.ok (.cel k) μ)) tg tt te ρ = mk ys μ1 := by
  simp [comps, comp, viewL, hk, h]
@[simp] theorem wipeE_nil : wipeE ρ [] = ρ := rfl
@[simp] theorem wipeE_cons (v : Nat) (vs : List Nat) : wipeE ρ (v :: vs) = (wipeE ρ vs).set v none := rfl
/-- over a cell, a function of the item, nothing changes -/
theorem comps_cel_map {mk : List D → Mu → Ro D} {j k : Nat} {te : Ev D} {ds : List D} (f : D → D) (hk : μ[k]? = some (some (.lst ds))) (h : ∀ d ∈ ds, te (ρ.set j (some d)) μ = some (.ok (f d) μ)) :
    comps mk (some (.ok (.cel k) μ)) (tName j) eYes te ρ = mk (ds.map f) μ := by
  have cur : Src.cur μ (.cel k) = some ds := by simp [Src.cur, viewL, hk]
  have gen : ∀ n i, n + i = ds.length → compN (.cel k) (tName j) eYes te ρ n i μ = some (.ok ((ds.drop i).map f) μ) := by
    intro n
    induction n with
    | zero =>
      intro i hi
      rw [List.drop_eq_nil_of_le (by omega)]
      simp only [compN, cur]
      rw [if_pos (by omega)]
      rfl
    | succ n ih =>
      intro i hi
      have hl : i < ds.length := by omega
      rw [List.drop_eq_getElem_cons hl]
      simp only [compN, cur, List.getElem?_eq_getElem hl]
      simp only [stepC, tName_ap, eYes_ap, h _ (List.getElem_mem hl), ih (i + 1) (by omega)]
      rfl
  exact comps_cel hk (gen ds.length 0 rfl)
/-! defs -/
def ends (n : Nat) (r : Option Fl) : Ro D := match r with
  | some (.nx _ μ') => leave n .non μ'
  | some (.rt d μ') => leave n d μ'
  | some (.ex x _ μ') => if x.low n then some (.exc x (μ'.take n)) else none
  | _ => none
theorem runD_ap (N : Nat) (body : Nat → Sv) (ds : List D) : runD N body ds μ = ends μ.length (body μ.length (ds.map some ++ List.replicate (N - ds.length) none) μ) := rfl
@[simp] theorem ends_rt (n : Nat) (d : D) : ends n (some (.rt d μ)) = leave n d μ := rfl
@[simp] theorem ends_nx (n : Nat) : ends n (some (.nx ρ μ)) = leave n .non μ := rfl
theorem leave_pure {n : Nat} {d : D} (h : d.pure = true) : leave n d μ = some (.ok d (μ.take n)) := by
  have := low_of_pure (n := n) h
  cases d <;> first | (simp [D.pure] at h; done) | simp [leave, this]
@[simp] theorem leave_int (n : Nat) (i : Int) : leave n (.int i) μ = some (.ok (.int i) (μ.take n)) := rfl
@[simp] theorem leave_non (n : Nat) : leave n .non μ = some (.ok .non (μ.take n)) := rfl
@[simp] theorem leave_bl (n : Nat) (b : Bool) : leave n (.bl b) μ = some (.ok (.bl b) (μ.take n)) := rfl
/-! data of whole numbers -/
@[simp] theorem pures_ints (ns : List Int) : pures (ns.map D.int) = true := by rw [pures_iff]; simp [D.pure]
theorem nices_ints (n : Nat) (ns : List Int) : nices n (ns.map D.int) = true := by rw [nices_iff]; simp [D.nice]
theorem eqvs_ints : ∀ (xs ys : List Int), PyData.eqvAll (pys (xs.map D.int)) (pys (ys.map D.int)) = decide (xs = ys)
  | [], [] => rfl
  | [], y :: ys => rfl
  | x :: xs, [] => rfl
  | x :: xs, y :: ys => by
    simp only [List.map_cons, pys, D.py, PyData.eqvAll, PyData.eqv, eqvs_ints xs ys, List.cons.injEq]
    by_cases h : x = y <;> simp [h]
theorem eqv_lst_ints (xs ys : List Int) : (D.lst (xs.map D.int)).eqv (.lst (ys.map D.int)) = decide (xs = ys) := eqvs_ints xs ys
theorem eqv_tup_ints (xs ys : List Int) : (D.tup (xs.map D.int)).eqv (.tup (ys.map D.int)) = decide (xs = ys) := eqvs_ints xs ys
@[simp] theorem eqv_int (i j : Int) : (D.int i).eqv (.int j) = (i == j) := rfl
@[simp] theorem eqv_non : D.eqv .non .non = true := rfl
@[simp] theorem val_int (i : Int) : val μ (.int i) = .int i := rfl
@[simp] theorem valS_lst (xs : List D) : val μ (.lst xs) = .lst xs := rfl
@[simp] theorem val_tup (xs : List D) : val μ (.tup xs) = .tup xs := rfl
@[simp] theorem val_non : val μ .non = .non := rfl
@[simp] theorem val_bl (b : Bool) : val μ (.bl b) = .bl b := rfl
@[simp] theorem val_str (b : Str) : val μ (.str b) = .str b := rfl
theorem val_cell {k : Nat} {xs : List D} (h : μ[k]? = some (some (.lst xs))) : val μ (.cell k) = .lst xs := by simp [val, h]
@[simp] theorem nice_int (n : Nat) (i : Int) : D.nice n (.int i) = true := by cases n <;> rfl
@[simp] theorem nice_non (n : Nat) : D.nice n .non = true := by cases n <;> rfl
@[simp] theorem nice_bl (n : Nat) (b : Bool) : D.nice n (.bl b) = true := by cases n <;> rfl
@[simp] theorem nice_lst_ints (n : Nat) (ns : List Int) : D.nice (n + 1) (.lst (ns.map D.int)) = true := nices_ints n ns
@[simp] theorem nice_tup_ints (n : Nat) (ns : List Int) : D.nice (n + 1) (.tup (ns.map D.int)) = true := nices_ints n ns
@[simp] theorem oEq_int (i j : Int) : oEq (.int i) (.int j) μ = some (.ok (.bl (i == j)) μ) := rfl
@[simp] theorem oNe_int (i j : Int) : oNe (.int i) (.int j) μ = some (.ok (.bl (!(i == j))) μ) := rfl
theorem oEq_ok {a b : D} (ha : (val μ a).nice 60 = true) (hb : (val μ b).nice 60 = true) : oEq a b μ = some (.ok (.bl ((val μ a).eqv (val μ b))) μ) := by simp [oEq, ha, hb]
@[simp] theorem get_end (μ : Mu) (m : Option M) : (μ ++ [m])[μ.length]? = some m := by simp
@[simp] theorem set_end (μ : Mu) (m m' : Option M) : (μ ++ [m]).set μ.length m' = μ ++ [m'] := by simp
@[simp] theorem take_end (μ μ' : Mu) : (μ ++ μ').take μ.length = μ := by simp
/-! what a run ends in -/
def Rn (r : Ro D) (P : D → Mu → Prop) : Prop := ∃ d μ', r = some (.ok d μ') ∧ P d μ'
def Sk (r : Option Fl) (Q : Fl → Prop) : Prop := ∃ fl, r = some fl ∧ Q fl
@[simp] theorem Rn_ok (d : D) (P : D → Mu → Prop) : Rn (some (.ok d μ)) P ↔ P d μ := ⟨fun ⟨_, _, e, h⟩ => by cases e; exact h, fun h => ⟨_, _, rfl, h⟩⟩
@[simp] theorem Sk_ok (fl : Fl) (Q : Fl → Prop) : Sk (some fl) Q ↔ Q fl := ⟨fun ⟨_, e, h⟩ => by cases e; exact h, fun h => ⟨_, rfl, h⟩⟩
theorem Rn.run {N : Nat} {body : Nat → Sv} {ds : List D} {P : D → Mu → Prop} (h : Sk (body μ.length (ds.map some ++ List.replicate (N - ds.length) none) μ) fun fl => Rn (ends μ.length (some fl)) P) : Rn (runD N body ds μ) P := by
  obtain ⟨fl, e, h⟩ := h
  rw [runD_ap, e]
  exact h
theorem Sk.ifs {b : Bool} {g h : Sv} {Q : Fl → Prop} (ht : b = true → Sk (g ρ μ) Q) (hf : b = false → Sk (h ρ μ) Q) : Sk (G4.ifs (some (.ok b μ)) ρ g h) Q := by
  cases b
  · exact hf rfl
  · exact ht rfl
theorem Sk.seq_ifs {b : Bool} {g h k : Sv} {Q : Fl → Prop} (ht : b = true → Sk (seqs (g ρ μ) k) Q) (hf : b = false → Sk (seqs (h ρ μ) k) Q) : Sk (seqs (G4.ifs (some (.ok b μ)) ρ g h) k) Q := by
  cases b
  · exact hf rfl
  · exact ht rfl
/-- a for, and what follows -/
def Then (Q : Fl → Prop) (k : Sv) : Fl → Prop
  | .nx ρ μ => Sk (k ρ μ) Q
  | fl => Q fl
theorem Sk.seq_loop {tg : Tv} {body k : Sv} {ds : List D} {Q : Fl → Prop} (I : Nat → Env → Mu → Prop) (h0 : I 0 ρ μ) (step : ∀ i d ρ μ, ds[i]? = some d → I i ρ μ → Go (I (i + 1)) (Then Q k) (turn1 tg body d ρ μ))
    (done : ∀ ρ μ, I ds.length ρ μ → Sk (k ρ μ) Q) : Sk (seqs (loopL tg body ds ρ μ) k) Q := by
  obtain ⟨fl, e, h⟩ := loop_rule (Q := Then Q k) I h0 step done
  rw [e]
  cases fl with
  | nx ρ μ => exact h
  | _ => exact ⟨_, rfl, h⟩
theorem Sk.loop {tg : Tv} {body : Sv} {ds : List D} {Q : Fl → Prop} (I : Nat → Env → Mu → Prop) (h0 : I 0 ρ μ) (step : ∀ i d ρ μ, ds[i]? = some d → I i ρ μ → Go (I (i + 1)) Q (turn1 tg body d ρ μ))
    (done : ∀ ρ μ, I ds.length ρ μ → Q (.nx ρ μ)) : Sk (loopL tg body ds ρ μ) Q := loop_rule I h0 step done
/-- a cut: what holds behind the first part -/
def Mid (I : Env → Mu → Prop) (Q : Fl → Prop) : Fl → Prop
  | .nx ρ μ => I ρ μ
  | fl => Q fl
@[simp] theorem Mid_nx (I : Env → Mu → Prop) (Q : Fl → Prop) : Mid I Q (.nx ρ μ) = I ρ μ := rfl
@[simp] theorem Mid_rt (I : Env → Mu → Prop) (Q : Fl → Prop) (d : D) : Mid I Q (.rt d μ) = Q (.rt d μ) := rfl
@[simp] theorem Mid_bk (I : Env → Mu → Prop) (Q : Fl → Prop) : Mid I Q (.bk ρ μ) = Q (.bk ρ μ) := rfl
@[simp] theorem Mid_ct (I : Env → Mu → Prop) (Q : Fl → Prop) : Mid I Q (.ct ρ μ) = Q (.ct ρ μ) := rfl
theorem Sk.cut {r : Option Fl} {s : Sv} {Q : Fl → Prop} (I : Env → Mu → Prop) (h : Sk r (Mid I Q)) (k : ∀ ρ μ, I ρ μ → Sk (s ρ μ) Q) : Sk (seqs r s) Q := by
  obtain ⟨fl, e, h⟩ := h
  rw [e]
  cases fl with
  | nx ρ μ => exact k ρ μ h
  | _ => exact ⟨_, rfl, h⟩
/-- a turn as Sk: one's own pace -/
theorem Go.of {I : Env → Mu → Prop} {Q : Fl → Prop} {r : Option Fl} (h : Sk r fun fl => Go I Q (some fl)) : Go I Q r := by
  obtain ⟨fl, e, h⟩ := h
  rw [e]
  exact h
@[simp] theorem Go_nx (I : Env → Mu → Prop) (Q : Fl → Prop) : Go I Q (some (.nx ρ μ)) = I ρ μ := rfl
@[simp] theorem Go_ct (I : Env → Mu → Prop) (Q : Fl → Prop) : Go I Q (some (.ct ρ μ)) = I ρ μ := rfl
@[simp] theorem Go_bk (I : Env → Mu → Prop) (Q : Fl → Prop) : Go I Q (some (.bk ρ μ)) = Q (.nx ρ μ) := rfl
@[simp] theorem Go_rt (I : Env → Mu → Prop) (Q : Fl → Prop) (d : D) : Go I Q (some (.rt d μ)) = Q (.rt d μ) := rfl
@[simp] theorem Then_rt (Q : Fl → Prop) (k : Sv) (d : D) : Then Q k (.rt d μ) = Q (.rt d μ) := rfl
@[simp] theorem Then_nx (Q : Fl → Prop) (k : Sv) : Then Q k (.nx ρ μ) = Sk (k ρ μ) Q := rfl
theorem comps_rule {mk : List D → Mu → Ro D} {tg : Tv} {tt : Ev Bool} {te : Ev D} {ds : List D} (I : Nat → Mu → List D → Prop) (h0 : I 0 μ [])
    (step : ∀ i d μ acc, ds[i]? = some d → I i μ acc → ∃ ρ1 μ1 b μ2, tg d ρ μ = some (.ok ρ1 μ1) ∧ tt ρ1 μ1 = some (.ok b μ2) ∧ (b = true → ∃ y μ3, te ρ1 μ2 = some (.ok y μ3) ∧ I (i + 1) μ3 (acc ++ [y])) ∧ (b = false → I (i + 1) μ2 acc)) :
    ∃ ys μ', comps mk (some (.ok (.its ds) μ)) tg tt te ρ = mk ys μ' ∧ I ds.length μ' ys := by
  obtain ⟨ys, μ', e, h⟩ := comp_rule I h0 step
  exact ⟨ys, μ', comps_its e, h⟩
/-- .. with one name and no test -/
theorem comps_rule1 {mk : List D → Mu → Ro D} {k : Nat} {te : Ev D} {ds : List D} (I : Nat → Mu → List D → Prop) (h0 : I 0 μ [])
    (step : ∀ i d μ acc, ds[i]? = some d → I i μ acc → ∃ y μ3, te (ρ.set k (some d)) μ = some (.ok y μ3) ∧ I (i + 1) μ3 (acc ++ [y])) :
    ∃ ys μ', comps mk (some (.ok (.its ds) μ)) (tName k) eYes te ρ = mk ys μ' ∧ I ds.length μ' ys :=
  comps_rule I h0 fun i d μ acc hd h => ⟨_, _, true, _, rfl, rfl, fun _ => step i d μ acc hd h, fun z => nomatch z⟩
/-- .. of a function of the item, nothing changes -/
theorem comps_map {mk : List D → Mu → Ro D} {k : Nat} {te : Ev D} {ds : List D} (f : D → D) (h : ∀ d ∈ ds, te (ρ.set k (some d)) μ = some (.ok (f d) μ)) :
    comps mk (some (.ok (.its ds) μ)) (tName k) eYes te ρ = mk (ds.map f) μ := by
  obtain ⟨ys, μ', e, rfl, hy⟩ := comps_rule1 (mk := mk) (k := k) (te := te) (ds := ds) (ρ := ρ) (μ := μ) (fun i μ' ys => μ' = μ ∧ ys = (ds.take i).map f) ⟨rfl, by simp⟩ (by
    rintro i d μ' acc hd ⟨rfl, rfl⟩
    refine ⟨f d, _, h d (List.mem_of_getElem? hd), rfl, ?_⟩
    rw [List.take_add_one, hd]
    simp)
  rw [e, hy, List.take_length]
theorem oNe_ok {a b : D} (ha : (val μ a).nice 60 = true) (hb : (val μ b).nice 60 = true) : oNe a b μ = some (.ok (.bl (!(val μ a).eqv (val μ b))) μ) := by simp [oNe, ha, hb]
end G4

/-! G14: enumerate over lists and tuples. -/
namespace G4
open PySem PySem.Spec PyProof.Rows L2
section
variable {P : Program} {w : World} {K : PySem.W.Frag}
def IteT (K : PySem.W.Frag) (a : Addr) : It where
  go := fun i H => ∃ (xs : List V) (x : V), SqT K H a xs ∧ xs[i]? = some x
  yld := fun i H v H' => ∃ T x, v = .ref T ∧ H T = none ∧ H' = upd H T (.tup [.int (i : Nat), x]) ∧
    ∀ xs, SqT K H a xs → xs[i]? = some x
  stop := fun i H => ∃ xs : List V, SqT K H a xs ∧ xs.length ≤ i
def EnSt (a e it : Addr) (i : Nat) (h : Heap) : Prop :=
  (∃ old, IsEnum h e it ((i : Nat) : Int) old) ∧ h.IsTupleIter it a i ∧ e ≠ it
theorem not_iter {h : Heap} {a b : Addr} {i : Nat} {its : Array Value} (x : h.IsTupleIter a b i) (p : h.IsTuple a its) : False := by
  obtain ⟨o, e, c, _⟩ := x
  obtain ⟨o', e', c', _⟩ := p
  rw [e] at e'
  cases e'
  rw [c] at c'
  exact absurd c' (by decide)
theorem not_enum {h : Heap} {a b : Addr} {i : Int} {v : Value} {its : Array Value} (x : IsEnum h a b i v) (p : h.IsTuple a its) : False := by
  obtain ⟨o', e', c', _⟩ := p
  rw [show h.get? a = some _ from x] at e'
  cases e'
  have c'' : Value.type "enumerate" = Value.type "tuple" := c'
  exact absurd c'' (by decide)
theorem draws_end {A : Around} (hh : A.handled = none) (it t : Addr) (items : Array Value) (i : Nat) (hi : items.size ≤ i) :
    Draws P w A it [it, t] i (fun _ _ => True) (fun j h => j = i ∧ h.IsTupleIter it t i ∧ h.IsTuple t items) where
  live := fun _ _ st => let ⟨o, ho, _⟩ := st.2.1; ⟨o, ho⟩
  frame := by
    rintro j h h' ⟨e, st, tp⟩ hk
    exact ⟨e, st.at fun o z => hk it (by simp) o z, tp.at fun o z => hk t (by simp) o z⟩
  item := by
    rintro j s Q E hj ⟨e, _⟩ _
    omega
  done := by
    rintro s Q E ⟨_, st, tp⟩ hE
    exact wpAny_nextOf_tuple_end hh st tp (Array.getElem?_eq_none hi) hE
theorem turn_enumT {el : List Expr} {k : Nat} {q : Pos} (a e it : Addr) :
    Turn P w K (.Tuple el k q) (IteT K a) [e, it] e (EnSt a e it) where
  mem := List.mem_cons_self ..
  obj := by
    rintro i h ⟨⟨old, he⟩, ⟨o, ho, hc, hd⟩, _⟩ b hb
    rcases List.mem_cons.mp hb with rfl | hb
    · exact ⟨_, he, fun v z => nomatch z⟩
    · rw [List.mem_singleton.mp hb]
      exact ⟨o, ho, fun v z => by rw [hd] at z; cases z⟩
  keep := by
    rintro i h h' ⟨⟨old, he⟩, hi, hne⟩ k
    exact ⟨⟨old, k e (by simp) _ he⟩, hi.at fun o z => k it (by simp) o z, hne⟩
  item := by
    rintro X rfl rfl rfl hc i pins s σ H E I hf ⟨⟨old, he⟩, hit, hne⟩ ⟨xs, x, hq, hx⟩
    obtain ⟨its, rv, p, hz⟩ := I.tuple hq
    obtain ⟨u, hu, ru⟩ := rv.get hx
    have p : s.heap.IsTuple a its.toArray := p
    have hel : e < s.heap.objs.size := Heap.lt_size he
    have hil : it < s.heap.objs.size := by
      obtain ⟨_, z, _⟩ := hit
      exact Heap.lt_size z
    obtain ⟨f0, f1, f2, f3, f4, f5⟩ := hf it (by simp)
    have hd : X.A.in1.handled = none := I.ok.hd hc
    have ni : it ≠ a := by
      rintro rfl
      exact not_iter hit p
    have ne : e ≠ a := by
      rintro rfl
      exact not_enum he p
    have dr := Draws.tuple (prog := X.prog) (w := X.w) hd it a (Ne.symm ni) its.toArray
    have ef : e ∉ [it, a] := by
      intro z
      rcases List.mem_cons.mp z with z | z
      · exact hne z
      · exact ne (List.mem_singleton.mp z)
    have hlt : i < its.toArray.size := by
      have := (List.getElem?_eq_some_iff.mp hu).1
      simpa using this
    refine wpAny_pyNext_enum_itemD dr he ⟨hit, p⟩ hlt hne ef fun v h' tk hv ho hst hT hsz hk => ?_
    have hv : v = u := by
      have hv' : its[i]? = some v := by simpa using hv
      rw [hu] at hv'
      cases hv'
      rfl
    subst hv
    refine ⟨_, rfl, wpAny_letOwnedTupleGo_enum (s := { s with heap := h', toks := tk + 1 }) ho fun h'' he' sb => ?_⟩
    have hT2 := (sb.2 _ (Nat.ne_of_gt hel)).trans hT
    have new : ObjOk X.prog X.w (upd H s.heap.objs.size (.tup [.int (i : Nat), x])) h'' s.heap.objs.size (.tup [.int (i : Nat), x]) :=
      ⟨by show 2 ≤ sizeLine; decide, [.int i tk, v], .cons ⟨_, rfl⟩ (.cons ru .nil), ⟨_, hT2, rfl, _, rfl⟩⟩
    have I1 : Inv X pins σ (upd H s.heap.objs.size (.tup [.int (i : Nat), x])) { s with heap := h'', toks := tk + 1 } := by
      refine I.turnedNew (ch := [e, it]) (fun b o hb z => ?_) hf (Nat.le_refl _) new
      have b1 : b ≠ e := fun z => hb (by simp [z])
      have b2 : b ≠ it := fun z => hb (by simp [z])
      exact (sb.2 b b1).trans (hk b o b1 b2 z)
    refine ⟨.ref s.heap.objs.size, _, I1, rfl, ⟨_, x, rfl, I.hok.fresh (Nat.le_refl _), rfl, ?_⟩, ⟨⟨v, ?_⟩, ?_, hne⟩, ?_⟩
    · intro ys hy
      rw [I.tuple_inj hy hq]
      exact hx
    · have e1 : ((i + 1 : Nat) : Int) = (i : Int) + 1 := by omega
      rw [e1]
      exact he'
    · exact hst.1.at fun o z => (sb.2 it (Ne.symm hne)).trans z
    · intro b hb
      have hb' : b < s.heap.objs.size := by
        rcases List.mem_cons.mp hb with rfl | z
        · exact hel
        · rw [List.mem_singleton.mp z]; exact hil
      rw [upd_ne (Nat.ne_of_lt hb')]
      exact (hf b hb).1
  done := by
    rintro X rfl rfl rfl hc i pins s σ H E I hf ⟨⟨old, he⟩, hit, hne⟩ ⟨xs, hq, hx⟩
    obtain ⟨its, rv, p, hz⟩ := I.tuple hq
    have p : s.heap.IsTuple a its.toArray := p
    obtain ⟨f0, f1, f2, f3, f4, f5⟩ := hf it (by simp)
    have hd : X.A.in1.handled = none := I.ok.hd hc
    have hl := rv.length
    have ne : e ∉ [it, a] := by
      intro z
      rcases List.mem_cons.mp z with z | z
      · exact hne z
      · rw [List.mem_singleton.mp z] at he
        exact not_enum he p
    have dr := draws_end (P := X.prog) (w := X.w) hd it a its.toArray i (by simp; omega)
    refine wpAny_pyNext_enum_endD dr he ⟨rfl, hit, p⟩ fun h' eb => ⟨rfl, ?_⟩
    exact I.turned (t' := s.toks) (fun b o hb z => eb b o hb z) f0 f1 f3 f4 f5
  self := by
    rintro A i s Q E ⟨⟨_, he⟩, _⟩ h
    exact wpAny_pyIter_enum he h
end
/-! it begins -/
def tupIt (t : Addr) : Obj := { cls := .type "tuple_iterator", data := .fields #[.ref t, .int 0 0] }
def enOb (it : Addr) : Obj := { cls := .type "enumerate", data := .fields #[.none, .bool false, .ref it, rawInt 0, .none, .none] }
theorem meets_en1 (t : Addr) (its : Array Value) : Meets (Builtin.«enumerate.__new__» ⟨[.type "enumerate", .ref t], []⟩) fun _ R s =>
    s.heap.IsTuple t its ∧ R (.ok (.ret (.ref (s.heap.push (tupIt t)).objs.size))) { s with heap := (s.heap.push (tupIt t)).push (enOb s.heap.objs.size) } :=
  .of_wp fun prog w A R s h => by
    obtain ⟨hp, g, d, tk, os⟩ := s
    obtain ⟨h1, h⟩ := h
    have hs := sub_enumerate
    have q1 : ∀ {A' : Around} {E : Value → Shared → Prop} {Q : Value → Shared → Prop}, Q (.ref hp.objs.size) ⟨hp.push (tupIt t), g, d, tk, os⟩ →
        wpAny (model prog w) A' (pyIter (.ref t)) Q E ⟨hp, g, d, tk, os⟩ := fun q => wpAny_pyIter_tuple h1 q
    wp_walk using q1
    refine wpAny_stack_any fun st => wpAny_pure ?_
    split
    · rename_i c _ _ _ _ _
      cases (c == Value.type "enumerate") <;> (wp_walk using q1; exact ⟨_, rfl, h⟩)
    · wp_walk using q1
      exact ⟨_, rfl, h⟩
section
variable {prog : Program} {w : World} {A : Around} {E : Value → Shared → Prop} {s : Shared}
theorem call_en1 {t : Addr} {its : Array Value} {Q : Value → Shared → Prop} (hT : s.heap.IsTuple t its)
    (h : ∀ h', IsEnum h' (s.heap.objs.size + 1) s.heap.objs.size 0 .none → h'.IsTupleIter s.heap.objs.size t 0 →
      (∀ b o, s.heap.get? b = some o → h'.get? b = some o) → Q (.ref (s.heap.objs.size + 1)) { s with heap := h' }) :
    wpAny (model prog w) A (call (.type "enumerate") [.ref t]) Q E s := by
  have f1 := fun obj => F.args_object_init_2 obj (.ref t)
  refine callType_new F.called_enumerate (by decide) (F.typeCall_enumerate_1 _) (F.newCall_enumerate_1 _) f1 F.entry_enumerate_new (meets_en1 t its) ⟨hT, ?_⟩
  have hz : (s.heap.push (tupIt t)).objs.size = s.heap.objs.size + 1 := Heap.size_push ..
  show _ ∧ _
  rw [hz]
  have he : IsEnum ((s.heap.push (tupIt t)).push (enOb s.heap.objs.size)) (s.heap.objs.size + 1) s.heap.objs.size 0 .none := by
    have := Heap.get?_push_size (s.heap.push (tupIt t)) (o := enOb s.heap.objs.size) rfl
    rw [hz] at this
    exact this
  refine ⟨⟨_, he, rfl⟩, h _ he ⟨_, Heap.get?_push_of_some _ (Heap.get?_push_size _ rfl), rfl, rfl⟩ fun b o x => ?_⟩
  exact Heap.get?_push_of_some _ (Heap.get?_push_of_some _ x)
end
section
variable {X : Cx}
def iEnA (K : PySem.W.Frag) (ta : TA) : TI := fun σ H R => ta σ H fun vs H1 => ∃ a, vs = [.ref a] ∧
  (((∃ xs, SqL K H1 a xs) ∧ R (Ite K a) H1) ∨ ((∃ xs, SqT K H1 a xs) ∧ R (IteT K a) H1))
theorem pi_enA {e : Expr} {ta : TA} {p pos tpos : Pos} {el : List Expr} {kk : Nat} (hg : Gl X "enumerate") (hm : X.mg "enumerate" = none) (ha : PA X [e] ta)
    (hs : starEach [e] X.env = [(false, eval e X.env)] := by rfl) : PI X (.Tuple el kk tpos) (.Call (.Name "enumerate" p) [e] [] pos) (iEnA X.K ta) := by
  refine ⟨fun pins s σ H R I h => ?_⟩
  refine Call_ (ld_blt I hg hm boot_enumerate (PyProof.Rows.callWith_type1 (thn (ha.run pos pins s σ H _ I h) fun us s1 ⟨vs, H1, I1, r1, q1⟩ => ?_) hs rfl))
  obtain ⟨a, rfl, q1⟩ := q1
  cases r1 with
  | cons r rr =>
    cases rr
    cases r
    have fp : ∀ b, b ∈ [s1.heap.objs.size + 1, s1.heap.objs.size] → FpOk X pins H1 b := fun b hb => by
      have hle : s1.heap.objs.size ≤ b := by
        rcases List.mem_cons.mp hb with rfl | z
        · exact Nat.le_add_right _ _
        · rw [List.mem_singleton.mp z]; exact Nat.le_refl _
      exact I1.fpOk hle (I1.hok.fresh hle)
    rcases q1 with ⟨⟨xs, hq⟩, q⟩ | ⟨⟨xs, hq⟩, q⟩
    · obtain ⟨its, rv, p', hz⟩ := I1.list hq
      refine call_enumerate_list p'.isList fun h' he hit hsz hk => wpAny_pyIter_enum he ?_
      have I2 : Inv X pins σ H1 { s1 with heap := h' } := I1.kept (t' := s1.toks) hk
      exact ⟨_, _, _, _, H1, rfl, I2, turn_enum a (s1.heap.objs.size + 1) s1.heap.objs.size, ⟨⟨.none, he⟩, hit, Nat.succ_ne_self _⟩, fp, q⟩
    · obtain ⟨its, rv, p', hz⟩ := I1.tuple hq
      refine call_en1 (show s1.heap.IsTuple a its.toArray from p') fun h' he hit hk => wpAny_pyIter_enum he ?_
      have I2 : Inv X pins σ H1 { s1 with heap := h' } := I1.kept (t' := s1.toks) hk
      exact ⟨_, _, _, _, H1, rfl, I2, turn_enumT a (s1.heap.objs.size + 1) s1.heap.objs.size, ⟨⟨.none, he⟩, hit, Nat.succ_ne_self _⟩, fp, q⟩
end
section
variable {G : Gx} {n0 : Nat} {W : WX}
def pairs : Nat → List D → List D
  | _, [] => []
  | i, d :: ds => .tup [.int (i : Nat), d] :: pairs (i + 1) ds
theorem pairs_get : ∀ {ds : List D} {k i : Nat}, (pairs k ds)[i]? = (ds[i]?).map fun d => D.tup [.int ((k + i : Nat) : Int), d]
  | [], k, i => by simp [pairs]
  | d :: ds, k, 0 => by simp [pairs]
  | d :: ds, k, i + 1 => by
    rw [pairs, List.getElem?_cons_succ, List.getElem?_cons_succ, pairs_get, show k + 1 + i = k + (i + 1) by omega]
theorem pairs_len : ∀ {ds : List D} {k : Nat}, (pairs k ds).length = ds.length
  | [], k => rfl
  | d :: ds, k => by rw [pairs, List.length_cons, List.length_cons, pairs_len]
def enA1 : List D → Mu → Ro Src
  | [.tup ds], μ => some (.ok (.its (pairs 0 ds)) μ)
  | [.lst ds], μ => some (.ok (.its (pairs 0 ds)) μ)
  | _, _ => none
def iEnD (f : Ev (List D)) : Ev Src := fun ρ μ => (f ρ μ).bnd enA1
theorem yl_pair {w' : Hw} {μ' : Mu} {T : Addr} {i : Nat} {d : D} {x : V} (c : Mc G w' μ') (hT : w'.H T = none) (r : Fr G.K w' d x) :
    ∃ w2, w2.H = upd w'.H T (.tup [.int (i : Nat), x]) ∧ Ex w' w2 ∧ Mc G w2 μ' ∧ Fr G.K w2 (.tup [.int (i : Nat), d]) (.ref T) := by
  have rs : Frs G.K w' [.int (i : Nat), d] [.int (i : Nat), x] := ⟨_, _, rfl, rfl, _, _, rfl, r, rfl⟩
  exact ⟨w'.fz T (.tup [.int (i : Nat), x]), rfl, .fz c hT, .fz c hT, fr_tup c hT rs⟩
theorem di_enA {t : TA} {f : Ev (List D)} (h : DA G n0 W t f) : DI G n0 W (iEnA G.K t) (iEnD f) := by
  intro w ρ μ σ c vr hn r e R fin
  rcases Ro.bnd_some e with ⟨ds, μ1, e1, e2⟩ | ⟨x, μ1, e1, e2⟩
  · refine h w ρ μ σ c vr hn _ e1 _ fun w1 vs p r1 => ?_
    unfold enA1 at e2
    split at e2 <;> cases e2
    · rename_i ds
      obtain ⟨v, rfl, a, vs, rfl, n, hH, rr⟩ := frs1 r1
      refine ⟨a, rfl, .inr ⟨⟨vs, .of hH⟩, fin w1 _ p fun w' μ' x c' ds' e' i => ?_⟩⟩
      cases e'
      have s : SqT G.K w'.H a vs := .of ((x.keep _ n).trans hH)
      refine ⟨fun d hd => ?_, fun hl => ⟨vs, s, by rw [rr.length]; rw [pairs_len] at hl; exact hl⟩⟩
      rw [pairs_get] at hd
      cases hd2 : ds[i]? with
      | none => rw [hd2] at hd; cases hd
      | some d2 =>
        rw [hd2] at hd
        obtain ⟨v, hv, fr⟩ := rr.get hd2
        have hd : D.tup [.int ((0 + i : Nat) : Int), d2] = d := Option.some.inj hd
        rw [Nat.zero_add] at hd
        subst hd
        refine ⟨⟨vs, v, s, hv⟩, ?_⟩
        rintro y H' ⟨T, z, rfl, hT, rfl, q⟩
        have := q vs s
        rw [hv] at this
        cases this
        exact yl_pair c' hT (fr.mono0 x)
    · rename_i ds
      obtain ⟨v, rfl, a, vs, rfl, n, hH, rr⟩ := frs1 r1
      refine ⟨a, rfl, .inl ⟨⟨vs, .of hH⟩, fin w1 _ p fun w' μ' x c' ds' e' i => ?_⟩⟩
      cases e'
      have s : SqL G.K w'.H a vs := .of ((x.keep _ n).trans hH)
      refine ⟨fun d hd => ?_, fun hl => ⟨vs, s, by rw [rr.length]; rw [pairs_len] at hl; exact hl⟩⟩
      rw [pairs_get] at hd
      cases hd2 : ds[i]? with
      | none => rw [hd2] at hd; cases hd
      | some d2 =>
        rw [hd2] at hd
        obtain ⟨v, hv, fr⟩ := rr.get hd2
        have hd : D.tup [.int ((0 + i : Nat) : Int), d2] = d := Option.some.inj hd
        rw [Nat.zero_add] at hd
        subst hd
        refine ⟨⟨vs, v, s, hv⟩, ?_⟩
        rintro y H' ⟨T, z, rfl, hT, rfl, q⟩
        have := q vs s
        rw [hv] at this
        cases this
        exact yl_pair c' hT (fr.mono0 x)
  · subst e2
    exact h w ρ μ σ c vr hn _ e1 _ fun w1 cls dx p x => fin w1 cls dx p x
@[simp] theorem iEnD_ap {ρ : Env} {μ : Mu} (f : Ev (List D)) : iEnD f ρ μ = Ro.bnd (f ρ μ) enA1 := rfl
@[simp] theorem enA1_tup {μ : Mu} (ds : List D) : enA1 [.tup ds] μ = some (.ok (.its (pairs 0 ds)) μ) := rfl
@[simp] theorem enA1_lst {μ : Mu} (ds : List D) : enA1 [.lst ds] μ = some (.ok (.its (pairs 0 ds)) μ) := rfl
end
end G4

/-! G15: slices and sums of tuples, slices of lists, names of the module. -/
namespace G4
open PySem PySem.Spec PyProof.Rows L2
section
variable {G : Gx} {n0 : Nat} {W : WX}
def cutD (xs : List D) (lo hi : Option Int) : List D := (xs.drop (HT.sIx xs.length 0 lo)).take (HT.sIx xs.length xs.length hi - HT.sIx xs.length 0 lo)
theorem cut_rel {K : PySem.W.Frag} {w : Hw} {xs : List D} {vs : List V} (r : Frs K w xs vs) (lo hi : Option Int) : Frs K w (cutD xs lo hi) (cutV vs lo hi) := by
  unfold cutD cutV
  rw [r.length]
  exact (r.drop _).take _
theorem cut_whole {xs : List D} {lo hi : Option Int} (h : HT.sIx xs.length 0 lo = 0 ∧ HT.sIx xs.length xs.length hi = xs.length) : cutD xs lo hi = xs := by
  unfold cutD
  rw [h.1, h.2]
  simp
abbrev DP (G : Gx) (n0 : Nat) (W : WX) (t : TO) (f : Ev (Option Int)) : Prop := DX G n0 W (fun _ o o' => o' = o) t f
def pNo : Ev (Option Int) := fun _ μ => some (.ok none μ)
def so1 (d : D) (μ : Mu) : Ro (Option Int) := match d with
  | .int i => some (.ok (some i) μ)
  | _ => none
def pSo (f : Ev D) : Ev (Option Int) := fun ρ μ => (f ρ μ).bnd so1
theorem dp_no : DP G n0 W tNoPart pNo := fun w ρ μ σ c vr hn => .ret c rfl fun Q q => q
theorem dp_so {t : TE} {f : Ev D} (h : DE G n0 W t f) : DP G n0 W (tPart t) (pSo f) := fun w ρ μ σ c vr hn =>
  (h w ρ μ σ c vr hn).bnd (uu := fun x H1 Q => ∃ i, x = .int i ∧ Q (some i) H1) fun w1 μ1 d x p r => by
    intro q e Q fin
    unfold so1 at e
    split at e <;> cases e
    rename_i i
    have r : x = .int i := r
    exact ⟨i, r, fin w1 _ (.refl p.mc) rfl⟩
def slT (d : D) (lo hi : Option Int) (μ : Mu) : Ro D := match d with
  | .tup xs => some (.ok (.tup (cutD xs lo hi)) μ)
  | _ => none
def slT2 (d : D) (l : Option Int) (r : Ro (Option Int)) : Ro D := r.bnd fun u μ3 => slT d l u μ3
def slT1 (d : D) (r : Ro (Option Int)) (h : Mu → Ro (Option Int)) : Ro D := r.bnd fun l μ2 => slT2 d l (h μ2)
def slT0 (r : Ro D) (g h : Mu → Ro (Option Int)) : Ro D := r.bnd fun d μ1 => slT1 d (g μ1) h
def eSlT (f : Ev D) (lo hi : Ev (Option Int)) : Ev D := fun ρ μ => slT0 (f ρ μ) (lo ρ) (hi ρ)
theorem de_slT {t : TE} {tl th : TO} {f : Ev D} {lo hi : Ev (Option Int)} (h : DE G n0 W t f) (hl : DP G n0 W tl lo) (hh : DP G n0 W th hi) : DE G n0 W (tSl (rSlA G.K) t tl th) (eSlT f lo hi) := by
  intro w ρ μ σ c vr hn
  refine (h w ρ μ σ c vr hn).bnd (uu := fun x H1 Q => tl σ H1 fun l H2 => th σ H2 fun u H3 => rSlA G.K x l u H3 Q) fun w1 μ1 d x p1 r1 => ?_
  refine (hl w1 ρ μ1 σ p1.mc (vr.mono p1.ex) (p1.nn hn)).bnd (uu := fun l H2 Q => th σ H2 fun u H3 => rSlA G.K x l u H3 Q) fun w2 μ2 l l' p2 r2 => ?_
  have r2 : l' = l := r2
  subst r2
  refine (hh w2 ρ μ2 σ p2.mc ((vr.mono p1.ex).mono p2.ex) (p2.nn (p1.nn hn))).bnd (uu := fun u H3 Q => rSlA G.K x l' u H3 Q) fun w3 μ3 u u' p3 r3 => ?_
  have r3 : u' = u := r3
  subst r3
  intro q e Q fin
  have rd := (r1.mono p2.ex).mono p3.ex
  unfold slT at e
  split at e <;> cases e
  rename_i xs
  obtain ⟨a, vs, rfl, n, hH, rs⟩ := rd
  refine ⟨a, vs, rfl, .of hH, fun hw => ?_, fun hw p hp => ?_⟩
  · rw [rs.length] at hw
    rw [cut_whole hw] at fin
    exact fin w3 _ (.refl p3.mc) ⟨a, vs, rfl, n, hH, rs⟩
  · exact fin_fz p3.mc hp (fr_tup p3.mc hp (cut_rel rs l' u')) fin
/-- t + u -/
def oCatA : D → D → Mu → Ro D
  | .tup xs, .tup ys, μ => if small (xs.length + ys.length) then some (.ok (.tup (xs ++ ys)) μ) else none
  | _, _, _ => none
theorem dr_catA : DR2 G n0 W (rCatA G.K) oCatA := by
  intro w μ σ a x b y c hn ra rb q e Q f
  unfold oCatA at e
  split at e
  · rename_i xs ys
    split at e <;> rename_i hs <;> cases e
    obtain ⟨a, vs, rfl, n1, h1, r1⟩ := ra
    obtain ⟨b, us, rfl, n2, h2, r2⟩ := rb
    refine ⟨a, b, vs, us, rfl, rfl, .of h1, .of h2, by rw [r1.length, r2.length]; exact small_ok hs, ?_, ?_, ?_⟩
    · rintro rfl
      have : xs = [] := by
        have := r1.length
        cases xs
        · rfl
        · simp at this
      subst this
      exact f w _ (.refl c) ⟨b, us, rfl, n2, h2, r2⟩
    · rintro _ rfl
      have : ys = [] := by
        have := r2.length
        cases ys
        · rfl
        · simp at this
      subst this
      rw [List.append_nil] at f
      exact f w _ (.refl c) ⟨a, vs, rfl, n1, h1, r1⟩
    · intro _ _ p hp
      exact fin_fz c hp (fr_tup c hp (r1.append r2)) f
  · cases e
end
theorem pe_gD {X : Cx} {n : Str} {v : V} {pos : Pos} (hg : Gl X n) (h : ∃ u, X.mg n = some u ∧ RelV v u)
    (hd : (n == ("__debug__" : Str)) = false := by decide) : PE X (.Name n pos) (tC v) :=
  h.elim fun u q => pe_glob hg q.1 q.2 hd
section
variable {ρ : Env} {μ : Mu}
@[simp] theorem eSlT_ap (f : Ev D) (lo hi : Ev (Option Int)) : eSlT f lo hi ρ μ = slT0 (f ρ μ) (lo ρ) (hi ρ) := rfl
@[simp] theorem slT0_ok (d : D) (g h : Mu → Ro (Option Int)) : slT0 (some (.ok d μ)) g h = slT1 d (g μ) h := rfl
@[simp] theorem slT1_ok (d : D) (l : Option Int) (h : Mu → Ro (Option Int)) : slT1 d (some (.ok l μ)) h = slT2 d l (h μ) := rfl
@[simp] theorem slT2_ok (d : D) (l u : Option Int) : slT2 d l (some (.ok u μ)) = slT d l u μ := rfl
@[simp] theorem slT_tup (xs : List D) (l u : Option Int) : slT (.tup xs) l u μ = some (.ok (.tup (cutD xs l u)) μ) := rfl
@[simp] theorem pNo_ap : pNo ρ μ = some (.ok none μ) := rfl
@[simp] theorem pSo_ap (f : Ev D) : pSo f ρ μ = Ro.bnd (f ρ μ) so1 := rfl
@[simp] theorem so1_int (i : Int) : so1 (.int i) μ = some (.ok (some i) μ) := rfl
theorem oCatA_ok {xs ys : List D} (h : xs.length + ys.length ≤ 16777216) : oCatA (.tup xs) (.tup ys) μ = some (.ok (.tup (xs ++ ys)) μ) := by simp [oCatA, small, h]
theorem cut_to (xs : List D) {i : Int} (h0 : 0 ≤ i) : cutD xs none (some i) = xs.take i.toNat := by
  have e : HT.sIx xs.length xs.length (some i) = min i.toNat xs.length := by
    have := HT.sIx_nat xs.length xs.length i.toNat
    rw [Int.toNat_of_nonneg h0] at this
    exact this
  unfold cutD
  rw [e, HT.sIx_none]
  simp [List.take_eq_take_min]
theorem cut_from (xs : List D) {i : Int} (h0 : 0 ≤ i) : cutD xs (some i) none = xs.drop i.toNat := by
  have e : HT.sIx xs.length 0 (some i) = min i.toNat xs.length := by
    have := HT.sIx_nat xs.length 0 i.toNat
    rw [Int.toNat_of_nonneg h0] at this
    exact this
  unfold cutD
  rw [e, HT.sIx_none]
  by_cases h : i.toNat ≤ xs.length
  · rw [Nat.min_eq_left h, List.take_of_length_le (by rw [List.length_drop]; omega)]
  · rw [Nat.min_eq_right (by omega), List.drop_eq_nil_of_le (Nat.le_refl _), List.drop_eq_nil_of_le (by omega)]
    simp
end
end G4

/-! G16: l.index(x). -/
namespace G4
open PySem PySem.Spec PyProof.Rows L2
section
variable {G : Gx} {n0 : Nat} {W : WX}
def idx1 (o : D) (as : List D) (μ : Mu) : Ro D := match o, as with
  | .lst xs, [d] => if (D.lst xs).nice 60 && (val μ d).nice 60 then (match xs.findIdx? fun z => z.eqv (val μ d) with
    | some j => some (.ok (.int (j : Nat)) μ)
    | none => none) else none
  | _, _ => none
def idx0 (r : Ro D) (k : Mu → Ro (List D)) : Ro D := r.bnd fun o μ1 => match o with
  | .lst xs => (k μ1).bnd (idx1 (.lst xs))
  | .cell c => (match μ1[c]? with
    | some (some (.lst _)) => (k μ1).bnd fun as μ2 => (match μ2[c]? with
      | some (some (.lst xs)) => idx1 (.lst xs) as μ2
      | _ => none)
    | _ => none)
  | _ => none
def eIdx (f : Ev D) (g : Ev (List D)) : Ev D := fun ρ μ => idx0 (f ρ μ) (g ρ)
theorem pys_get {xs : List D} {j : Nat} {d : D} (h : xs[j]? = some d) : (pys xs)[j]? = some d.py := by
  rw [pys_map, List.getElem?_map, h]
  rfl
theorem de_idx {to : TE} {t : TA} {f : Ev D} {g : Ev (List D)} (h : DE G n0 W to f) (k : DA G n0 W t g) : DE G n0 W (tBM G.K "list" (rIndexD G.K) to t) (eIdx f g) := by
  intro w ρ μ σ c vr hn
  refine (h w ρ μ σ c vr hn).bnd (uu := fun x H1 (Q : VK) => tyV G.K "list" x H1 ∧ t σ H1 fun xs H2 => rIndexD G.K x xs H2 Q) fun w1 μ1 o x p1 r1 => ?_
  intro q e Q fin
  split at e
  · rename_i xs
    have r1' := r1
    obtain ⟨a, vs, rfl, n, hH, rs⟩ := r1
    refine ⟨.inl ⟨rfl, vs, .of hH⟩, ?_⟩
    refine (k w1 ρ μ1 σ p1.mc (vr.mono p1.ex) (p1.nn hn)).bnd (R' := Fr G.K) (uu := fun us H2 (Q : VK) => rIndexD G.K (.ref a) us H2 Q) (fun w2 μ2 as us p2 r2 => ?_) q e Q fin
    intro q e Q fin
    unfold idx1 at e
    split at e <;> try cases e
    rename_i ys d he
    cases he
    split at e <;> rename_i hs <;> try cases e
    rw [Bool.and_eq_true] at hs
    split at e <;> cases e
    rename_i j hj
    obtain ⟨y, rfl, fr⟩ := frs1 r2
    obtain ⟨hl, hp, hno⟩ := List.findIdx?_eq_some_iff_getElem.mp hj
    have e1 := val_dp (d := .lst xs) p2.mc (r1'.mono p2.ex) hs.1
    have s1 := nice_shaped hs.1
    refine ⟨a, y, (val μ2 d).py, pys xs, j, xs[j].py, rfl, rfl, e1, val_dp p2.mc fr hs.2, s1, nice_shaped hs.2, pys_get (List.getElem?_eq_getElem hl), hp, ?_, fin w2 _ (.refl p2.mc) rfl⟩
    intro m z' hm hz'
    have hml : m < xs.length := by omega
    rw [pys_get (List.getElem?_eq_getElem hml)] at hz'
    cases hz'
    have := hno m hm
    simpa [D.eqv] using this
  · rename_i c'
    have r1' := r1
    obtain ⟨a, rfl, ha⟩ := r1
    split at e <;> try cases e
    rename_i xs0 hm0
    obtain ⟨⟨vs0, h1, _⟩, _⟩ := p1.mc.cell c' _ a hm0 ha
    refine ⟨.inl ⟨rfl, vs0, .of h1⟩, ?_⟩
    refine (k w1 ρ μ1 σ p1.mc (vr.mono p1.ex) (p1.nn hn)).bnd (R' := Fr G.K) (uu := fun us H2 (Q : VK) => rIndexD G.K (.ref a) us H2 Q) (fun w2 μ2 as us p2 r2 => ?_) q e Q fin
    intro q e Q fin
    split at e <;> try cases e
    rename_i xs hm
    unfold idx1 at e
    split at e <;> try cases e
    rename_i ys d he
    cases he
    split at e <;> rename_i hs <;> try cases e
    rw [Bool.and_eq_true] at hs
    split at e <;> cases e
    rename_i j hj
    obtain ⟨y, rfl, fr⟩ := frs1 r2
    obtain ⟨hl, hp, hno⟩ := List.findIdx?_eq_some_iff_getElem.mp hj
    have ev : val μ2 (.cell c') = .lst xs := by simp [val, hm]
    have e1 := val_dp (d := .cell c') p2.mc (r1'.mono p2.ex) (by rw [ev]; exact hs.1)
    rw [ev] at e1
    have s1 := nice_shaped hs.1
    refine ⟨a, y, (val μ2 d).py, pys xs, j, xs[j].py, rfl, rfl, e1, val_dp p2.mc fr hs.2, s1, nice_shaped hs.2, pys_get (List.getElem?_eq_getElem hl), hp, ?_, fin w2 _ (.refl p2.mc) rfl⟩
    intro m z' hm hz'
    have hml : m < xs.length := by omega
    rw [pys_get (List.getElem?_eq_getElem hml)] at hz'
    cases hz'
    have := hno m hm
    simpa [D.eqv] using this
  · cases e
end
section
variable {ρ : Env} {μ : Mu}
@[simp] theorem eIdx_ap (f : Ev D) (g : Ev (List D)) : eIdx f g ρ μ = idx0 (f ρ μ) (g ρ) := rfl
@[simp] theorem idx0_lst (xs : List D) (k : Mu → Ro (List D)) : idx0 (some (.ok (.lst xs) μ)) k = Ro.bnd (k μ) (idx1 (.lst xs)) := rfl
theorem idx0_cell {c : Nat} {xs ys as : List D} {μ1 : Mu} {k : Mu → Ro (List D)} (h : μ[c]? = some (some (.lst xs))) (e : k μ = some (.ok as μ1)) (h2 : μ1[c]? = some (some (.lst ys))) : idx0 (some (.ok (.cell c) μ)) k = idx1 (.lst ys) as μ1 := by
  show (match μ[c]? with
    | some (some (.lst _)) => (k μ).bnd fun as μ2 => (match μ2[c]? with
      | some (some (.lst xs)) => idx1 (.lst xs) as μ2
      | _ => none)
    | _ => none) = _
  rw [h, e]
  simp only [bnd_ok, h2]
theorem idx1_ok {xs : List D} {d : D} {j : Nat} (h1 : (D.lst xs).nice 60 = true) (h2 : (val μ d).nice 60 = true) (h : (xs.findIdx? fun z => z.eqv (val μ d)) = some j) : idx1 (.lst xs) [d] μ = some (.ok (.int (j : Nat)) μ) := by
  simp [idx1, h1, h2, h]
end
end G4

/-! G17: set comprehensions of ints, with one or two fors. -/
namespace G4
open PySem PySem.Spec PyProof.Rows L2
section
variable {prog : Program} {w : World} {A : Around} {R : Result → Shared → Prop} {s : Shared}
abbrev sc1 (elt t1 i1 : Expr) (f1 : List Expr) (sc : Scope) (pos : Pos) : Expr := .SetComp elt [⟨t1, i1, f1, 0⟩] sc pos
abbrev sc2 (elt t1 i1 : Expr) (f1 : List Expr) (t2 i2 : Expr) (f2 : List Expr) (sc : Scope) (pos : Pos) : Expr := .SetComp elt [⟨t1, i1, f1, 0⟩, ⟨t2, i2, f2, 0⟩] sc pos
/-- an item goes into the set -/
def emS (elt : Expr) (acc : Value) (env : PySem.Env) (k : Sem PySem.Fin) : Sem PySem.Fin :=
  (do let v ← eval elt env; standAt elt.pos; let _ ← call (.builtin "set.add") [acc, v]) >>= fun _ => k
/-- the inner for runs -/
def emF (e i2 : Expr) (acc : Value) (env : PySem.Env) (k : Sem PySem.Fin) : Sem PySem.Fin := do
  let x ← eval i2 env
  standAt i2.pos
  let x ← foldedSetIterable i2 env x
  let j ← holding [x] (pyIter x)
  let _ ← runOwn (.compStart e 1 j acc env) env
  k
/-- one turn of a for -/
def cturn (e : Expr) (d : Nat) (p : Pos) (tg : Expr) (fs : List Expr) (em : Sem PySem.Fin → Sem PySem.Fin) (it acc : Value) (env : PySem.Env) : Sem PySem.Fin := do
  standAt p
  match ← pyNext it with
  | none => pure (.done .next)
  | some u =>
    letOwnedTupleGo tg it u
    assign tg env u
    let mut ok := true
    for c in fs do
      if ok then
        ok ← isTrue c env (eval c env)
    if ok then em (again (.compLoop e d it acc env)) else again (.compLoop e d it acc env)
theorem ct_one (elt t1 i1 : Expr) (f1 : List Expr) (sc : Scope) (pos : Pos) (it acc : Value) (env : PySem.Env) :
    compTurn (sc1 elt t1 i1 f1 sc pos) 0 it acc env = cturn (sc1 elt t1 i1 f1 sc pos) 0 i1.pos t1 f1 (emS elt acc env) it acc env := by rfl
theorem ct_in (elt t1 i1 : Expr) (f1 : List Expr) (t2 i2 : Expr) (f2 : List Expr) (sc : Scope) (pos : Pos) (it acc : Value) (env : PySem.Env) :
    compTurn (sc2 elt t1 i1 f1 t2 i2 f2 sc pos) 1 it acc env = cturn (sc2 elt t1 i1 f1 t2 i2 f2 sc pos) 1 i2.pos t2 f2 (emS elt acc env) it acc env := by rfl
theorem ct_out (elt t1 i1 : Expr) (f1 : List Expr) (t2 i2 : Expr) (f2 : List Expr) (sc : Scope) (pos : Pos) (it acc : Value) (env : PySem.Env) :
    compTurn (sc2 elt t1 i1 f1 t2 i2 f2 sc pos) 0 it acc env = cturn (sc2 elt t1 i1 f1 t2 i2 f2 sc pos) 0 i1.pos t1 f1 (emF (sc2 elt t1 i1 f1 t2 i2 f2 sc pos) i2 acc env) it acc env := by rfl
/-- what is done with an item, and then P -/
def EmOk (M : Model) (A : Around) (em : Sem PySem.Fin → Sem PySem.Fin) (P : Shared → Prop) (s : Shared) : Prop :=
  ∀ (k : Sem PySem.Fin) (Q : PySem.Fin → Shared → Prop) (E : Value → Shared → Prop), (∀ s', P s' → wpAny M A k Q E s') → wpAny M A (em k) Q E s
/-- a loop of the block: nothing raises -/
theorem cloop {elt : Expr} {gens : List Comprehension} {sc : Scope} {pos p : Pos} {d : Nat} {it acc : Value} {env : PySem.Env} {tg : Expr} {fs : List Expr} {em : Sem PySem.Fin → Sem PySem.Fin}
    (ht : compTurn (.SetComp elt gens sc pos) d it acc env = cturn (.SetComp elt gens sc pos) d p tg fs em it acc env) (I : Nat → Shared → Prop)
    (turn : ∀ n s, I n s → wpAny (model prog w) A (pyNext it) (fun r s1 => match r with
      | none => R (.ok .next) s1
      | some v => wpAny (model prog w) A (letOwnedTupleGo tg it v) (fun _ s2 => wpAny (model prog w) A (assign tg env v) (fun _ s3 =>
          wpAny (model prog w) A (forIn fs true fun c r => if r = true then do let ok ← isTrue c env (eval c env); pure (ForInStep.yield ok) else pure (ForInStep.yield r))
            (fun ok s4 => if ok = true then EmOk (model prog w) A em (fun s5 => ∃ m, m < n ∧ I m s5) s4 else ∃ m, m < n ∧ I m s4)
            (fun _ _ => False) s3) (fun _ _ => False) s2) (fun _ _ => False) s1) (fun _ _ => False) s)
    (n : Nat) (h : I n s) : codeAny (model prog w) A (.compLoop (.SetComp elt gens sc pos) d it acc env) R s := by
  refine codeAny_loop rfl I (fun n s hI => ?_) n h
  show wpAny _ A ((compTurn (.SetComp elt gens sc pos) d it acc env).onRaise fun x => do noteFrame x env; theTreesLotGoes x) _ _ s
  refine wpAny_noted ?_
  rw [ht]
  unfold cturn
  refine wpAny_bind (wpAny_standAt (wpAny_bind (thnF (turn n s hI) fun r s1 h1 => ?_)))
  cases r with
  | none => exact wpAny_pure h1
  | some v =>
    refine wpAny_bind (thnF h1 fun _ s2 h2 => ?_)
    refine wpAny_bind (thnF h2 fun _ s3 h3 => wpAny_bind (thnF h3 fun ok s4 h4 => ?_))
    cases ok with
    | false => exact wpAny_pure ⟨rfl, h4⟩
    | true => exact h4 _ _ _ fun s5 h5 => wpAny_pure ⟨rfl, h5⟩
/-- it begins: the iterator itself, or its own iterator -/
theorem cstart {elt : Expr} {gens : List Comprehension} {g : Comprehension} {sc : Scope} {pos : Pos} {d : Nat} {it acc : Value} {env : PySem.Env} (hg : gens[d]? = some g) (ha : g.is_async = 0)
    (h0 : codeAny (model prog w) A (.compLoop (.SetComp elt gens sc pos) d it acc env) R s)
    (h : wpAny (model prog w) A (pyIter it) (fun it' s' => codeAny (model prog w) A (.compLoop (.SetComp elt gens sc pos) d it' acc env) R s') (fun _ _ => False) s) :
    codeAny (model prog w) A (.compStart (.SetComp elt gens sc pos) d it acc env) R s := by
  refine codeAny_of_tree ?_
  show wpAny _ A ((compStart (.SetComp elt gens sc pos) d it acc env).onRaise fun x => do noteFrame x env; standAt theWindowsPlace) _ _ s
  refine wpAny_notedAt ?_
  unfold compStart
  have e : ((clausesOf (.SetComp elt gens sc pos))[d]?).elim false (fun c => c.is_async != 0) = false := by
    show (gens[d]?).elim false _ = false
    rw [hg]
    show (g.is_async != 0) = false
    rw [ha]
    rfl
  rw [e]
  show wpAny _ A (ask >>= _) _ _ s
  refine wpAny_bind (wpAny_askSetting (wpAny_ite ?_))
  split
  · first
      | exact wpAny_bind (wpAny_pure (wpAny_pure ⟨rfl, h0⟩))
      | exact wpAny_pure ⟨rfl, h0⟩
  · have hc : (clausesOf (.SetComp elt gens sc pos))[d]? = some g := hg
    rw [hc]
    refine wpAny_bind (wpAny_rule ?_)
    refine wpAny_bind (wpAny_standAt (wpAny_bind (thnF h fun it' s' h' => wpAny_pure ⟨rfl, h'⟩)))
theorem emS_ok {elt : Expr} {acc : Value} {env : PySem.Env} {P : Shared → Prop}
    (h : wpAny (model prog w) A (eval elt env) (fun x s1 => wpAny (model prog w) A (call (.builtin "set.add") [acc, x]) (fun _ s2 => P s2) (fun _ _ => False) s1) (fun _ _ => False) s) :
    EmOk (model prog w) A (emS elt acc env) P s := by
  intro k Q E hk
  unfold emS
  exact wpAny_bind (wpAny_bind (thnF h fun x s1 h1 => wpAny_bind (wpAny_standAt (wpAny_bind (thnF h1 fun _ s2 h2 => wpAny_pure (hk s2 h2))))))
theorem emF_ok {e i2 : Expr} {acc : Value} {env : PySem.Env} {P : Shared → Prop} (hs : ∀ x, foldedSetIterable i2 env x = pure x)
    (h : wpAny (model prog w) A (eval i2 env) (fun x s1 => wpAny (model prog w) A (pyIter x) (fun j s2 => ∀ R : Result → Shared → Prop, (∀ s3, P s3 → R (.ok .next) s3) → codeAny (model prog w) A (.compStart e 1 j acc env) R s2) (fun _ _ => False) s1) (fun _ _ => False) s) :
    EmOk (model prog w) A (emF e i2 acc env) P s := by
  intro k Q E hk
  unfold emF
  refine wpAny_bind (thnF h fun x s1 h1 => wpAny_bind (wpAny_standAt (wpAny_bind (wpAny_of_eq (hs x) ?_))))
  refine wpAny_bind (wpAny_holding (thnF h1 fun j s2 h2 => wpAny_bind (wpAny_runOwn ?_)))
  exact h2 _ fun s3 h3 => hk s3 h3
end
/-! ### the block -/
section
variable {X : Cx}
def addTo (w : World) (D : Addr) (y : V) (H4 : Hp) (Nx : Hp → Prop) : Prop := ∃ (k : Int) (S : Int → Bool) (n : Nat), y = .int k ∧ H4 D = some (SetO w D S n) ∧ n + 1 < scanBound ∧
  Nx (upd H4 D (SetO w D (fun j => S j || decide (j = k)) (if S k = true then n else n + 1)))
abbrev Act := Addr → L2.St → Hp → (Hp → Prop) → Prop
def tSetG (w : World) (wi : TI) (g : TG) (tt : TT) (act : Act) (vs : List Nat) : TE := fun σ H Q => wi σ H fun J H1 => ∀ D, H1 D = none →
  ∃ W : Nat → Nat → Hp → Prop, (∃ m, W 0 m (upd H1 D (SetO w D (fun _ => false) 0))) ∧ ∀ i m H, W i m H →
    (J.stop i H ∧ Q (.ref D) H) ∨ (J.go i H ∧ ∃ Nx : Hp → Prop, (∀ H', Nx H' → ∃ m', m' < m ∧ W (i + 1) m' H') ∧
      ∀ x H', J.yld i H x H' → g x (wipe σ vs) H' fun σ2 H2 => wipe σ2 vs = wipe σ vs ∧ tt σ2 H2 fun b H3 => if b = true then act D σ2 H3 Nx else Nx H3)
abbrev freshSet (w : World) : Obj := { cls := .type "set", dict := none, data := .set #[] 0 (.fresh 0 0 (!w.params.followText "set-order")) }
/-- the contexts of a block -/
abbrev Blks (X : Cx) (sc : Scope) (F : Cx → Prop) : Prop := ∀ (s : Shared) (H : Hp) (C : Addr) (cl : List (PySem.Str × Addr)) (fp : List Addr), F (X.blk s H sc (compEnvC sc cl C X.env) fp)
def ActOk (X' : Cx) (em : Value → PySem.Env → Sem PySem.Fin → Sem PySem.Fin) (act : Act) (vs : List Nat) : Prop :=
  ∀ (pins : List (Addr × Obj)) (s : Shared) (σ : L2.St) (H : Hp) (D : Addr) (Nx : Hp → Prop), Inv X' pins σ H s → act D σ H Nx →
    EmOk (model X'.prog X'.w) X'.A (em (.ref D) X'.env) (fun s5 => ∃ σ5 H5, Inv X' pins σ5 H5 s5 ∧ wipe σ5 vs = wipe σ vs ∧ Nx H5) s
theorem set_coreU {pins : List (Addr × Obj)} {s : Shared} {σ : L2.St} {H : Hp} {Q : VK} {elt tg iter : Expr} {ifs : List Expr} {rest : List Comprehension} {sc : Scope} {own : List (PySem.Str × Nat)} {pos pos' : Pos} {use : Option (Value → Sem Unit)} {Qf : Value → Shared → Prop}
    {wi : TI} {g : TG} {tt : TT} {act : Act} {em : Value → PySem.Env → Sem PySem.Fin → Sem PySem.Fin}
    (ct : ∀ it acc env, compTurn (.SetComp elt (⟨tg, iter, ifs, 0⟩ :: rest) sc pos) 0 it acc env = cturn (.SetComp elt (⟨tg, iter, ifs, 0⟩ :: rest) sc pos) 0 iter.pos tg ifs (em acc env) it acc env)
    (hc : X.calm = true) (hN : X.N.Nodup) (I : Inv X pins σ H s) (hi : PI X tg iter wi) (ok : BlkOk X.N X.env.scope sc own)
    (hg : Blks X sc fun X' => PG X' tg g) (ht : Blks X sc fun X' => PTs X' ifs tt) (ha : Blks X sc fun X' => ActOk X' em act (own.map (·.2)))
    (hs : ∀ x, foldedSetIterable iter X.env x = pure x) (h : tSetG X.w wi g tt act (own.map (·.2)) σ H Q)
    (hRR : ∀ D C s' m H', Inv X pins σ H' s' → Q (.ref D) H' → s'.heap.Ns C m → FpOk X pins H' C → compPost (model X.prog X.w) X.A X.xe use Qf (.ref D) C (.ok .next) s') :
    wpAny (model X.prog X.w) X.A (comprehension (.SetComp elt (⟨tg, iter, ifs, 0⟩ :: rest) sc pos) sc X.env pos' (newSet (.type "set")) false (eval iter X.env) use) Qf X.xe s := by
  have hfree : ∀ y ∈ sc.names, y.2 = .free → ∃ c, X.env.cells.lookup y.1 = some c := by
    intro y hy e
    have := ok.free y hy e
    exact I.ok.has _ this
  refine wpAny_comprehension_free (use := use) rfl hs (closure_ok hfree) ok.kind (fun y hy e => by rw [ok.uniq y hy, e]) (thn (hi.run pins s σ H _ I h) fun xv s1 hx => thn hx fun itv s2 h2 => ?_)
  obtain ⟨it, fp, tn, J, H2, rfl, I2, T, st2, f2, q⟩ := h2
  apply PpSet.newSet_ok
  apply newEnv_comp
  generalize hD : s2.heap.objs.size = D
  have hDn : H2 D = none := I2.hok.fresh (Nat.le_of_eq hD)
  obtain ⟨W, ⟨m0, w0⟩, turn⟩ := q D hDn
  have h3 : ∃ s3 : Shared, s3 = { s2 with heap := s2.heap.push (freshSet X.w) } := ⟨_, rfl⟩
  obtain ⟨s3, hs3⟩ := h3
  have hs3' : ({ s2 with heap := s2.heap.push (freshSet X.w) } : Shared) = s3 := hs3.symm
  rw [hs3']
  generalize hH3 : upd H2 D (SetO X.w D (fun _ => false) 0) = H3 at w0
  have hp3 : s3.heap = s2.heap.push (freshSet X.w) := by rw [hs3]
  have I3 : Inv X pins σ H3 s3 := by
    rw [hs3, ← hH3]
    refine I2.laid (t' := s2.toks) (fun b o e => Heap.get?_push_of_some _ e) (Nat.le_of_eq hD) ?_
    rw [← hD]
    exact setO_new (setR_fresh X.w)
  have sz : ∀ b ∈ fp, b < s2.heap.objs.size := by
    intro b hb
    obtain ⟨o, e, _⟩ := T.obj _ _ st2 b hb
    exact Heap.lt_size e
  have f3 : ∀ b ∈ fp, FpOk X pins H3 b ∧ b < s3.heap.objs.size := by
    intro b hb
    have hlt := sz b hb
    refine ⟨⟨?_, (f2 b hb).2⟩, ?_⟩
    · rw [← hH3, upd_ne (by rw [← hD]; exact Nat.ne_of_lt hlt)]
      exact (f2 b hb).1
    · rw [hp3, Heap.size_push]
      exact Nat.lt_succ_of_lt hlt
  have st3 : tn 0 s3.heap := by
    refine T.keep _ _ _ st2 fun b _ o e => ?_
    rw [hp3]
    exact Heap.get?_push_of_some _ e
  have I4 := block_start I3 ok hN f3
  show codeAny (model X.prog X.w) X.A (.compStart (.SetComp elt (⟨tg, iter, ifs, 0⟩ :: rest) sc pos) 0 (.ref it) (.ref D) (compEnvC sc (cellsFrom (s3.heap.objs.size + 1) sc.names (cloFrom X.env.cells sc.names [])) s3.heap.objs.size X.env))
    (compPost (model X.prog X.w) X.A X.xe use Qf (.ref D) s3.heap.objs.size) { s3 with heap := pushCells (s3.heap.push { cls := .type "dict", data := .dict #[] }) sc.names }
  generalize hC : cellsFrom (s3.heap.objs.size + 1) sc.names (cloFrom X.env.cells sc.names []) = cl at I4 ⊢
  have pg := hg s3 H3 s3.heap.objs.size cl fp
  have pt := ht s3 H3 s3.heap.objs.size cl fp
  have pa := ha s3 H3 s3.heap.objs.size cl fp
  generalize hce : compEnvC sc cl s3.heap.objs.size X.env = ce at I4 pg pt pa ⊢
  have cL : ce.locals = s3.heap.objs.size := by rw [← hce]; rfl
  generalize hs4 : ({ s3 with heap := pushCells (s3.heap.push { cls := .type "dict", data := .dict #[] }) sc.names } : Shared) = s4 at I4 ⊢
  have st4 : tn 0 s4.heap := by
    refine T.keep _ _ _ st3 fun b _ o e => ?_
    rw [← hs4]
    exact pushCells_keeps _ _ _ _ (Heap.get?_push_of_some _ e)
  let B := X.blk s3 H3 sc ce fp
  have stat : ∀ {σ' : L2.St} {H' : Hp} {s' : Shared}, Inv B [] σ' H' s' → (∀ b ∈ fp, H' b = none) → ∀ b ∈ fp, FpOk B [] H' b := by
    intro σ' H' s' I' hn b hb
    refine ⟨hn b hb, (I'.ok.exf b hb).1, I'.ok.exfs b hb, .inl hb, fun x c e => (I'.ok.exf b hb).2 x c e, fun p hp => ?_⟩
    exact absurd (show p ∈ ([] : List (Addr × Obj)) ++ [] from hp) (by simp)
  have loop : codeAny (model X.prog X.w) X.A (.compLoop (.SetComp elt (⟨tg, iter, ifs, 0⟩ :: rest) sc pos) 0 (.ref it) (.ref D) ce) (compPost (model X.prog X.w) X.A X.xe use Qf (.ref D) s3.heap.objs.size) s4 := by
    refine cloop (ct _ _ _) (fun n s' => ∃ i H', Inv B [] (wipe σ (own.map (·.2))) H' s' ∧ tn i s'.heap ∧ (∀ b ∈ fp, H' b = none) ∧ W i n H') ?_ m0 ⟨0, H3, I4, st4, fun b hb => (f3 b hb).1.1, w0⟩
    rintro n s5 ⟨i, H5, I5, st5, n5, w5⟩
    rcases turn i n H5 w5 with ⟨stop, qq⟩ | ⟨go, Nx, hNx, step⟩
    · have td := T.done B rfl rfl rfl hc i [] s5 _ H5 (fun _ _ => False) I5 (stat I5 n5) st5 stop
      refine thnF td fun r s6 ⟨hr, I6⟩ => ?_
      subst hr
      have I7 : Inv X pins σ H5 s6 := by
        refine I3.call' (ch := fp) I6.os I6.base I6.hok I6.bare fun b hb => ?_
        have f := (f3 b hb).1
        exact ⟨f.2.2.2.1, f.2.1, f.2.2.2.2.1, f.2.2.2.2.2⟩
      have nC : H5 s3.heap.objs.size = none := by
        rw [← cL]
        exact I6.free
      obtain ⟨m, hn, _⟩ := I6.loc
      have hn : s6.heap.Ns ce.locals m := hn
      rw [cL] at hn
      exact hRR D s3.heap.objs.size s6 m H5 I7 qq hn (I3.fpOk (Nat.le_refl _) nC)
    · have ti := T.item B rfl rfl rfl hc i [] s5 _ H5 (fun _ _ => False) I5 (stat I5 n5) st5 go
      refine thnF ti fun r s6 ⟨u, hr, h6⟩ => ?_
      subst hr
      refine thnF h6 fun _ s7 ⟨x, H7, I7, r7, y7, st7, n7⟩ => ?_
      have I7' := I7.pinned (stat I7 n7) (T.obj _ _ st7)
      refine thnF (pg.run _ s7 _ H7 x u _ I7' r7 (step x H7 y7)) fun _ s8 ⟨σ8, H8, I8, hw8, q8⟩ => ?_
      refine thnF (pt.run _ s8 σ8 H8 _ I8 q8) fun b s9 ⟨H9, I9, q9⟩ => ?_
      have fin : ∀ {s' : Shared} {σ' : L2.St} {H' : Hp}, Inv B ([] ++ pinsAt fp s7.heap) σ' H' s' → wipe σ' (own.map (·.2)) = wipe σ8 (own.map (·.2)) → Nx H' →
          ∃ m, m < n ∧ ∃ i H', Inv B [] (wipe σ (own.map (·.2))) H' s' ∧ tn i s'.heap ∧ (∀ b ∈ fp, H' b = none) ∧ W i m H' := by
        intro s' σ' H' I' hw nx
        obtain ⟨m', hm, w'⟩ := hNx H' nx
        have hw : wipe σ' (own.map (·.2)) = wipe σ (own.map (·.2)) := hw.trans hw8
        have pin' : ∀ b ∈ fp, ∀ o, s7.heap.get? b = some o → s'.heap.get? b = some o ∧ H' b = none := by
          intro b hb o e
          have z := I'.pin (b, o) (List.mem_append_right _ (List.mem_append_right _ (mem_pinsAt hb e)))
          exact ⟨z.1, z.2.1⟩
        have hl : (wipe σ (own.map (·.2))).length = σ'.length := by rw [← hw, wipe_length]
        refine ⟨m', hm, i + 1, H', (I'.unpinned (pins := [])).weak hl (fun j v e => ?_), T.keep _ _ _ st7 fun b hb o e => (pin' b hb o e).1, fun b hb => ?_, w'⟩
        · rw [← hw] at e
          exact (wipe_some e).1
        · obtain ⟨o, e, _⟩ := T.obj _ _ st7 b hb
          exact (pin' b hb o e).2
      cases b with
      | false =>
        simp only [Bool.false_eq_true, if_false] at q9 ⊢
        exact fin I9 rfl q9
      | true =>
        simp only [if_true] at q9 ⊢
        intro k Q' E' hk
        exact pa _ s9 σ8 H9 D Nx I9 q9 k Q' E' fun s' ⟨σ', H', I', hw', nx⟩ => hk s' (fin I' hw' nx)
  exact cstart (g := ⟨tg, iter, ifs, 0⟩) rfl rfl loop (T.self X.A 0 _ _ _ st4 loop)
theorem set_core {pins : List (Addr × Obj)} {s : Shared} {σ : L2.St} {H : Hp} {Q : VK} {elt tg iter : Expr} {ifs : List Expr} {rest : List Comprehension} {sc : Scope} {own : List (PySem.Str × Nat)} {pos : Pos}
    {wi : TI} {g : TG} {tt : TT} {act : Act} {em : Value → PySem.Env → Sem PySem.Fin → Sem PySem.Fin}
    (ct : ∀ it acc env, compTurn (.SetComp elt (⟨tg, iter, ifs, 0⟩ :: rest) sc pos) 0 it acc env = cturn (.SetComp elt (⟨tg, iter, ifs, 0⟩ :: rest) sc pos) 0 iter.pos tg ifs (em acc env) it acc env)
    (hc : X.calm = true) (hN : X.N.Nodup) (I : Inv X pins σ H s) (hi : PI X tg iter wi) (ok : BlkOk X.N X.env.scope sc own)
    (hg : Blks X sc fun X' => PG X' tg g) (ht : Blks X sc fun X' => PTs X' ifs tt) (ha : Blks X sc fun X' => ActOk X' em act (own.map (·.2)))
    (hs : ∀ x, foldedSetIterable iter X.env x = pure x) (h : tSetG X.w wi g tt act (own.map (·.2)) σ H Q) :
    wpAny (model X.prog X.w) X.A (eval (.SetComp elt (⟨tg, iter, ifs, 0⟩ :: rest) sc pos) X.env) (EP X pins σ Q) X.xe s := by
  show wpAny _ _ (comprehension (.SetComp elt (⟨tg, iter, ifs, 0⟩ :: rest) sc pos) sc X.env (firstIterPos (⟨tg, iter, ifs, 0⟩ :: rest) pos) (newSet (.type "set")) false (eval iter X.env) none) _ _ s
  refine set_coreU ct hc hN I hi ok hg ht ha hs h fun D C s' m H' I' q hn f => ⟨m, hn, fun h'' sb => ?_⟩
  obtain ⟨f0, f1, f2, f3, f4, f5⟩ := f
  exact ⟨.ref D, H', I'.turned (t' := s'.toks) (fun b o hb e => (sb.2 b hb).trans e) f0 f1 f3 f4 f5, rfl, q⟩
/-- what goes into the set -/
def actS (w : World) (te : TE) : Act := fun D σ H Nx => te σ H fun y H4 => addTo w D y H4 Nx
def actF (w : World) (wi : TI) (g : TG) (tt : TT) (te : TE) (vs : List Nat) : Act := fun D σ H Nx => wi σ H fun J H1 =>
  ∃ W : Nat → Nat → L2.St → Hp → Prop, (∃ m, W 0 m σ H1) ∧ ∀ i m σ' H', W i m σ' H' →
    (J.stop i H' ∧ wipe σ' vs = wipe σ vs ∧ Nx H') ∨ (J.go i H' ∧ ∃ N : L2.St → Hp → Prop, (∀ σ2 H2, N σ2 H2 → ∃ m', m' < m ∧ W (i + 1) m' σ2 H2) ∧
      ∀ x H2, J.yld i H' x H2 → g x σ' H2 fun σ2 H3 => tt σ2 H3 fun b H4 => if b = true then te σ2 H4 fun y H5 => addTo w D y H5 (N σ2) else N σ2 H4)
theorem add_ok {pins : List (Addr × Obj)} {s : Shared} {σ : L2.St} {H : Hp} {D : Addr} {y : V} {z : Value} {Nx : Hp → Prop} {P : Shared → Prop} (I : Inv X pins σ H s) (r : RelV y z) (h : addTo X.w D y H Nx)
    (hx : X.xe = fun _ _ => False) (hP : ∀ s' H', Inv X pins σ H' s' → Nx H' → P s') : wpAny (model X.prog X.w) X.A (call (.builtin "set.add") [.ref D, z]) (fun _ s' => P s') (fun _ _ => False) s := by
  obtain ⟨k, S, n, rfl, hD, hz, nx⟩ := h
  have q := mt_sadd pins s σ H (.ref D) [.int k] (.ref D) [z] (fun _ H' => Nx H') I rfl (.cons r .nil) ⟨D, k, S, n, rfl, rfl, hD, hz, nx⟩
  rw [hx] at q
  exact thnF q fun _ s' ⟨_, H', I', _, nx'⟩ => hP s' H' I' nx'
theorem act_S {elt : Expr} {te : TE} {sc : Scope} {vs : List Nat} (he : Blks X sc fun X' => PE X' elt te) : Blks X sc fun X' => ActOk X' (emS elt) (actS X.w te) vs := by
  intro s0 H0 C cl fp pins s σ H D Nx I h
  refine emS_ok (thnF ((he s0 H0 C cl fp).run pins s σ H _ I h) fun z s1 ⟨y, H4, I4, r4, q4⟩ => ?_)
  exact add_ok I4 r4 q4 rfl fun s' H' I' nx => ⟨σ, H', I', rfl, nx⟩
theorem act_F {elt t1 i1 t2 i2 : Expr} {f1 f2 : List Expr} {pos : Pos} {wi : TI} {g : TG} {tt : TT} {te : TE} {sc : Scope} {vs : List Nat} (hc : X.calm = true) (hi : Blks X sc fun X' => PI X' t2 i2 wi) (hg : Blks X sc fun X' => PG X' t2 g)
    (ht : Blks X sc fun X' => PTs X' f2 tt) (he : Blks X sc fun X' => PE X' elt te) (hs : Blks X sc fun X' => ∀ x, foldedSetIterable i2 X'.env x = pure x) :
    Blks X sc fun X' => ActOk X' (fun acc env => emF (sc2 elt t1 i1 f1 t2 i2 f2 sc pos) i2 acc env) (actF X.w wi g tt te vs) vs := by
  intro s0 H0 C cl fp pins s σ H D Nx I h
  have pi := hi s0 H0 C cl fp
  have pg := hg s0 H0 C cl fp
  have pt := ht s0 H0 C cl fp
  have pe := he s0 H0 C cl fp
  have ps := hs s0 H0 C cl fp
  have hc' : (X.blk s0 H0 sc (compEnvC sc cl C X.env) fp).calm = true := hc
  have hx : (X.blk s0 H0 sc (compEnvC sc cl C X.env) fp).xe = fun _ _ => False := rfl
  have hw : (X.blk s0 H0 sc (compEnvC sc cl C X.env) fp).w = X.w := rfl
  revert I pi pg pt pe ps hc' hx hw
  generalize X.blk s0 H0 sc (compEnvC sc cl C X.env) fp = B
  intro I pi pg pt pe ps hc' hx hw
  have pir := pi.run pins s σ H _ I h
  rw [hx] at pir
  refine emF_ok ps (thnF pir fun xv s1 hx1 => thnF hx1 fun j s2 h2 => ?_)
  obtain ⟨it, fp2, tn, J, H2, rfl, I2, T, st2, ff, W, ⟨m0, w0⟩, turn⟩ := h2
  intro R hR
  have stat : ∀ {H' : Hp}, (∀ b ∈ fp2, H' b = none) → ∀ b ∈ fp2, FpOk B pins H' b := fun hn b hb => ⟨hn b hb, (ff b hb).2⟩
  have loop : codeAny (model B.prog B.w) B.A (.compLoop (sc2 elt t1 i1 f1 t2 i2 f2 sc pos) 1 (.ref it) (.ref D) B.env) R s2 := by
    refine cloop (ct_in ..) (fun n s' => ∃ i σ' H', Inv B pins σ' H' s' ∧ tn i s'.heap ∧ (∀ b ∈ fp2, H' b = none) ∧ W i n σ' H') ?_ m0 ⟨0, σ, H2, I2, st2, fun b hb => (ff b hb).1, w0⟩
    rintro n s5 ⟨i, σ5, H5, I5, st5, n5, w5⟩
    rcases turn i n σ5 H5 w5 with ⟨stop, hwi, nx⟩ | ⟨go, N, hN, step⟩
    · have td := T.done B rfl rfl rfl hc' i pins s5 σ5 H5 (fun _ _ => False) I5 (stat n5) st5 stop
      refine thnF td fun r s6 ⟨hr, I6⟩ => ?_
      subst hr
      exact hR s6 ⟨σ5, H5, I6, hwi, nx⟩
    · have ti := T.item B rfl rfl rfl hc' i pins s5 σ5 H5 (fun _ _ => False) I5 (stat n5) st5 go
      refine thnF ti fun r s6 ⟨u, hr, h6⟩ => ?_
      subst hr
      refine thnF h6 fun _ s7 ⟨x, H7, I7, r7, y7, st7, n7⟩ => ?_
      have I7' := I7.pinned (stat n7) (T.obj _ _ st7)
      have pgr := pg.run _ s7 σ5 H7 x u _ I7' r7 (step x H7 y7)
      rw [hx] at pgr
      refine thnF pgr fun _ s8 ⟨σ8, H8, I8, q8⟩ => ?_
      have ptr := pt.run _ s8 σ8 H8 _ I8 q8
      rw [hx] at ptr
      refine thnF ptr fun b s9 ⟨H9, I9, q9⟩ => ?_
      have fin : ∀ {s' : Shared} {σ' : L2.St} {H' : Hp}, Inv B (pins ++ pinsAt fp2 s7.heap) σ' H' s' → N σ' H' → ∃ m, m < n ∧ ∃ i σ' H', Inv B pins σ' H' s' ∧ tn i s'.heap ∧ (∀ b ∈ fp2, H' b = none) ∧ W i m σ' H' := by
        intro s' σ' H' I' nx
        obtain ⟨m', hm, w'⟩ := hN σ' H' nx
        have pin' : ∀ b ∈ fp2, ∀ o, s7.heap.get? b = some o → s'.heap.get? b = some o ∧ H' b = none := by
          intro b hb o e
          have z := I'.pin (b, o) (List.mem_append_right _ (List.mem_append_right _ (mem_pinsAt hb e)))
          exact ⟨z.1, z.2.1⟩
        refine ⟨m', hm, i + 1, σ', H', I'.unpinned, T.keep _ _ _ st7 fun b hb o e => (pin' b hb o e).1, fun b hb => ?_, w'⟩
        obtain ⟨o, e, _⟩ := T.obj _ _ st7 b hb
        exact (pin' b hb o e).2
      cases b with
      | false =>
        simp only [Bool.false_eq_true, if_false] at q9 ⊢
        exact fin I9 q9
      | true =>
        simp only [if_true] at q9 ⊢
        have per := pe.run _ s9 σ8 H9 _ I9 q9
        rw [hx] at per
        refine emS_ok (thnF per fun z s10 ⟨y, H10, I10, r10, q10⟩ => ?_)
        rw [← hw] at q10
        exact add_ok I10 r10 q10 hx fun s' H' I' nx => fin I' nx
  exact cstart (g := ⟨t2, i2, f2, 0⟩) rfl rfl loop (T.self B.A 0 _ _ _ st2 loop)
/-- as values -/
theorem pe_set1 {elt tg iter : Expr} {ifs : List Expr} {sc : Scope} {own : List (PySem.Str × Nat)} {pos : Pos} {wi : TI} {g : TG} {tt : TT} {te : TE} (hc : X.calm = true) (hN : X.N.Nodup) (hi : PI X tg iter wi) (ok : BlkOk X.N X.env.scope sc own)
    (hg : Blks X sc fun X' => PG X' tg g) (ht : Blks X sc fun X' => PTs X' ifs tt) (he : Blks X sc fun X' => PE X' elt te) (hs : ∀ x, foldedSetIterable iter X.env x = pure x := by intro _; rfl) :
    PE X (.SetComp elt [⟨tg, iter, ifs, 0⟩] sc pos) (tSetG X.w wi g tt (actS X.w te) (own.map (·.2))) :=
  ⟨fun pins s σ H Q I h => set_core (em := emS elt) (fun it acc env => ct_one ..) hc hN I hi ok hg ht (act_S he) hs h⟩
/-- name = {..} on one line, the name a local -/
theorem sw_trueS {elt : Expr} {gs : List Comprehension} {scope : Scope} {pos py : Pos} {y : PySem.Str} {l : Nat} {env : PySem.Env} (hk : env.scope.kind = .function) (hy : env.scope.names.lookup y = some .local) (hl : (py.line == pos.line) = true)
    (ha : (scope.names.any fun (n, k) => n == y && (k == .local || k == .cell)) = false) : swapsWith (.SetComp elt gs scope pos) (some (.Name y py)) l env = pure true := by
  have ky : env.kindOf y = some .local := hy
  have hb : env.blockKind = .function := by unfold Env.blockKind; rw [hk]; rfl
  unfold swapsWith
  simp only [hb, ky, ha, Expr.pos, hl]
  rfl
theorem ps_setSc {i : Nat} {y : PySem.Str} {py : Pos} {elt tg iter : Expr} {ifs : List Expr} {sc : Scope} {own : List (PySem.Str × Nat)} {pos spos : Pos} {wi : TI} {g : TG} {tt : TT} {te : TE} (hc : X.calm = true) (hN : X.N.Nodup) (hy : X.N[i]? = some y) (hyl : X.env.scope.names.lookup y = some .local)
    (hsw : swapsWith (.SetComp elt [⟨tg, iter, ifs, 0⟩] sc pos) (some (.Name y py)) spos.line X.env = pure true) (hi : PI X tg iter wi) (ok : BlkOk X.N X.env.scope sc own)
    (hg : Blks X sc fun X' => PG X' tg g) (ht : Blks X sc fun X' => PTs X' ifs tt) (he : Blks X sc fun X' => PE X' elt te) (hs : ∀ x, foldedSetIterable iter X.env x = pure x := by intro _; rfl) :
    PS X (.Assign [.Name y py] (.SetComp elt [⟨tg, iter, ifs, 0⟩] sc pos) spos) (tAsg (tSetG X.w wi g tt (actS X.w te) (own.map (·.2))) (gName i)) := by
  refine ⟨fun pins s σ H D I h => ?_⟩
  rw [exec_Assign_Name_used _ _ _ _ hsw]
  refine wpAny_bind (wpAny_standAt (wpAny_bind ?_))
  show wpAny _ X.A (do let _ ← comprehension (.SetComp elt [⟨tg, iter, ifs, 0⟩] sc pos) sc X.env (firstIterPos [⟨tg, iter, ifs, 0⟩] pos) (newSet (.type "set")) false (eval iter X.env) (some (assign (.Name y py) X.env))) _ _ s
  have h : tSetG X.w wi g tt (actS X.w te) (own.map (·.2)) σ H (fun x H1 => gName i x σ H1 D.nx) := h
  refine wpAny_bind (thn (set_coreU (em := emS elt) (Qf := fun _ s' => SP X pins D .next s') (fun it acc env => ct_one ..) hc hN I hi ok hg ht (act_S he) hs h fun L C s' m H' I' q hn f => ?_) fun _ s' hq => wpAny_pure (wpAny_pure hq))
  show wpAny _ _ (assign (.Name y py) X.env (.ref L)) _ _ _
  refine wpAny_assign_Name (store_ok2 (v := V.ref L) I' hN hy (.inl hyl) rfl (fun s2 I2 ⟨a, sb, ha⟩ => ?_) (.inr hyl))
  obtain ⟨f0, f1, f2, f3, f4, f5⟩ := f
  have haC : C ≠ a := by
    rcases ha with z | z
    · rw [z]; exact f1
    · exact fun e => f4 y a z e.symm
  refine ⟨m, hn.sameBut sb haC, fun h3 sb3 => ?_⟩
  exact ⟨_, H', I2.turned (t' := s2.toks) (fun b o hb e => (sb3.2 b hb).trans e) f0 f1 f3 f4 f5, q⟩
theorem pe_set2 {elt t1 i1 t2 i2 : Expr} {f1 f2 : List Expr} {sc : Scope} {own : List (PySem.Str × Nat)} {pos : Pos} {wi wi2 : TI} {g g2 : TG} {tt tt2 : TT} {te : TE} (hc : X.calm = true) (hN : X.N.Nodup) (hi : PI X t1 i1 wi) (ok : BlkOk X.N X.env.scope sc own)
    (hg : Blks X sc fun X' => PG X' t1 g) (ht : Blks X sc fun X' => PTs X' f1 tt) (hi2 : Blks X sc fun X' => PI X' t2 i2 wi2) (hg2 : Blks X sc fun X' => PG X' t2 g2) (ht2 : Blks X sc fun X' => PTs X' f2 tt2) (he : Blks X sc fun X' => PE X' elt te)
    (hs : ∀ x, foldedSetIterable i1 X.env x = pure x := by intro _; rfl) (hs2 : Blks X sc fun X' => ∀ x, foldedSetIterable i2 X'.env x = pure x := by intro _ _ _ _ _ _; rfl) :
    PE X (.SetComp elt [⟨t1, i1, f1, 0⟩, ⟨t2, i2, f2, 0⟩] sc pos) (tSetG X.w wi g tt (actF X.w wi2 g2 tt2 te (own.map (·.2))) (own.map (·.2))) :=
  ⟨fun pins s σ H Q I h => set_core (em := fun acc env => emF (sc2 elt t1 i1 f1 t2 i2 f2 sc pos) i2 acc env) (fun it acc env => ct_out ..) hc hN I hi ok hg ht (act_F hc hi2 hg2 ht2 he hs2) hs h⟩
end
end G4

/-! G18: sorted({..}) of ints: the set is hidden, the list comes out. -/
namespace G4
open PySem PySem.Spec PyProof.Rows L2
/-! ints in order, each once -/
def insS (k : Int) : List Int → List Int
  | [] => [k]
  | x :: l => if k < x then k :: x :: l else if k = x then x :: l else x :: insS k l
theorem mem_insS {k j : Int} : ∀ {l : List Int}, j ∈ insS k l ↔ j = k ∨ j ∈ l
  | [] => by simp [insS]
  | x :: l => by
    unfold insS
    split
    · simp
    · split
      · rename_i h
        subst h
        simp
      · simp only [List.mem_cons, mem_insS]
        constructor
        · rintro (h | h | h)
          · exact .inr (.inl h)
          · exact .inl h
          · exact .inr (.inr h)
        · rintro (h | h | h)
          · exact .inr (.inl h)
          · exact .inl h
          · exact .inr (.inr h)
theorem ins_sorted {k : Int} : ∀ {l : List Int}, l.Pairwise (· < ·) → (insS k l).Pairwise (· < ·)
  | [], _ => by simp [insS]
  | x :: l, h => by
    have h' := List.pairwise_cons.mp h
    unfold insS
    split
    · rename_i hk
      refine List.pairwise_cons.mpr ⟨fun y hy => ?_, h⟩
      rcases List.mem_cons.mp hy with rfl | hy
      · exact hk
      · exact Int.lt_trans hk (h'.1 y hy)
    · split
      · exact h
      · refine List.pairwise_cons.mpr ⟨fun y hy => ?_, ins_sorted h'.2⟩
        rcases mem_insS.mp hy with rfl | hy
        · omega
        · exact h'.1 y hy
theorem ins_len {k : Int} : ∀ {l : List Int}, l.Pairwise (· < ·) → (insS k l).length = if k ∈ l then l.length else l.length + 1
  | [], _ => by simp [insS]
  | x :: l, h => by
    have h' := List.pairwise_cons.mp h
    unfold insS
    split
    · rename_i hk
      rw [if_neg]
      · rfl
      · intro hm
        rcases List.mem_cons.mp hm with rfl | hm
        · omega
        · have := h'.1 k hm
          omega
    · split
      · rename_i hx
        rw [if_pos (by rw [hx]; exact List.mem_cons_self ..)]
      · rename_i h1 h2
        rw [List.length_cons, ins_len h'.2]
        by_cases hm : k ∈ l
        · rw [if_pos hm, if_pos (List.mem_cons_of_mem _ hm)]
          rfl
        · rw [if_neg hm, if_neg (by
            intro z
            rcases List.mem_cons.mp z with z | z
            · exact h2 z
            · exact hm z)]
          rfl
def srt (ys : List Int) : List Int := ys.foldl (fun l k => insS k l) []
theorem srt_snoc (ys : List Int) (k : Int) : srt (ys ++ [k]) = insS k (srt ys) := by simp [srt, List.foldl_append]
theorem srt_gen : ∀ (ys : List Int) (l : List Int), l.Pairwise (· < ·) → (ys.foldl (fun l k => insS k l) l).Pairwise (· < ·) ∧ ∀ k, k ∈ ys.foldl (fun l k => insS k l) l ↔ k ∈ ys ∨ k ∈ l
  | [], l, h => ⟨h, fun k => by simp⟩
  | y :: ys, l, h => by
    obtain ⟨a, b⟩ := srt_gen ys (insS y l) (ins_sorted h)
    refine ⟨a, fun k => (b k).trans ?_⟩
    rw [mem_insS, List.mem_cons]
    constructor
    · rintro (h | h | h)
      · exact .inl (.inr h)
      · exact .inl (.inl h)
      · exact .inr h
    · rintro ((h | h) | h)
      · exact .inr (.inl h)
      · exact .inl h
      · exact .inr (.inr h)
theorem srt_sorted (ys : List Int) : (srt ys).Pairwise (· < ·) := (srt_gen ys [] List.Pairwise.nil).1
theorem mem_srt {ys : List Int} {k : Int} : k ∈ srt ys ↔ k ∈ ys := ((srt_gen ys [] List.Pairwise.nil).2 k).trans (by simp)
theorem sorted_ext : ∀ {l m : List Int}, l.Pairwise (· < ·) → m.Pairwise (· < ·) → (∀ k, k ∈ l ↔ k ∈ m) → l = m
  | [], [], _, _, _ => rfl
  | [], y :: m, _, _, h => by have := (h y).mpr (List.mem_cons_self ..); cases this
  | x :: l, [], _, _, h => by have := (h x).mp (List.mem_cons_self ..); cases this
  | x :: l, y :: m, hl, hm, h => by
    have hl' := List.pairwise_cons.mp hl
    have hm' := List.pairwise_cons.mp hm
    have e : x = y := by
      rcases List.mem_cons.mp ((h x).mp (List.mem_cons_self ..)) with z | z
      · exact z
      · rcases List.mem_cons.mp ((h y).mpr (List.mem_cons_self ..)) with q | q
        · exact q.symm
        · have := hm'.1 x z
          have := hl'.1 y q
          omega
    subst e
    congr 1
    refine sorted_ext hl'.2 hm'.2 fun k => ?_
    constructor
    · intro hk
      rcases List.mem_cons.mp ((h k).mp (List.mem_cons_of_mem _ hk)) with z | z
      · subst z
        have := hl'.1 k hk
        omega
      · exact z
    · intro hk
      rcases List.mem_cons.mp ((h k).mpr (List.mem_cons_of_mem _ hk)) with z | z
      · subst z
        have := hm'.1 k hk
        omega
      · exact z
/-- the set of what was drawn -/
def SI (w : World) (D : Addr) (ys : List Int) : HO := SetO w D (fun j => decide (j ∈ ys)) (srt ys).length
theorem SI_nil (w : World) (D : Addr) : SI w D [] = SetO w D (fun _ => false) 0 := by
  unfold SI
  congr 1
theorem SI_snoc (w : World) (D : Addr) (ys : List Int) (k : Int) : SI w D (ys ++ [k]) = SetO w D (fun j => decide (j ∈ ys) || decide (j = k)) (if decide (k ∈ ys) = true then (srt ys).length else (srt ys).length + 1) := by
  unfold SI
  rw [srt_snoc, ins_len (srt_sorted ys)]
  congr 1
  · funext j
    simp
  · by_cases h : k ∈ ys
    · rw [if_pos (mem_srt.mpr h), if_pos (by simpa using h)]
    · rw [if_neg (fun z => h (mem_srt.mp z)), if_neg (by simpa using h)]
theorem srt_len (ys : List Int) : (srt ys).length ≤ ys.length := by
  have gen : ∀ (ys l : List Int), l.Pairwise (· < ·) → (ys.foldl (fun l k => insS k l) l).length ≤ l.length + ys.length := by
    intro ys
    induction ys with
    | nil => intro l _; simp
    | cons y ys ih =>
      intro l h
      have := ih (insS y l) (ins_sorted h)
      have e := ins_len (k := y) h
      rw [List.foldl_cons, List.length_cons]
      split at e <;> omega
  simpa [srt] using gen ys [] List.Pairwise.nil
/-! what a for of the comprehension draws -/
section
variable {G : Gx} {n0 : Nat} {W : WX} {wd : World}
theorem Vr.mono0 {K : PySem.W.Frag} {w w' : Hw} {ρ : Env} {σ : L2.St} (x : Ex0 w w') (h : Vr K w ρ σ) : Vr K w' ρ σ :=
  ⟨h.len, fun i d e => (h.at_ i d e).elim fun v q => ⟨v, q.1, q.2.mono0 x⟩⟩
theorem Hid.e0 {w : Hw} {p : Addr} {o o' : HO} (h : Hid w p o) : Ex0 w (w.wr p o') :=
  ⟨fun a z => z, fun k a z => z, fun a ha => upd_ne fun z => h.nN (z ▸ ha)⟩
/-- the act draws what the body tells -/
def DAct (G : Gx) (n0 : Nat) (wd : World) (act : Act) (body : Ev (List Int)) : Prop := ∀ (w0 w : Hw) (μ0 : Mu) (ρ : Env) (μ : Mu) (σ : L2.St) (ys js : List Int) (μ' : Mu) (D : Addr) (Nx : Hp → Prop),
  Mc G w0 μ0 → w0.H D = none → Ex w0 w → Mc G w μ → Vr G.K w ρ σ → n0 ≤ μ.length → Hid w D (SI wd D ys) → body ρ μ = some (.ok js μ') → ys.length + js.length ≤ 4000 →
  (∀ w', Ex w0 w' → Ex0 w w' → Mc G w' μ' → Kp n0 μ μ' → Hid w' D (SI wd D (ys ++ js)) → Nx w'.H) → act D σ w.H Nx
def one1 (d : D) (μ : Mu) : Ro (List Int) := match d with
  | .int i => some (.ok [i] μ)
  | _ => none
def body1 (fe : Ev D) : Ev (List Int) := fun ρ μ => (fe ρ μ).bnd one1
theorem add_SI {w0 w : Hw} {μ0 μ : Mu} {D : Addr} {ys : List Int} {i : Int} {Nx : Hp → Prop} (c0 : Mc G w0 μ0) (hp : w0.H D = none) (x0 : Ex w0 w) (c : Mc G w μ) (h : Hid w D (SI wd D ys)) (hl : ys.length + 1 ≤ 4000)
    (fin : ∀ w', Ex w0 w' → Ex0 w w' → Mc G w' μ → Hid w' D (SI wd D (ys ++ [i])) → Nx w'.H) : addTo wd D (.int i) w.H Nx := by
  have hs := srt_len ys
  refine ⟨i, _, _, rfl, h.at_, ?_, ?_⟩
  · show (srt ys).length + 1 < 4096
    omega
  · rw [← SI_snoc]
    obtain ⟨a, b, d, _⟩ := Hid.wr (o' := SI wd D (ys ++ [i])) c0 hp x0 h c
    exact fin _ a h.e0 b d
theorem dact_S {te : TE} {fe : Ev D} (he : DE G n0 W0 te fe) : DAct G n0 wd (actS wd te) (body1 fe) := by
  intro w0 w μ0 ρ μ σ ys js μ' D Nx c0 hp x0 c vr hn h e hl fin
  rcases Ro.bnd_some e with ⟨d, μ1, e1, e2⟩ | ⟨x, μ1, e1, e2⟩
  · unfold one1 at e2
    split at e2 <;> cases e2
    rename_i i
    refine he w ρ μ σ c vr hn _ e1 _ fun w1 v p r => ?_
    have r : v = .int i := r
    subst r
    have hl' : ys.length + 1 ≤ 4000 := by simpa using hl
    exact add_SI c0 hp (x0.trans p.ex) p.mc (h.ex p.ex) hl' fun w' a b d f => fin w' a (p.ex.e0.trans b) d p.kp f
  · cases e2
/-- the inner for -/
def loopI (tg : Tv) (tt : Ev Bool) (fe : Ev D) : List D → Env → Mu → Ro (List Int)
  | [], ρ, μ => some (.ok [] μ)
  | d :: ds, ρ, μ => match tg d ρ μ with
    | some (.ok ρ1 μ1) => match tt ρ1 μ1 with
      | some (.ok true μ2) => match fe ρ1 μ2 with
        | some (.ok (.int i) μ3) => match loopI tg tt fe ds ρ1 μ3 with
          | some (.ok js μ4) => some (.ok (i :: js) μ4)
          | _ => none
        | _ => none
      | some (.ok false μ2) => loopI tg tt fe ds ρ1 μ2
      | _ => none
    | _ => none
def inner1 (tg : Tv) (tt : Ev Bool) (fe : Ev D) (ρ : Env) (s : Src) (μ : Mu) : Ro (List Int) := match s with
  | .its ds => loopI tg tt fe ds ρ μ
  | .cel _ => none
def body2 (fi : Ev Src) (tg : Tv) (tt : Ev Bool) (fe : Ev D) : Ev (List Int) := fun ρ μ => (fi ρ μ).bnd (inner1 tg tt fe ρ)
theorem dact_F {wi : TI} {g : TG} {t : TT} {te : TE} {fi : Ev Src} {tg : Tv} {ft : Ev Bool} {fe : Ev D} {vs : List Nat} (hi : DI G n0 W0 wi fi) (hg : DG G n0 W0 g tg) (ho : Own g vs) (hm : Mono g) (ht : DT G n0 W0 t ft) (he : DE G n0 W0 te fe) :
    DAct G n0 wd (actF wd wi g t te vs) (body2 fi tg ft fe) := by
  intro w0 w μ0 ρ μ σ ys js μ' D Nx c0 hp x0 c vr hn h e hl fin
  obtain ⟨src, μ1, e1, e2⟩ : ∃ src μ1, fi ρ μ = some (.ok src μ1) ∧ inner1 tg ft fe ρ src μ1 = some (.ok js μ') := by
    rcases Ro.bnd_some e with ⟨src, μ1, e1, e2⟩ | ⟨x, μ1, e1, e2⟩
    · exact ⟨src, μ1, e1, e2⟩
    · cases e2
  refine hi w ρ μ σ c vr hn _ e1 _ fun w1 J p1 y => ?_
  unfold inner1 at e2
  split at e2 <;> try cases e2
  rename_i ds
  refine ⟨fun i m σ' H' => ∃ w' ρ' μ2 ys' zs, w'.H = H' ∧ m = (ds.drop i).length ∧ Ex w0 w' ∧ Ex0 w1 w' ∧ Mc G w' μ2 ∧ Kp n0 μ1 μ2 ∧ Hid w' D (SI wd D ys') ∧ Vr G.K w' ρ' σ' ∧ wipe σ' vs = wipe σ vs ∧
    loopI tg ft fe (ds.drop i) ρ' μ2 = some (.ok zs μ') ∧ ys' ++ zs = ys ++ js, ?_, ?_⟩
  · exact ⟨_, w1, ρ, μ1, ys, js, rfl, rfl, x0.trans p1.ex, ⟨fun a z => z, fun k a z => z, fun a z => rfl⟩, p1.mc, .refl _ _, h.ex p1.ex, vr.mono p1.ex, rfl, e2, rfl⟩
  · rintro i m σ' H' ⟨w', ρ', μ2, ys', zs, rfl, rfl, x', xx, c', kp, h', vr', hw, e3, e4⟩
    obtain ⟨y1, y2⟩ := y w' μ2 xx c' ds rfl i
    cases hd : ds[i]? with
    | none =>
      have hle : ds.length ≤ i := by simpa using hd
      rw [List.drop_eq_nil_of_le hle] at e3
      cases e3
      rw [List.append_nil] at e4
      subst e4
      exact .inl ⟨y2 hle, hw, fin w' x' (p1.ex.e0.trans xx) c' (p1.kp.trans kp) h'⟩
    | some d =>
      have hil := (List.getElem?_eq_some_iff.mp hd).1
      have hdr : ds.drop i = d :: ds.drop (i + 1) := by
        rw [List.drop_eq_getElem_cons hil]
        congr 1
        rw [List.getElem?_eq_getElem hil] at hd
        exact Option.some.inj hd
      obtain ⟨go, yl⟩ := y1 d hd
      obtain ⟨N, hN⟩ : ∃ N : L2.St → Hp → Prop, N = fun σ' H' => ∃ w' ρ' μ2 ys' zs, w'.H = H' ∧ (ds.drop (i + 1)).length = (ds.drop (i + 1)).length ∧ Ex w0 w' ∧ Ex0 w1 w' ∧ Mc G w' μ2 ∧ Kp n0 μ1 μ2 ∧ Hid w' D (SI wd D ys') ∧ Vr G.K w' ρ' σ' ∧ wipe σ' vs = wipe σ vs ∧
        loopI tg ft fe (ds.drop (i + 1)) ρ' μ2 = some (.ok zs μ') ∧ ys' ++ zs = ys ++ js := ⟨_, rfl⟩
      refine .inr ⟨go, N, fun σ2 H2 q => ?_, fun x H2 hy => ?_⟩
      · rw [hN] at q
        exact ⟨_, by rw [hdr]; exact Nat.lt_succ_self _, q⟩
      obtain ⟨w2, rfl, x2, c2, fr⟩ := yl x H2 hy
      have hn2 : n0 ≤ μ2.length := Nat.le_trans (p1.nn hn) kp.len
      rw [hdr] at e3
      unfold loopI at e3
      split at e3 <;> try cases e3
      rename_i ρ1 μ3 h1
      refine hm _ _ _ _ _ (fun σ2 H2 q => q.2 q.1) (ho _ _ _ _ (hg w2 ρ' μ2 σ' d x c2 (vr'.mono x2) hn2 fr _ h1 (fun σ2 H3 => wipe σ2 vs = wipe σ' vs → t σ2 H3 fun b H4 => if b = true then te σ2 H4 fun y H5 => addTo wd D y H5 (N σ2) else N σ2 H4) fun w3 σ3 p3 v3 hw3 => ?_))
      have hn3 := p3.nn hn2
      split at e3
      · rename_i μ4 h2
        refine ht w3 ρ1 μ3 σ3 p3.mc v3 hn3 _ h2 _ fun w4 b p4 r4 => ?_
        have r4 : b = true := r4
        subst r4
        rw [if_pos rfl]
        have hn4 := p4.nn hn3
        split at e3 <;> try cases e3
        rename_i k μ5 h3
        split at e3 <;> cases e3
        rename_i zs' h4
        refine he w4 ρ1 μ4 σ3 p4.mc (v3.mono p4.ex) hn4 _ h3 _ fun w5 v5 p5 r5 => ?_
        have r5 : v5 = .int k := r5
        subst r5
        have x25 := (x2.trans p3.ex).trans (p4.ex.trans p5.ex)
        have hlen : ys'.length + 1 ≤ 4000 := by
          have := congrArg List.length e4
          simp at this
          omega
        refine add_SI c0 hp (x'.trans x25) p5.mc (h'.ex x25) hlen fun w6 a b c6 f => ?_
        rw [hN]
        exact ⟨w6, ρ1, μ5, ys' ++ [k], zs', rfl, rfl, a, (xx.trans x25.e0).trans b, c6, ((kp.trans p3.kp).trans p4.kp).trans p5.kp, f, ((v3.mono p4.ex).mono p5.ex).mono0 b, hw3.trans hw, h4, by rw [← e4]; simp⟩
      · rename_i μ4 h2
        refine ht w3 ρ1 μ3 σ3 p3.mc v3 hn3 _ h2 _ fun w4 b p4 r4 => ?_
        have r4 : b = false := r4
        subst r4
        rw [if_neg Bool.false_ne_true]
        have x24 := (x2.trans p3.ex).trans p4.ex
        rw [hN]
        exact ⟨w4, ρ1, μ4, ys', zs, rfl, rfl, x'.trans x24, xx.trans x24.e0, p4.mc, (kp.trans p3.kp).trans p4.kp, h'.ex x24, v3.mono p4.ex, hw3.trans hw, e3, e4⟩
      · cases e3
/-- the outer for -/
def compI (tg : Tv) (tt : Ev Bool) (body : Ev (List Int)) (ρ : Env) : List D → Mu → Ro (List Int)
  | [], μ => some (.ok [] μ)
  | d :: ds, μ => match tg d ρ μ with
    | some (.ok ρ1 μ1) => match tt ρ1 μ1 with
      | some (.ok true μ2) => match body ρ1 μ2 with
        | some (.ok js μ3) => match compI tg tt body ρ ds μ3 with
          | some (.ok ks μ4) => some (.ok (js ++ ks) μ4)
          | _ => none
        | _ => none
      | some (.ok false μ2) => compI tg tt body ρ ds μ2
      | _ => none
    | _ => none
def srtR (r : Ro (List Int)) : Ro D := match r with
  | some (.ok js μ) => if js.length ≤ 4000 ∧ (srt js).length ≤ 60 then some (.ok (.lst ((srt js).map D.int)) μ) else none
  | _ => none
def srt1 (tg : Tv) (tt : Ev Bool) (body : Ev (List Int)) (ρ : Env) (s : Src) (μ : Mu) : Ro D := match s with
  | .its ds => srtR (compI tg tt body ρ ds μ)
  | .cel _ => none
def eSrt (fi : Ev Src) (tg : Tv) (tt : Ev Bool) (body : Ev (List Int)) (vs : List Nat) : Ev D := fun ρ μ => (fi ρ μ).bnd (srt1 tg tt body (wipeE ρ vs))
theorem de_srt {wi : TI} {g : TG} {t : TT} {act : Act} {fi : Ev Src} {tg : Tv} {ft : Ev Bool} {body : Ev (List Int)} {vs : List Nat} (hi : DI G n0 W wi fi) (hg : DG G n0 W0 g tg) (ho : Own g vs) (hm : Mono g) (ht : DT G n0 W0 t ft) (ha : DAct G n0 wd act body) :
    DE G n0 W (tCB (rSortedSet wd) (tCons (tSetG wd wi g t act vs) tNil)) (eSrt fi tg ft body vs) := by
  intro w ρ μ σ c vr hn r e Q fin
  rcases Ro.bnd_some e with ⟨src, μ1, e1, e2⟩ | ⟨x, μ1, e1, e2⟩
  · refine hi w ρ μ σ c vr hn _ e1 _ fun w1 J p1 y => ?_
    intro D hD
    unfold srt1 at e2
    split at e2 <;> try cases e2
    rename_i ds
    unfold srtR at e2
    split at e2 <;> try cases e2
    rename_i all μf h1
    split at e2 <;> rename_i hl <;> cases e2
    refine ⟨fun i m H' => ∃ w' μ2 ys zs, w'.H = H' ∧ m = (ds.drop i).length ∧ Ex w1 w' ∧ Mc G w' μ2 ∧ Kp n0 μ1 μ2 ∧ Hid w' D (SI wd D ys) ∧ compI tg ft body (wipeE ρ vs) (ds.drop i) μ2 = some (.ok zs μf) ∧ ys ++ zs = all, ?_, ?_⟩
    · obtain ⟨a, b, d⟩ := Hid.new (o := SI wd D []) p1.mc hD
      rw [← SI_nil]
      exact ⟨_, w1.wr D (SI wd D []), μ1, [], all, rfl, rfl, a, b, .refl _ _, d, h1, rfl⟩
    · rintro i m H' ⟨w', μ2, ys, zs, rfl, rfl, x', c', kp, h', e3, e4⟩
      obtain ⟨y1, y2⟩ := y w' μ2 x'.e0 c' ds rfl i
      cases hd : ds[i]? with
      | none =>
        have hle : ds.length ≤ i := by simpa using hd
        rw [List.drop_eq_nil_of_le hle] at e3
        cases e3
        rw [List.append_nil] at e4
        subst e4
        refine .inl ⟨y2 hle, D, _, _, rfl, h'.at_, ?_, ?_⟩
        · have := hl.2
          omega
        · intro ns p hs hmem _ hp
          have e : ns = srt ys := sorted_ext hs (srt_sorted ys) fun k => by rw [hmem k, mem_srt]; simp
          subst e
          obtain ⟨a, b, _⟩ := h'.stays hD x' c'
          have hp' : (w'.kill D).H p = none := hp
          refine fin ((w'.kill D).fz p (.lst ((srt ys).map V.int))) (.ref p) ⟨p1.ex.trans (a.trans (.fz b hp')), .fz b hp', p1.kp.trans kp⟩ ?_
          exact fr_lst b hp' (frs_ints (srt ys))
      | some d =>
        have hil := (List.getElem?_eq_some_iff.mp hd).1
        have hdr : ds.drop i = d :: ds.drop (i + 1) := by
          rw [List.drop_eq_getElem_cons hil]
          congr 1
          rw [List.getElem?_eq_getElem hil] at hd
          exact Option.some.inj hd
        obtain ⟨go, yl⟩ := y1 d hd
        obtain ⟨N, hN⟩ : ∃ N : Hp → Prop, N = fun H' => ∃ w' μ2 ys zs, w'.H = H' ∧ (ds.drop (i + 1)).length = (ds.drop (i + 1)).length ∧ Ex w1 w' ∧ Mc G w' μ2 ∧ Kp n0 μ1 μ2 ∧ Hid w' D (SI wd D ys) ∧
          compI tg ft body (wipeE ρ vs) (ds.drop (i + 1)) μ2 = some (.ok zs μf) ∧ ys ++ zs = all := ⟨_, rfl⟩
        refine .inr ⟨go, N, fun H2 q => ?_, fun x H2 hy => ?_⟩
        · rw [hN] at q
          exact ⟨_, by rw [hdr]; exact Nat.lt_succ_self _, q⟩
        obtain ⟨w2, rfl, x2, c2, fr⟩ := yl x H2 hy
        have hn2 : n0 ≤ μ2.length := Nat.le_trans (p1.nn hn) kp.len
        rw [hdr] at e3
        unfold compI at e3
        split at e3 <;> try cases e3
        rename_i ρ1 μ3 h2
        have vr2 : Vr G.K w2 (wipeE ρ vs) (wipe σ vs) := (vr.mono (p1.ex.trans (x'.trans x2))).wipe vs
        refine hm _ _ _ _ _ (fun σ2 H2 q => ⟨q.1.trans (wipe_wipe σ vs), q.2⟩) (ho _ _ _ _ (hg w2 (wipeE ρ vs) μ2 (wipe σ vs) d x c2 vr2 hn2 fr _ h2 (fun σ2 H3 => t σ2 H3 fun b H4 => if b = true then act D σ2 H4 N else N H4) fun w3 σ3 p3 v3 => ?_))
        have hn3 := p3.nn hn2
        split at e3
        · rename_i μ4 h3
          refine ht w3 ρ1 μ3 σ3 p3.mc v3 hn3 _ h3 _ fun w4 b p4 r4 => ?_
          have r4 : b = true := r4
          subst r4
          rw [if_pos rfl]
          have hn4 := p4.nn hn3
          split at e3 <;> try cases e3
          rename_i js μ5 h4
          split at e3 <;> cases e3
          rename_i ks h5
          have x24 := (x2.trans p3.ex).trans p4.ex
          have hlen : ys.length + js.length ≤ 4000 := by
            have := congrArg List.length e4
            simp at this
            omega
          refine ha w1 w4 μ1 ρ1 μ4 σ3 ys js μ5 D N p1.mc hD (x'.trans x24) p4.mc (v3.mono p4.ex) hn4 (h'.ex x24) h4 hlen fun w5 a b c5 k5 f => ?_
          rw [hN]
          exact ⟨w5, μ5, ys ++ js, ks, rfl, rfl, a, c5, ((kp.trans p3.kp).trans p4.kp).trans k5, f, h5, by rw [← e4]; simp⟩
        · rename_i μ4 h3
          refine ht w3 ρ1 μ3 σ3 p3.mc v3 hn3 _ h3 _ fun w4 b p4 r4 => ?_
          have r4 : b = false := r4
          subst r4
          rw [if_neg Bool.false_ne_true]
          have x24 := (x2.trans p3.ex).trans p4.ex
          rw [hN]
          exact ⟨w4, μ4, ys, zs, rfl, rfl, x'.trans x24, p4.mc, (kp.trans p3.kp).trans p4.kp, h'.ex x24, e3, e4⟩
        · cases e3
  · subst e2
    exact hi w ρ μ σ c vr hn _ e1 _ fun w1 cls dx p x => fin w1 cls dx p x
end
end G4

/-! G19: sorted(set(t)) of a tuple of ints. -/
namespace G4
open PySem PySem.Spec PyProof.Rows L2
section
variable {X : Cx}
def rSetT (K : PySem.W.Frag) (w : World) : List V → Hp → VK → Prop := fun vs H Q => ∃ (p : Addr) (ns : List Int), vs = [.ref p] ∧ SqT K H p (ns.map V.int) ∧ ns.length ≤ 1000 ∧
  ∀ (q : Addr) (c : Nat), H q = none → c ≤ ns.length → Q (.ref q) (upd H q (SetO w q (fun j => decide (j ∈ ns)) c))
theorem cr_setT (hc : X.calm = true) : CallR X (.type "set") (rSetT X.K X.w) := by
  intro pins s σ H vs us Q I r h
  obtain ⟨p, ns, rfl, hq, hl, q⟩ := h
  rw [Vals.ref1 r]
  obtain ⟨its, rv, pt, hz⟩ := I.tuple hq
  refine call_set_tupI ns (I.ok.hd hc) (show s.heap.IsTuple p its.toArray from pt) (by simpa using intsAre_of rv) (by unfold scanBound; omega) fun h' tk c R hcn k => ?_
  exact ⟨.ref _, _, I.laid (t' := tk) k (Nat.le_refl _) (setO_new R), rfl, q _ c (I.hok.fresh (Nat.le_refl _)) hcn⟩
end
section
variable {G : Gx} {n0 : Nat} {W : WX} {wd : World}
def intsD : List D → Option (List Int)
  | [] => some []
  | .int i :: ds => (intsD ds).map (i :: ·)
  | _ => none
theorem intsD_map : ∀ (ns : List Int), intsD (ns.map D.int) = some ns
  | [] => rfl
  | n :: ns => by
    show (intsD (ns.map D.int)).map (n :: ·) = _
    rw [intsD_map ns]
    rfl
theorem intsD_rel {K : PySem.W.Frag} {w : Hw} : ∀ {ds : List D} {vs : List V} {ns : List Int}, intsD ds = some ns → Frs K w ds vs → vs = ns.map V.int
  | [], vs, ns, e, r => by
    cases e
    exact r
  | d :: ds, vs, ns, e, ⟨v, r, e1, h, t⟩ => by
    cases d with
    | int i =>
      have e : (intsD ds).map (i :: ·) = some ns := e
      cases hd : intsD ds with
      | none => rw [hd] at e; cases e
      | some ms =>
        rw [hd] at e
        cases e
        have h : v = .int i := h
        subst e1 h
        rw [intsD_rel hd t]
        rfl
    | _ => cases e
def srtT (d : D) (μ : Mu) : Ro D := match d with
  | .tup ds => match intsD ds with
    | some ns => if ns.length ≤ 60 then some (.ok (.lst ((srt ns).map D.int)) μ) else none
    | none => none
  | _ => none
def eSrtT (f : Ev D) : Ev D := fun ρ μ => (f ρ μ).bnd srtT
theorem de_srtT {t : TE} {f : Ev D} (h : DE G n0 W t f) : DE G n0 W (tCB (rSortedSet wd) (tCons (tCB (rSetT G.K wd) (tCons t tNil)) tNil)) (eSrtT f) := fun w ρ μ σ c vr hn =>
  (h w ρ μ σ c vr hn).bnd (uu := fun x H1 (Q : VK) => rSetT G.K wd [x] H1 fun v H2 => rSortedSet wd [v] H2 Q) fun w1 μ1 d x p1 r1 => by
    intro q e Q fin
    unfold srtT at e
    split at e <;> try cases e
    rename_i ds
    split at e <;> try cases e
    rename_i ns hns
    split at e <;> rename_i hl <;> cases e
    obtain ⟨a, vs, rfl, n, hH, rs⟩ := r1
    have ev := intsD_rel hns rs
    subst ev
    refine ⟨a, ns, rfl, .of hH, by omega, fun q c hq hc => ⟨q, _, c, rfl, upd_same, by omega, fun ns' p hs hm _ hp => ?_⟩⟩
    have e : ns' = srt ns := sorted_ext hs (srt_sorted ns) fun k => by rw [hm k, mem_srt]; simp
    subst e
    obtain ⟨x1, c1, h1⟩ := Hid.new (o := SetO wd q (fun j => decide (j ∈ ns)) c) p1.mc hq
    obtain ⟨a2, b2, _⟩ := h1.stays hq x1 c1
    have hp' : ((w1.wr q (SetO wd q (fun j => decide (j ∈ ns)) c)).kill q).H p = none := hp
    refine fin (((w1.wr q (SetO wd q (fun j => decide (j ∈ ns)) c)).kill q).fz p (.lst ((srt ns).map V.int))) (.ref p) ⟨a2.trans (.fz b2 hp'), .fz b2 hp', .refl _ _⟩ ?_
    exact fr_lst b2 hp' (frs_ints (srt ns))
@[simp] theorem eSrtT_ap {ρ : Env} {μ : Mu} (f : Ev D) : eSrtT f ρ μ = Ro.bnd (f ρ μ) srtT := rfl
theorem srtT_ok {μ : Mu} {ns : List Int} (h : ns.length ≤ 60) : srtT (.tup (ns.map D.int)) μ = some (.ok (.lst ((srt ns).map D.int)) μ) := by
  unfold srtT
  simp only [intsD_map]
  rw [if_pos h]
end
end G4

/-! G20: generator expressions: the turns, as segments. -/
namespace G4
open PySem PySem.Spec PyProof.Rows L2
section
variable {prog : Program} {w : World} {A : Around} {s : Shared}
/-- an item is handed out -/
def emY (elt : Expr) (env : PySem.Env) (k : Sem PySem.Fin) : Sem PySem.Fin :=
  (do let v ← eval elt env; standAt elt.pos; let _ ← yieldOut env v) >>= fun _ => k
/-- the next for runs -/
def emG (e i2 : Expr) (d : Nat) (acc : Value) (env : PySem.Env) (k : Sem PySem.Fin) : Sem PySem.Fin := do
  let x ← eval i2 env
  standAt i2.pos
  let x ← foldedSetIterable i2 env x
  let j ← holding [x] (pyIter x)
  let _ ← runOwn (.compStart e d j acc env) env
  k
abbrev ge (elt : Expr) (gens : List Comprehension) (sc : Scope) (pos : Pos) : Expr := .GeneratorExp elt gens sc pos
abbrev cl0 (t i : Expr) (f : List Expr) : Comprehension := ⟨t, i, f, 0⟩
theorem gt1 (elt t1 i1 : Expr) (f1 : List Expr) (sc : Scope) (pos : Pos) (it acc : Value) (env : PySem.Env) :
    compTurn (ge elt [cl0 t1 i1 f1] sc pos) 0 it acc env = cturn (ge elt [cl0 t1 i1 f1] sc pos) 0 i1.pos t1 f1 (emY elt env) it acc env := by rfl
theorem gt2a (elt t1 i1 t2 i2 : Expr) (f1 f2 : List Expr) (sc : Scope) (pos : Pos) (it acc : Value) (env : PySem.Env) :
    compTurn (ge elt [cl0 t1 i1 f1, cl0 t2 i2 f2] sc pos) 0 it acc env = cturn (ge elt [cl0 t1 i1 f1, cl0 t2 i2 f2] sc pos) 0 i1.pos t1 f1 (emG (ge elt [cl0 t1 i1 f1, cl0 t2 i2 f2] sc pos) i2 1 acc env) it acc env := by rfl
theorem gt2b (elt t1 i1 t2 i2 : Expr) (f1 f2 : List Expr) (sc : Scope) (pos : Pos) (it acc : Value) (env : PySem.Env) :
    compTurn (ge elt [cl0 t1 i1 f1, cl0 t2 i2 f2] sc pos) 1 it acc env = cturn (ge elt [cl0 t1 i1 f1, cl0 t2 i2 f2] sc pos) 1 i2.pos t2 f2 (emY elt env) it acc env := by rfl
theorem gt3a (elt t1 i1 t2 i2 t3 i3 : Expr) (f1 f2 f3 : List Expr) (sc : Scope) (pos : Pos) (it acc : Value) (env : PySem.Env) :
    compTurn (ge elt [cl0 t1 i1 f1, cl0 t2 i2 f2, cl0 t3 i3 f3] sc pos) 0 it acc env = cturn (ge elt [cl0 t1 i1 f1, cl0 t2 i2 f2, cl0 t3 i3 f3] sc pos) 0 i1.pos t1 f1 (emG (ge elt [cl0 t1 i1 f1, cl0 t2 i2 f2, cl0 t3 i3 f3] sc pos) i2 1 acc env) it acc env := by rfl
theorem gt3b (elt t1 i1 t2 i2 t3 i3 : Expr) (f1 f2 f3 : List Expr) (sc : Scope) (pos : Pos) (it acc : Value) (env : PySem.Env) :
    compTurn (ge elt [cl0 t1 i1 f1, cl0 t2 i2 f2, cl0 t3 i3 f3] sc pos) 1 it acc env = cturn (ge elt [cl0 t1 i1 f1, cl0 t2 i2 f2, cl0 t3 i3 f3] sc pos) 1 i2.pos t2 f2 (emG (ge elt [cl0 t1 i1 f1, cl0 t2 i2 f2, cl0 t3 i3 f3] sc pos) i3 2 acc env) it acc env := by rfl
theorem gt3c (elt t1 i1 t2 i2 t3 i3 : Expr) (f1 f2 f3 : List Expr) (sc : Scope) (pos : Pos) (it acc : Value) (env : PySem.Env) :
    compTurn (ge elt [cl0 t1 i1 f1, cl0 t2 i2 f2, cl0 t3 i3 f3] sc pos) 2 it acc env = cturn (ge elt [cl0 t1 i1 f1, cl0 t2 i2 f2, cl0 t3 i3 f3] sc pos) 2 i3.pos t3 f3 (emY elt env) it acc env := by rfl

section
variable {R : GenEnd} {Y : Protocol} {c : Code} {fr : List Frame} {gd : Bool → Bool} {lv : List Value → List Value}
/-- what is done with an item, in the generator's code: behind it P, at a budget of items -/
def SegEm (M : Model) (A : Around) (R : GenEnd) (Y : Protocol) (c : Code) (fr : List Frame) (em : Sem PySem.Fin → Sem PySem.Fin) (P : Nat → Shared → Prop) (n : Nat) (s : Shared) : Prop :=
  ∀ (k : Sem PySem.Fin) (K : PySem.Fin → Sem PySem.Fin) (J : Value → Sem PySem.Fin) (s₀ : Shared), (∀ n' s₀' s', P n' s' → Seg M A R Y n' s₀' c (k.wrap K J id id) fr s') → Seg M A R Y n s₀ c ((em k).wrap K J id id) fr s
theorem seg_cloop {e : Expr} {d : Nat} {it acc : Value} {env : PySem.Env} {p : Pos} {tg : Expr} {fs : List Expr} {em : Sem PySem.Fin → Sem PySem.Fin} {hx : Value → Sem Unit}
    (hden : (model prog w).den (.compLoop e d it acc env) = (cturn e d p tg fs em it acc env).onRaise hx) (hq : (Code.compLoop e d it acc env).quiet = true)
    (I : Nat → Nat → Shared → Prop) (Done : Nat → Shared → Prop)
    (turn : ∀ m n s, I m n s → wpAny (model prog w) (A.over (.compLoop e d it acc env) fr) (pyNext it) (fun r s1 => match r with
      | none => Done n s1
      | some v => wpAny (model prog w) (A.over (.compLoop e d it acc env) fr) (letOwnedTupleGo tg it v) (fun _ s2 => wpAny (model prog w) (A.over (.compLoop e d it acc env) fr) (assign tg env v) (fun _ s3 =>
          wpAny (model prog w) (A.over (.compLoop e d it acc env) fr) (forIn fs true fun c r => if r = true then do let ok ← isTrue c env (eval c env); pure (ForInStep.yield ok) else pure (ForInStep.yield r))
            (fun ok s4 => if ok = true then SegEm (model prog w) A R Y (.compLoop e d it acc env) fr em (fun n' s5 => ∃ m', m' < m ∧ I m' n' s5) n s4 else ∃ m', m' < m ∧ I m' n s4)
            (fun _ _ => False) s3) (fun _ _ => False) s2) (fun _ _ => False) s1) (fun _ _ => False) s)
    (done : ∀ n s₀ s, Done n s → Seg (model prog w) A R Y n s₀ (.compLoop e d it acc env) (leafOf (.ok .next)) fr s) :
    ∀ (m n : Nat) (s₀ s : Shared), I m n s → Seg (model prog w) A R Y n s₀ (.compLoop e d it acc env) ((model prog w).den (.compLoop e d it acc env)) fr s := by
  intro m
  induction m using Nat.strongRecOn with
  | ind m ih =>
    intro n s₀ s hI
    rw [hden, Sem.onRaise_eq_wrap]
    unfold cturn
    refine seg_bind_wrap (wpAny_standAt (seg_bind_wrap (wpAny_mono (turn m n s hI) (fun r s1 h1 => ?_) fun _ _ x => x.elim)))
    cases r with
    | none => exact done n s₀ s1 h1
    | some v =>
      refine seg_bind_wrap (wpAny_mono h1 (fun _ s2 h2 => ?_) fun _ _ x => x.elim)
      refine seg_bind_wrap (wpAny_mono h2 (fun _ s3 h3 => ?_) fun _ _ x => x.elim)
      refine seg_bind_wrap (wpAny_mono h3 (fun ok s4 h4 => ?_) fun _ _ x => x.elim)
      cases ok with
      | false =>
        obtain ⟨m', hm, h5⟩ := (show ∃ m', m' < m ∧ I m' n s4 from h4)
        exact seg_again hq (ih m' hm n s₀ s4 h5)
      | true =>
        have h4 : SegEm (model prog w) A R Y (.compLoop e d it acc env) fr em (fun n' s5 => ∃ m', m' < m ∧ I m' n' s5) n s4 := h4
        refine h4 _ _ _ s₀ fun n' s₀' s5 h5 => ?_
        obtain ⟨m', hm, h5⟩ := h5
        exact seg_again hq (ih m' hm n' s₀' s5 h5)
theorem seg_cstart {elt : Expr} {gens : List Comprehension} {g : Comprehension} {sc : Scope} {pos : Pos} {d n : Nat} {it acc : Value} {env : PySem.Env} {hx : Value → Sem Unit} {s₀ s : Shared} (hg : gens[d]? = some g) (ha : g.is_async = 0)
    (hden : (model prog w).den (.compStart (ge elt gens sc pos) d it acc env) = (compStart (ge elt gens sc pos) d it acc env).onRaise hx) (hq : (Code.compLoop (ge elt gens sc pos) d it acc env).quiet = true)
    (self : ∀ (A' : Around) (Q : Value → Shared → Prop) (E : Value → Shared → Prop), Q it s → wpAny (model prog w) A' (pyIter it) Q E s)
    (loop : Seg (model prog w) A R Y n s₀ (.compLoop (ge elt gens sc pos) d it acc env) ((model prog w).den (.compLoop (ge elt gens sc pos) d it acc env)) fr s) :
    Seg (model prog w) A R Y n s₀ (.compStart (ge elt gens sc pos) d it acc env) ((model prog w).den (.compStart (ge elt gens sc pos) d it acc env)) fr s := by
  rw [hden, Sem.onRaise_eq_wrap]
  unfold compStart
  have e : ((clausesOf (ge elt gens sc pos))[d]?).elim false (fun c => c.is_async != 0) = false := by
    show (gens[d]?).elim false _ = false
    rw [hg]
    show (g.is_async != 0) = false
    rw [ha]
    rfl
  rw [e]
  show Seg _ A _ _ _ s₀ _ ((ask >>= _).wrap _ _ _ _) fr s
  refine seg_bind_wrap (wpAny_askSetting ?_)
  split
  · exact seg_again hq loop
  · have hc : (clausesOf (ge elt gens sc pos))[d]? = some g := hg
    rw [hc]
    refine seg_bind_wrap (wpAny_rule ?_)
    show Seg _ A _ _ _ s₀ _ ((standAt g.iter.pos >>= _).wrap _ _ _ _) fr s
    exact seg_bind_wrap (wpAny_standAt (seg_bind_wrap (self _ _ _ (seg_again hq loop))))
/-- the next for -/
theorem segEm_G {e i2 : Expr} {d n : Nat} {acc : Value} {env : PySem.Env} {P : Nat → Shared → Prop} (hs : ∀ x, foldedSetIterable i2 env x = pure x)
    (h : wpAny (model prog w) (A.over c fr) (eval i2 env) (fun x s1 => wpAny (model prog w) (A.over c fr) (pyIter x) (fun j s2 => ∀ (k' : Result → Sem PySem.Fin) (p : Pos) (s₀ : Shared),
        (∀ n' s₀' s', P n' s' → Seg (model prog w) A R Y n' s₀' c (k' (.ok .next)) fr s') → Seg (model prog w) A R Y n s₀ (.compStart e d j acc env) ((model prog w).den (.compStart e d j acc env)) (.ret k' none false [] c p [] :: fr) s2)
      (fun _ _ => False) s1) (fun _ _ => False) s) : SegEm (model prog w) A R Y c fr (emG e i2 d acc env) P n s := by
  intro k K J s₀ hk
  unfold emG
  refine seg_bind_wrap (wpAny_mono h (fun x s1 h1 => ?_) fun _ _ x => x.elim)
  refine seg_bind_wrap (wpAny_standAt (seg_bind_wrap (wpAny_of_eq (hs x) ?_)))
  refine seg_bind_wrap (wpAny_holding (wpAny_mono h1 (fun j s2 h2 => ?_) fun _ _ x => x.elim))
  refine seg_call fun p => ?_
  exact h2 _ p s₀ fun n' s₀' s' hP => hk n' s₀' s' hP
theorem segEm_Y {elt : Expr} {env : PySem.Env} {P : Nat → Shared → Prop} {n : Nat} (hco : env.scope.isCoroutine = false) (hfs : splitAtGen fr = none) (hfg : fr.any Frame.guarded = false)
    (h : wpAny (model prog w) (A.over c fr) (eval elt env) (fun y s1 => ∃ n', n = n' + 1 ∧ ∀ s₀, ∀ kap, (∀ s'', P n' s'' → kap (.send .none) s'') → Y n' s₀ y s1 kap) (fun _ _ => False) s) : SegEm (model prog w) A R Y c fr (emY elt env) P n s := by
  intro k K J s₀ hk
  unfold emY
  have hy : ∀ v, yieldOut env v = yieldValue v := fun v => by simp only [yieldOut, hco, Bool.false_eq_true, if_false]
  simp only [hy]
  rw [Sem.bind_eq_wrap', Sem.wrap_wrap]
  refine seg_bind_wrap (wpAny_mono h (fun y s1 h1 => ?_) fun _ _ x => x.elim)
  obtain ⟨n', rfl, h1⟩ := h1
  refine seg_at (seg_yield hfs rfl hfg ?_)
  exact h1 s₀ _ fun s'' hP => hk n' s'' s'' hP
end
end
end G4

/-! G21: the context of a generator's code; how a generator is made. -/
namespace G4
open PySem PySem.Spec PyProof.Rows L2
section
variable {M : Model} {A : Around} {E : Value → Shared → Prop} {s : Shared}
abbrev frameObj : Obj := { cls := .type "frame", data := .dict #[] }
theorem newEnv_gen {scope : Scope} {globals : Addr} {closure : List (Str × Addr)} {it : Value} {qual : Str} {code : Value} {builtins : Addr} {Q : PySem.Env → Shared → Prop} (hk : scope.kind = .function) (h0 : scope.names.lookup (".0" : Str) = some NameKind.local)
    (h : ∀ h' tk, h'.Ns s.heap.objs.size (fun y => if y = ".0" then some it else none) → (∀ b o, b ≠ s.heap.objs.size → (pushCells (s.heap.push frameObj) scope.names).get? b = some o → h'.get? b = some o) →
      Q (newEnv scope s.heap.objs.size globals (cellsFrom (s.heap.objs.size + 1) scope.names closure) qual none code none builtins) { s with heap := h', toks := tk }) :
    wpAny M A (newFunctionEnv scope globals closure [(".0", it)] qual none code none builtins) Q E s := by
  simp only [newFunctionEnv, Option.isSome_none, Bool.false_eq_true, if_false]
  refine wpAny_bind (wpAny_alloc ?_)
  refine wpAny_bind (wpAny_layCells _ (fun name kind cells => by cases hkc : kind == NameKind.cell <;> simp [hkc]) _ _ _ _ ?_)
  rw [show ({ s with heap := s.heap.push { cls := .type "frame", data := .dict #[] } } : Shared).heap.objs.size = s.heap.objs.size + 1 from Heap.size_push ..]
  simp only [List.forIn_cons, List.forIn_nil]
  refine wpAny_bind (wpAny_bind (wpAny_bind (wpAny_storeName_local (m := fun _ => none) ?_ ((Heap.Ns.new s.heap (.type "frame")).keeps (pushCells_keeps _ _)) (fun h' hn hs => ?_) ?_)))
  · exact h0
  · refine wpAny_pure (wpAny_pure (wpAny_pure ?_))
    exact h h' _ hn fun b o hb e => hs.extBut b o hb e
  · show (scope.kind == .class || _) = false
    rw [hk]
    rfl
end
abbrev Cx.gen (X : Cx) (s : Shared) (H : Hp) (scope : Scope) (cenv : PySem.Env) (fp : List Addr) : Cx :=
  { X with A := (X.A.in1.in1).deeper cenv, s_0 := s, H_0 := H, env := cenv, outer := X.stack, stack := cenv :: X.stack, ex := fp, fn := fun x => scope.names.lookup x == some .cell, pn := [], xe := fun _ _ => False }
section
variable {X : Cx} {pins : List (Addr × Obj)} {σ : L2.St} {H : Hp} {s : Shared}
theorem gen_start {scope : Scope} {own : List (Str × Nat)} {fp : List Addr} {h' : Heap} {m0 : Str → Option Value} {gs : Array GenState} {tk : Nat} {code : Value} (I : Inv X pins σ H s) (ok : BlkOk X.N X.env.scope scope own) (hN : X.N.Nodup)
    (hfp : ∀ b ∈ fp, FpOk X pins H b ∧ b < s.heap.objs.size) (hn : h'.Ns s.heap.objs.size m0) (hk : ∀ b o, b ≠ s.heap.objs.size → (pushCells (s.heap.push frameObj) scope.names).get? b = some o → h'.get? b = some o) (hg : AllBare gs) :
    Inv (Cx.gen X s H scope (genEnv scope (cellsFrom (s.heap.objs.size + 1) scope.names (cloFrom X.env.cells scope.names [])) s.heap.objs.size code builtinsNs X.env) fp) [] (wipe σ (own.map (·.2))) H { s with heap := h', toks := tk, gens := gs } := by
  have hfree : ∀ y ∈ scope.names, y.2 = .free → ∃ c, X.env.cells.lookup y.1 = some c := fun y hy e => by
    rcases ok.free y hy e with k | k
    · exact I.ok.has _ (.inl k)
    · exact I.ok.has _ (.inr k)
  generalize hcenv : genEnv scope (cellsFrom (s.heap.objs.size + 1) scope.names (cloFrom X.env.cells scope.names [])) s.heap.objs.size code builtinsNs X.env = cenv
  have kp0 : ∀ b o, s.heap.get? b = some o → (pushCells (s.heap.push frameObj) scope.names).get? b = some o := fun b o e => pushCells_keeps _ _ _ _ (Heap.get?_push_of_some _ e)
  have kp : ∀ b o, s.heap.get? b = some o → h'.get? b = some o := fun b o e => hk b o (Nat.ne_of_lt (Heap.lt_size e)) (kp0 b o e)
  have hL : cenv.locals = s.heap.objs.size := by rw [← hcenv]; rfl
  have hfr : cenv.frame = some cenv.locals := by rw [← hcenv]; rfl
  have hcl : cenv.cells = cellsFrom (s.heap.objs.size + 1) scope.names (cloFrom X.env.cells scope.names []) := by rw [← hcenv]; rfl
  have hsc : cenv.scope = scope := by rw [← hcenv]; rfl
  rw [← Heap.size_push s.heap frameObj] at hcl
  have cm : ∀ {y c}, (y, c) ∈ cloFrom X.env.cells scope.names [] → X.env.cells.lookup y = some c ∧ c < s.heap.objs.size := fun {y c} hm => by
    rcases cloFrom_mem hm with hm | ⟨h1, rfl⟩
    · cases hm
    · obtain ⟨c, hc⟩ := hfree _ h1 rfl
      rw [hc]
      obtain ⟨w, z⟩ := I.cell _ _ hc
      exact ⟨rfl, z.lt⟩
  have mem : ∀ {y c}, cenv.cells.lookup y = some c → (X.env.cells.lookup y = some c ∧ c < s.heap.objs.size) ∨ (s.heap.objs.size + 1 ≤ c ∧ h'.IsCell c none) := fun {y c} e => by
    rw [hcl] at e
    rcases cells_mem (PySem.mem_of_lookup e) with hm | ⟨_, h2, h3⟩
    · exact .inl (cm hm)
    · rw [Heap.size_push] at h2
      obtain ⟨o, ho, r⟩ := h3
      exact .inr ⟨h2, o, hk _ _ (by omega) ho, r⟩
  have look : ∀ {y}, scope.names.lookup y = some .free → ∃ c, cenv.cells.lookup y = some c ∧ X.env.cells.lookup y = some c := fun {y} hl => by
    have hy : (y, NameKind.free) ∈ scope.names := PySem.mem_of_lookup hl
    obtain ⟨c', e'⟩ := mem_lookup (cells_acc (names := scope.names) (n := (s.heap.push frameObj).objs.size) (cloFrom_has (cells := X.env.cells) (acc := []) hy))
    rw [← hcl] at e'
    refine ⟨c', e', ?_⟩
    rw [hcl] at e'
    rcases cells_mem (PySem.mem_of_lookup e') with hm | ⟨h1, _, _⟩
    · exact (cm hm).1
    · have := ok.uniq _ h1
      rw [hl] at this; cases this
  have okB : (Cx.gen X s H scope cenv fp).Ok := by
    refine ⟨I.ok.mod, by show cenv.scope.kind = _; rw [hsc]; exact ok.kind, by show cenv.globals = _; rw [← hcenv]; exact I.ok.glob, by show cenv.builtins = _; rw [← hcenv]; rfl, by show s.heap.objs.size ≤ cenv.locals; rw [hL]; exact Nat.le_refl _,
      fun y z c e1 e2 => ?_, fun y hy => ?_, fun y c z e => ?_, I.ok.hd, ?_, .inr ⟨rfl, hfr⟩, fun b hb => ⟨?_, fun y c e z => ?_⟩, I.bs, Nat.le_trans I.ok.bsz I.sz, fun b o e hb => ?_, fun b hb z => ?_, I.stack, I.stkFree⟩
    · have e1 : cenv.cells.lookup y = some c := e1
      have e2 : cenv.cells.lookup z = some c := e2
      rw [hcl] at e1 e2
      refine cells_inj (fun p hp => ?_) (fun y z c a b => I.ok.inj y z c (cm a).1 (cm b).1) (PySem.mem_of_lookup e1) (PySem.mem_of_lookup e2)
      rw [Heap.size_push]
      exact Nat.lt_succ_of_lt (cm (y := p.1) (c := p.2) hp).2
    · show ∃ c, cenv.cells.lookup y = some c
      have key : ∀ k, cenv.kindOf y = some k → (k = .cell ∨ k = .free) → ∃ c, cenv.cells.lookup y = some c := fun k e hk' => by
        unfold Env.kindOf at e
        rw [hsc] at e
        rcases hk' with rfl | rfl
        · obtain ⟨c, hm⟩ := cells_has (n := (s.heap.push frameObj).objs.size) (acc := cloFrom X.env.cells scope.names []) (PySem.mem_of_lookup e)
          obtain ⟨c', e'⟩ := mem_lookup hm
          exact ⟨c', by rw [hcl]; exact e'⟩
        · obtain ⟨c, h1, _⟩ := look e
          exact ⟨c, h1⟩
      rcases hy with hy | hy
      · exact key _ hy (.inl rfl)
      · exact key _ hy (.inr rfl)
    · have z : (scope.names.lookup y == some NameKind.cell) = true := z
      have z : scope.names.lookup y = some .cell := by simpa using z
      have e : cenv.cells.lookup y = some c := e
      rw [hcl] at e
      rcases cells_mem (PySem.mem_of_lookup e) with hm | ⟨_, h2, _⟩
      · rcases cloFrom_mem hm with hm | ⟨h1, _⟩
        · cases hm
        · have q := ok.uniq _ h1
          rw [z] at q; cases q
      · rw [Heap.size_push] at h2
        exact Nat.le_of_succ_le h2
    · exact Around.frames_deeper (A := X.A.in1.in1) I.ok.frames
    · show b ≠ cenv.locals
      rw [hL]; exact Nat.ne_of_lt (hfp b hb).2
    · have e : cenv.cells.lookup y = some c := e
      rcases mem e with ⟨h1, _⟩ | ⟨h1, _⟩
      · exact (hfp b hb).1.2.2.2.2.1 y c h1 z
      · have h2 : s.heap.objs.size + 1 ≤ b := by rw [← z]; exact h1
        exact absurd (Nat.lt_of_lt_of_le (hfp b hb).2 (Nat.le_of_succ_le h2)) (Nat.lt_irrefl _)
    · rcases (hfp b hb).1.2.2.2.1 with z | z
      · exact I.ok.noex b o e z
      · exact absurd (Nat.lt_of_lt_of_le (Heap.lt_size e) (Nat.le_trans I.ok.bsz z)) (Nat.lt_irrefl _)
    · rcases List.mem_cons.mp (I.stkSub b z) with z | z
      · exact (hfp b hb).1.2.1 z
      · exact (hfp b hb).1.2.2.1 z
  refine ⟨okB, rfl, hg, Un.kept kp, ⟨m0, ?_, fun i y av e1 e2 e3 => ?_⟩, fun y c e => ?_, ?_, fun y c e => ?_, fun p hp => absurd (show p ∈ ([] : List (Addr × Obj)) ++ [] from hp) (by simp), I.hok.kept kp, by rw [wipe_length]; exact I.len⟩
  · show Heap.Ns _ cenv.locals _
    rw [hL]
    exact hn
  · obtain ⟨e2, hne⟩ := wipe_some e2
    have hfr : scope.names.lookup y = some .free ∧ cenv.kindOf y = some .free := by
      have key : ∀ k, scope.names.lookup y = some k → k = .local ∨ k = .cell ∨ k = .free → scope.names.lookup y = some .free ∧ cenv.kindOf y = some .free := fun k e hk' => by
        have no : ¬ (k = .local ∨ k = .cell) := fun hh => by
          rcases ok.own _ (PySem.mem_of_lookup e) hh with e' | e'
          · obtain ⟨p, hp, hpy⟩ := List.mem_map.mp e'
            have e3 := ok.ix p hp
            have : p.1 = y := hpy
            rw [this] at e3
            exact hne (List.mem_map.mpr ⟨p, hp, nodup_ix hN e3 e1⟩)
          · exact e' (List.mem_of_getElem? e1)
        rcases hk' with rfl | rfl | rfl
        · exact absurd (.inl rfl) no
        · exact absurd (.inr rfl) no
        · exact ⟨e, by unfold Env.kindOf; rw [hsc]; exact e⟩
      have e3 : Vis cenv.scope y := e3
      rw [hsc] at e3
      rcases e3 with e3 | e3 | e3
      · exact key _ e3 (.inl rfl)
      · exact key _ e3 (.inr (.inl rfl))
      · exact key _ e3 (.inr (.inr rfl))
    obtain ⟨m, hn, hl⟩ := I.loc
    have hvis : Vis X.env.scope y := (ok.free _ (PySem.mem_of_lookup hfr.1) rfl).elim (fun k => .inr (.inl k)) (fun k => .inr (.inr k))
    obtain ⟨w, r, q⟩ := hl i y av e1 e2 hvis
    refine ⟨w, r, .inr ⟨.inr hfr.2, ?_⟩⟩
    obtain ⟨c, h1, h2⟩ := look hfr.1
    rcases q with ⟨k, _⟩ | ⟨_, c', e', z⟩
    · have k : X.env.scope.names.lookup y = some .local := k
      rcases ok.free _ (PySem.mem_of_lookup hfr.1) rfl with k' | k' <;> rw [show X.env.scope.names.lookup y = _ from k'] at k <;> cases k
    · rw [h2] at e'; cases e'
      obtain ⟨o, ho, r⟩ := z
      exact ⟨c, h1, o, kp _ _ ho, r⟩
  · have e : cenv.cells.lookup y = some c := e
    rcases mem e with ⟨h1, _⟩ | ⟨_, h2⟩
    · obtain ⟨v, o, ho, r⟩ := I.cell y c h1
      exact ⟨v, o, kp _ _ ho, r⟩
    · exact ⟨none, h2⟩
  · show H cenv.locals = none
    rw [hL]
    exact I.hok.fresh (Nat.le_refl _)
  · have e : cenv.cells.lookup y = some c := e
    rcases mem e with ⟨h1, _⟩ | ⟨h1, _⟩
    · exact I.freeC y c h1
    · exact I.hok.fresh (Nat.le_of_succ_le h1)
end
end G4

/-! G22: the fors of a generator's code in its context. -/
namespace G4
open PySem PySem.Spec PyProof.Rows L2
abbrev GAct := Nat → L2.St → Hp → (Nat → L2.St → Hp → Prop) → Prop
/-- a for's reading; n: how many items may still be handed out -/
def gLoop (J : It) (g : TG) (tt : TT) (act : GAct) (fin : Nat → L2.St → Hp → Prop) (n : Nat) (σ : L2.St) (H : Hp) : Prop :=
  ∃ W : Nat → Nat → Nat → L2.St → Hp → Prop, (∃ m, W 0 m n σ H) ∧ ∀ i m n σ' H', W i m n σ' H' →
    (J.stop i H' ∧ fin n σ' H') ∨ (J.go i H' ∧ ∃ N : Nat → L2.St → Hp → Prop, (∀ n2 σ2 H2, N n2 σ2 H2 → ∃ m', m' < m ∧ W (i + 1) m' n2 σ2 H2) ∧
      ∀ x H2, J.yld i H' x H2 → g x σ' H2 fun σ2 H3 => tt σ2 H3 fun b H4 => if b = true then act n σ2 H4 N else N n σ2 H4)
def gFor (wi : TI) (g : TG) (tt : TT) (act : GAct) : GAct := fun n σ H N => wi σ H fun J H1 => gLoop J g tt act N n σ H1
def gYield (te : TE) (yl : V → Hp → (Hp → Prop) → Prop) : GAct := fun n σ H N => te σ H fun y H4 => ∃ n', n = n' + 1 ∧ yl y H4 fun H5 => N n' σ H5
/-- any (stop: true), all (stop: false) -/
def ylB (stop : Bool) (F : Hp → Prop) : V → Hp → (Hp → Prop) → Prop := fun x H k => ∃ b, x = .bl b ∧ if b = stop then F H else k H
/-- nothing has changed but the generators -/
structure Woke (s s' : Shared) : Prop where
  heap : s'.heap = s.heap
  os : s'.os = s.os
  bare : AllBare s'.gens
section
variable {B : Cx}
theorem Woke.inv {pins : List (Addr × Obj)} {σ : L2.St} {H : Hp} {s s' : Shared} (z : Woke s s') (I : Inv B pins σ H s) : Inv B pins σ H s' := by
  obtain ⟨h, g, d, t, o⟩ := s'
  obtain ⟨e1, e2, e3⟩ := z
  have e1 : h = s.heap := e1
  have e2 : o = s.os := e2
  subst e1 e2
  exact I.step (g' := g) (t' := t) (d' := d) (ch := []) (fun b hb => absurd hb (by simp)) (fun b o _ _ _ e _ => e) (fun b o _ _ _ e _ => ⟨o.slots, e⟩) (fun b o _ e n => n) (fun b o _ e => ⟨o, e⟩) (fun _ _ e => e) (fun _ _ _ e => e) (fun b ps e => ⟨#[], by rw [e]; simp⟩) (fun m hm => hm) I.hok e3
/-- what the consumer is told at an item -/
def YB (B : Cx) (p0 : Addr × Obj) (stop : Bool) (F : Hp → Prop) : Protocol := fun n s₀ v s kap =>
  ∃ (b : Bool) (pins : List (Addr × Obj)) (σ : L2.St) (H : Hp), v = .bool b ∧ p0 ∈ pins ∧ Inv B pins σ H s ∧ (if b = stop then F H else ∀ s'', Woke s s'' → kap (.send .none) s'')
def RB (B : Cx) (p0 : Addr × Obj) (F : Hp → Prop) : GenEnd := fun n s₀ r s => r = .ok .next ∧ ∃ (pins : List (Addr × Obj)) (σ : L2.St) (H : Hp), p0 ∈ pins ∧ Inv B pins σ H s ∧ F H
/-- the act is done by em -/
def EmSeg (B : Cx) (p0 : Addr × Obj) (A : Around) (R : GenEnd) (Y : Protocol) (em : Sem PySem.Fin → Sem PySem.Fin) (act : GAct) : Prop :=
  ∀ (c : Code) (fr : List Frame) (pins : List (Addr × Obj)) (n : Nat) (s : Shared) (σ : L2.St) (H : Hp) (N : Nat → L2.St → Hp → Prop), A.over c fr = B.A → splitAtGen fr = none → fr.any Frame.guarded = false → p0 ∈ pins → Inv B pins σ H s → act n σ H N →
    SegEm (model B.prog B.w) A R Y c fr em (fun n' s' => ∃ σ' H', Inv B pins σ' H' s' ∧ N n' σ' H') n s
variable {p0 : Addr × Obj} {A : Around} {R : GenEnd}
theorem em_Y {elt : Expr} {te : TE} {stop : Bool} {F : Hp → Prop} (hx : B.xe = fun _ _ => False) (hco : B.env.scope.isCoroutine = false) (he : PE B elt te) : EmSeg B p0 A R (YB B p0 stop F) (emY elt B.env) (gYield te (ylB stop F)) := by
  intro c fr pins n s σ H N hA hs hg hp I h
  refine segEm_Y hco hs hg ?_
  rw [hA]
  have q := he.run pins s σ H _ I h
  rw [hx] at q
  refine wpAny_mono q (fun y s1 hy => ?_) fun _ _ x => x
  obtain ⟨x, H1, I1, rv, n', rfl, b, rfl, hb⟩ := hy
  obtain rfl : y = Value.bool b := rv
  refine ⟨n', rfl, fun s₀ kap hk => ⟨b, pins, σ, H1, rfl, hp, I1, ?_⟩⟩
  by_cases e : b = stop
  · rw [if_pos e] at hb ⊢
    exact hb
  · rw [if_neg e] at hb ⊢
    exact fun s'' z => hk s'' ⟨σ, H1, z.inv I1, hb⟩
/-- a for of the code -/
theorem g_loop {Y : Protocol} {e tg : Expr} {d : Nat} {acc : Value} {p : Pos} {ifs : List Expr} {em : Sem PySem.Fin → Sem PySem.Fin} {it : Addr} {fp : List Addr} {tn : Nat → Heap → Prop} {J : It} {g : TG} {tt : TT} {act : GAct} {fr : List Frame} {hh : Value → Sem Unit}
    {pins : List (Addr × Obj)} {fin : Nat → L2.St → Hp → Prop} {σ : L2.St} {H : Hp} {n : Nat} {s₀ s : Shared}
    (hden : (model B.prog B.w).den (.compLoop e d (.ref it) acc B.env) = (cturn e d p tg ifs em (.ref it) acc B.env).onRaise hh) (hq : (Code.compLoop e d (.ref it) acc B.env).quiet = true)
    (hA : A.over (.compLoop e d (.ref it) acc B.env) fr = B.A) (hs : splitAtGen fr = none) (hg : fr.any Frame.guarded = false) (hp : p0 ∈ pins) (hc : B.calm = true) (hx : B.xe = fun _ _ => False)
    (T : Turn B.prog B.w B.K tg J fp it tn) (pg : PG B tg g) (pt : PTs B ifs tt) (pa : EmSeg B p0 A R Y em act) (ff : ∀ b ∈ fp, FpOk B pins H b)
    (I : Inv B pins σ H s) (st : tn 0 s.heap) (h : gLoop J g tt act fin n σ H)
    (done : ∀ n s₀ s σ' H', Inv B pins σ' H' s → fin n σ' H' → Seg (model B.prog B.w) A R Y n s₀ (.compLoop e d (.ref it) acc B.env) (leafOf (.ok .next)) fr s) :
    Seg (model B.prog B.w) A R Y n s₀ (.compLoop e d (.ref it) acc B.env) ((model B.prog B.w).den (.compLoop e d (.ref it) acc B.env)) fr s := by
  obtain ⟨W, ⟨m0, w0⟩, turn⟩ := h
  have stat : ∀ {H' : Hp}, (∀ b ∈ fp, H' b = none) → ∀ b ∈ fp, FpOk B pins H' b := fun hn b hb => ⟨hn b hb, (ff b hb).2⟩
  refine seg_cloop hden hq (fun m n s' => ∃ i σ' H', Inv B pins σ' H' s' ∧ tn i s'.heap ∧ (∀ b ∈ fp, H' b = none) ∧ W i m n σ' H') (fun n s' => ∃ σ' H', Inv B pins σ' H' s' ∧ fin n σ' H') ?_ (fun n s₀ s ⟨σ', H', I', f⟩ => done n s₀ s σ' H' I' f) m0 n s₀ s
    ⟨0, σ, H, I, st, fun b hb => (ff b hb).1, w0⟩
  rintro m n s5 ⟨i, σ5, H5, I5, st5, n5, w5⟩
  rw [hA]
  rcases turn i m n σ5 H5 w5 with ⟨stop, nx⟩ | ⟨go, N, hN, step⟩
  · have td := T.done B rfl rfl rfl hc i pins s5 σ5 H5 (fun _ _ => False) I5 (stat n5) st5 stop
    refine thnF td fun r s6 ⟨hr, I6⟩ => ?_
    subst hr
    exact ⟨σ5, H5, I6, nx⟩
  · have ti := T.item B rfl rfl rfl hc i pins s5 σ5 H5 (fun _ _ => False) I5 (stat n5) st5 go
    refine thnF ti fun r s6 ⟨u, hr, h6⟩ => ?_
    subst hr
    refine thnF h6 fun _ s7 ⟨x, H7, I7, r7, y7, st7, n7⟩ => ?_
    have I7' := I7.pinned (stat n7) (T.obj _ _ st7)
    have pgr := pg.run _ s7 σ5 H7 x u _ I7' r7 (step x H7 y7)
    rw [hx] at pgr
    refine thnF pgr fun _ s8 ⟨σ8, H8, I8, q8⟩ => ?_
    have ptr := pt.run _ s8 σ8 H8 _ I8 q8
    rw [hx] at ptr
    refine thnF ptr fun b s9 ⟨H9, I9, q9⟩ => ?_
    have fin : ∀ {s' : Shared} {σ' : L2.St} {H' : Hp} {n' : Nat}, Inv B (pins ++ pinsAt fp s7.heap) σ' H' s' → N n' σ' H' → ∃ m', m' < m ∧ ∃ i σ' H', Inv B pins σ' H' s' ∧ tn i s'.heap ∧ (∀ b ∈ fp, H' b = none) ∧ W i m' n' σ' H' := by
      intro s' σ' H' n' I' nx
      obtain ⟨m', hm, w'⟩ := hN n' σ' H' nx
      have pin' : ∀ b ∈ fp, ∀ o, s7.heap.get? b = some o → s'.heap.get? b = some o ∧ H' b = none := by
        intro b hb o e
        have z := I'.pin (b, o) (List.mem_append_right _ (List.mem_append_right _ (mem_pinsAt hb e)))
        exact ⟨z.1, z.2.1⟩
      refine ⟨m', hm, i + 1, σ', H', I'.unpinned, T.keep _ _ _ st7 fun b hb o e => (pin' b hb o e).1, fun b hb => ?_, w'⟩
      obtain ⟨o, e, _⟩ := T.obj _ _ st7 b hb
      exact (pin' b hb o e).2
    cases b with
    | false =>
      simp only [Bool.false_eq_true, if_false] at q9 ⊢
      exact fin I9 q9
    | true =>
      simp only [if_true] at q9 ⊢
      have em := pa _ fr (pins ++ pinsAt fp s7.heap) n s9 σ8 H9 N hA hs hg (List.mem_append_left _ hp) I9 q9
      exact fun k K' J' s₀' hk => em k K' J' s₀' fun n' s₀'' s' ⟨σ', H', I', nx⟩ => hk n' s₀'' s' (fin I' nx)
/-- the next for -/
theorem em_For {Y : Protocol} {elt tg i2 : Expr} {gens : List Comprehension} {sc : Scope} {pos : Pos} {d : Nat} {acc : Value} {ifs : List Expr} {em : Sem PySem.Fin → Sem PySem.Fin} {wi : TI} {g : TG} {tt : TT} {act : GAct}
    (hgd : gens[d + 1]? = some ⟨tg, i2, ifs, 0⟩) (ht : ∀ it, compTurn (ge elt gens sc pos) (d + 1) it acc B.env = cturn (ge elt gens sc pos) (d + 1) i2.pos tg ifs em it acc B.env)
    (hc : B.calm = true) (hx : B.xe = fun _ _ => False) (pi : PI B tg i2 wi) (pg : PG B tg g) (pt : PTs B ifs tt) (pa : EmSeg B p0 A R Y em act) (hs2 : ∀ x, foldedSetIterable i2 B.env x = pure x) :
    EmSeg B p0 A R Y (emG (ge elt gens sc pos) i2 (d + 1) acc B.env) (gFor wi g tt act) := by
  intro c fr pins n s σ H N hA hs hg hp I h
  refine segEm_G hs2 ?_
  rw [hA]
  have pir := pi.run pins s σ H _ I h
  rw [hx] at pir
  refine thnF pir fun xv s1 hx1 => thnF hx1 fun j s2 h2 => ?_
  obtain ⟨it, fp, tn, J, H2, rfl, I2, T, st2, ff, q⟩ := h2
  intro k' p s₀ hk
  have ov : ∀ c' : Code, c'.weight = 0 → c'.cUnits = 0 → A.over c' (.ret k' none false [] c p [] :: fr) = B.A := fun c' hw hu => (GenW.over_loop hw hu).trans hA
  have sp : splitAtGen (.ret k' none false [] c p [] :: fr) = none := by
    show (splitAtGen fr).map _ = none
    rw [hs]; rfl
  have gu : (Frame.ret k' none false [] c p [] :: fr).any Frame.guarded = false := by
    show (false || fr.any Frame.guarded) = false
    rw [hg]; rfl
  refine seg_cstart (hx := fun x => do noteFrame x B.env; standAt theWindowsPlace) hgd rfl rfl rfl (fun A' Q' E' hq => T.self A' 0 _ _ _ st2 hq) ?_
  refine g_loop (p0 := p0) (hh := fun x => do noteFrame x B.env; theTreesLotGoes x) (by rw [← ht]; rfl) rfl (ov _ rfl rfl) sp gu hp hc hx T pg pt pa ff I2 st2 q fun n s₀ s σ' H' I' nx => ?_
  exact seg_leaf (.ok .next) (hk n s₀ s ⟨σ', H', I', nx⟩)
end
end G4

/-! G23: any, all of a generator expression. -/
namespace G4
open PySem PySem.Spec PyProof.Rows L2
theorem codeAmong_app {pos : Pos} {a b : Int} {c cv : Value} (l : List Value) (h : TriplesOk l) (hn : codeAmong pos (l ++ [rawInt a, rawInt b, c]) = some cv) : codeAmong pos l = some cv ∨ cv = c := by
  fun_induction TriplesOk l with
  | case1 =>
    simp [codeAmong, rawInt] at hn
    exact .inr hn.2.symm
  | case2 a t b u x rest ih =>
    simp only [List.cons_append, codeAmong] at hn ⊢
    split at hn
    · rename_i hc
      rw [if_pos hc]
      exact .inl hn
    · rename_i hc
      rw [if_neg hc]
      exact ih h hn
  | case3 l h1 h2 => exact h.elim
/-- the known tables and codes may have become more -/
structure Grown (T : Addr → Prop) (H : Hp) (T' : Addr → Prop) (H' : Hp) : Prop where
  le : ∀ a, T a → T' a
  ok : TabsOk T' H'
  old : ∀ a o, ¬ T a → H a = some o → H' a = some o
  new : ∀ a, T' a → T a ∨ H a = none
  old2 : ∀ a o, H a = some o → ∃ o', H' a = some o'
  tbl : ∀ a ps, H a = some (.tbl ps) → ∃ ps', H' a = some (.tbl ps')
  cod : ∀ a P, H a = some (CodeO a P) → H' a = some (CodeO a P)
theorem Grown.refl {T : Addr → Prop} {H : Hp} (h : TabsOk T H) : Grown T H T H := ⟨fun _ h => h, h, fun _ _ _ h => h, fun _ h => .inl h, fun _ o h => ⟨o, h⟩, fun _ ps h => ⟨ps, h⟩, fun _ _ h => h⟩
section
variable {X : Cx} {pins : List (Addr × Obj)} {σ : L2.St} {H : Hp} {s : Shared}
theorem gen_code {c P : Addr} {ps : Array Value} {pos : Pos} {q : Str} {scope : Scope} {T : Addr → Prop} {Q : Value → Shared → Prop} {E : Value → Shared → Prop} {A : Around} (hc : X.env.code = .ref c) (C : PySem.W.CodeHd s.heap c P) (I : Inv X pins σ H s) (hT : TabsOk T H) (hP : T P) (hp : H P = some (.tbl ps))
    (hQ : ∀ cv h' tk H' T', Inv X pins σ H' { s with heap := h', toks := tk } → Grown T H T' H' → (∀ b o, b ≠ P → s.heap.get? b = some o → h'.get? b = some o) → (∀ b o, b ≠ P → s.heap.get? b = some o → H' b = H b) → (∃ c' P', cv = .ref c' ∧ H' c' = some (CodeO c' P') ∧ T' c' ∧ T' P' ∧ ∃ ps', H' P' = some (.tbl ps')) → Q cv { s with heap := h', toks := tk }) :
    wpAny (model X.prog X.w) A (genexprCode X.env pos q scope) Q E s := by
  have ht : TriplesOk ps.toList ∧ ∀ pos cv, codeAmong pos ps.toList = some cv → ∃ c' P', cv = .ref c' ∧ H c' = some (CodeO c' P') ∧ T c' ∧ T P' ∧ ∃ ps', H P' = some (.tbl ps') := by
    rcases hT P hP with ⟨P', e⟩ | ⟨ps', e, r⟩
    · rw [hp] at e; cases e
    · rw [hp] at e; cases e; exact r
  have hPs : s.heap.get? P = some { cls := .none, data := .fields ps } := I.hok P _ hp
  cases hf : codeAmong pos ps.toList with
  | some cv =>
    refine wpAny_genexprCode_hit hc (C.code hPs ht.1) hf ?_
    exact hQ cv s.heap s.toks H T I (.refl hT) (fun _ _ _ e => e) (fun _ _ _ _ => rfl) (ht.2 pos cv hf)
  | none =>
    refine wpAny_genexprCodeX hc (C.code hPs ht.1) (C.tab hPs) hf fun c' h' tk hx hge hlt hco' _ htab' hnew => ?_
    obtain ⟨P', hgP, hcP, htP⟩ := hnew
    have CH := PySem.W.CodeHd.of hcP htP
    have hP' : h'.get? P' = some { cls := .none, data := .fields #[] } := htP.2
    have hne : c' ≠ P' := by obtain ⟨_, _, _, _, _, _, _, _, _, _, _, _, _, _, _, _, _, _, _, z⟩ := hcP; exact z.2
    have hPlt := Heap.lt_size hPs
    have hcP2 : c' ≠ P := Nat.ne_of_gt (Nat.lt_of_lt_of_le hPlt hge)
    have hPP : P' ≠ P := Nat.ne_of_gt (Nat.lt_of_lt_of_le hPlt hgP)
    have nc : H c' = none := I.hok.fresh hge
    have nP : H P' = none := I.hok.fresh hgP
    obtain ⟨H', hH⟩ : ∃ H' : Hp, H' = upd (upd (upd H P (.tbl (ps ++ #[rawInt pos.line, rawInt pos.col, .ref c']))) c' (CodeO c' P')) P' (.tbl #[]) := ⟨_, rfl⟩
    have eP' : H' P' = some (.tbl #[]) := by rw [hH]; exact upd_same
    have ec : H' c' = some (CodeO c' P') := by rw [hH, upd_ne hne]; exact upd_same
    have eP : H' P = some (.tbl (ps ++ #[rawInt pos.line, rawInt pos.col, .ref c'])) := by rw [hH, upd_ne (Ne.symm hPP), upd_ne (Ne.symm hcP2)]; exact upd_same
    have eo : ∀ b, b ≠ P → b ≠ c' → b ≠ P' → H' b = H b := fun b h1 h2 h3 => by rw [hH, upd_ne h3, upd_ne h2, upd_ne h1]
    have so : ∀ b u, H b = some u → b ≠ P → H' b = some u := fun b u e h1 => by rw [eo b h1 (ne_of_none e nc) (ne_of_none e nP)]; exact e
    have ge' : ∀ b o, s.heap.get? b = some o → b ≠ c' ∧ b ≠ P' := fun b o e => ⟨Nat.ne_of_lt (Nat.lt_of_lt_of_le (Heap.lt_size e) hge), Nat.ne_of_lt (Nat.lt_of_lt_of_le (Heap.lt_size e) hgP)⟩
    have nt : ∀ b u, H b = some u → (∀ q, u ≠ .tbl q) → b ≠ P := fun b u e q z => by
      rw [z, hp] at e
      exact q ps (Option.some.inj e).symm
    have nN : ∀ b, H b = none → b ≠ P := fun b e z => by
      rw [z, hp] at e
      cases e
    have hPget : h'.get? P = some { cls := .none, data := .fields (ps ++ #[rawInt pos.line, rawInt pos.col, .ref c']) } := htab'.2
    have J : Inv X pins σ H' { s with heap := h', toks := tk } := by
      refine I.step (g' := s.gens) (d' := s.drawn) (ch := []) (fun b hb => absurd hb (by simp)) (fun b o _ _ _ e n => hx b o (nN b n) e) (fun b o _ _ _ e n => ⟨o.slots, hx b o (nN b n) e⟩)
        (fun b o _ e n => ?_) (fun b o _ e => ?_) (fun b xs e => so b _ e (nt b _ e fun q z => by cases z)) (fun b o u e => so b _ e (nt b _ e fun q z => by cases z)) (fun b qs e => ?_) (fun m hn => ?_) (fun b u e => ?_) I.bare
      · obtain ⟨z1, z2⟩ := ge' b o e
        rw [eo b (nN b n) z1 z2]
        exact n
      · by_cases hb : b = P
        · rw [hb]; exact ⟨_, hPget⟩
        · exact ⟨o, hx b o hb e⟩
      · by_cases hb : b = P
        · rw [hb, hp] at e
          cases e
          rw [hb, eP]
          exact ⟨_, rfl⟩
        · exact ⟨#[], by rw [so b _ e hb]; simp⟩
      · obtain ⟨ob, es, ep, ho, r⟩ := hn
        exact ⟨ob, es, ep, hx _ ob (nN _ I.free) ho, r⟩
      · by_cases h1 : b = P'
        · subst h1
          rw [eP'] at e
          cases e
          exact hP'
        · by_cases h2 : b = c'
          · subst h2
            rw [ec] at e
            cases e
            refine ⟨CH, ?_, fun h1 h2 z k => ?_⟩
            · obtain ⟨o, _, _, _, _, _, _, _, _, e1, _⟩ := CH
              exact ⟨o, e1⟩
            · obtain ⟨o, us, file, tf, flags, tg, inF, text, tt, e1, r⟩ := z
              exact ⟨o, us, file, tf, flags, tg, inF, text, tt, k o e1, r⟩
          · by_cases h3 : b = P
            · subst h3
              rw [eP] at e
              cases e
              exact hPget
            · rw [eo b h3 h2 h1] at e
              refine (I.hok b u e).stay (fun d v hd q => hx d v ?_ q) (fun d q => so d _ q (nt d _ q fun q z => by cases z)) fun d xs q => so d _ q (nt d _ q fun q z => by cases z)
              rcases hd with z | z
              · rw [z]; exact h3
              · exact nt d _ z fun q z => by cases z
    refine hQ (.ref c') h' tk H' (fun a => T a ∨ a = c' ∨ a = P') J ⟨fun a h => .inl h, fun a ha => ?_, fun a o n e => so a o e fun z => n (z ▸ hP), fun a ha => ?_, fun a o e => ?_, fun a qs e => ?_, fun a P2 e => so a _ e (nt a _ e fun q z => by cases z)⟩ (fun b o hb e => hx b o hb e) (fun b o hb e => ?_) ⟨c', P', rfl, ec, .inr (.inl rfl), .inr (.inr rfl), _, eP'⟩
    · rcases ha with ha | ha | ha
      · by_cases hb : a = P
        · subst hb
          refine .inr ⟨_, eP, by simpa using TriplesOk_snoc _ _ _ _ ht.1, fun pos' cv hcv => ?_⟩
          have hcv : codeAmong pos' (ps.toList ++ [rawInt pos.line, rawInt pos.col, .ref c']) = some cv := by simpa using hcv
          rcases codeAmong_app _ ht.1 hcv with z | z
          · obtain ⟨c2, P2, e1, e2, e3, e4, ps2, e5⟩ := ht.2 pos' cv z
            refine ⟨c2, P2, e1, so c2 _ e2 (nt c2 _ e2 fun q z => by cases z), .inl e3, .inl e4, ?_⟩
            by_cases h2 : P2 = a
            · exact ⟨_, h2 ▸ eP⟩
            · exact ⟨ps2, so P2 _ e5 h2⟩
          · exact ⟨c', P', z, ec, .inr (.inl rfl), .inr (.inr rfl), #[], eP'⟩
        · rcases hT a ha with ⟨P2, e⟩ | ⟨ps2, e, t2, q2⟩
          · exact .inl ⟨P2, so a _ e hb⟩
          · refine .inr ⟨ps2, so a _ e hb, t2, fun pos' cv z => ?_⟩
            obtain ⟨c2, P2, e1, e2, e3, e4, ps3, e5⟩ := q2 pos' cv z
            refine ⟨c2, P2, e1, so c2 _ e2 (nt c2 _ e2 fun q z => by cases z), .inl e3, .inl e4, ?_⟩
            by_cases h2 : P2 = P
            · exact ⟨_, h2 ▸ eP⟩
            · exact ⟨ps3, so P2 _ e5 h2⟩
      · subst ha; exact .inl ⟨_, ec⟩
      · subst ha; exact .inr ⟨_, eP', trivial, fun pos' cv z => by simp [codeAmong] at z⟩
    · rcases ha with ha | ha | ha
      · exact .inl ha
      · subst ha; exact .inr nc
      · subst ha; exact .inr nP
    · by_cases hb : a = P
      · exact ⟨_, hb ▸ eP⟩
      · exact ⟨o, so a o e hb⟩
    · by_cases hb : a = P
      · exact ⟨_, hb ▸ eP⟩
      · exact ⟨qs, so a _ e hb⟩
    · obtain ⟨z1, z2⟩ := ge' b o e
      exact eo b hb z1 z2
end
theorem evalG (elt target iter : Expr) (ifs : List Expr) (rest : List Comprehension) (scope : Scope) (pos : Pos) (env : PySem.Env) (hco : scope.isCoroutine = false) :
    eval (ge elt (cl0 target iter ifs :: rest) scope pos) env = (do
      let x ← eval iter env
      standAt iter.pos
      let x ← genFold iter env x
      let it ← holding [x] (pyIter x)
      enterFrame
      let cl ← closureFor scope env
      let code ← genexprCode env pos (env.qual ++ "<genexpr>") scope
      let bi ← builtinsFor env.globals env.builtins
      let cenv ← newFunctionEnv scope env.globals cl [(".0", it)] (env.qual ++ "<genexpr>.") none code none bi
      newGenerator (.compStart (ge elt (cl0 target iter ifs :: rest) scope pos) 0 it .none cenv) "<genexpr>" (env.qual ++ "<genexpr>")) := by
  rw [arm_eval_GeneratorExp]
  simp only [hco, Bool.false_eq_true, if_false]
  cases iter <;> rfl
theorem allBare_set {gs : Array GenState} {g : Nat} {x : GenState} (h : AllBare gs) (hx : x.bare = true) : AllBare (gs.setIfInBounds g x) := fun y hy => by
  rw [Array.mem_iff_getElem?] at hy
  obtain ⟨i, hi⟩ := hy
  rw [Array.getElem?_setIfInBounds] at hi
  split at hi
  · split at hi
    · cases hi; exact hx
    · cases hi
  · exact h y (Array.mem_of_getElem? hi)
theorem woke_set {s : Shared} {g : Nat} {x : GenState} (h : AllBare s.gens) (hx : x.bare = true) : Woke s (s.setGen g x) := ⟨rfl, rfl, allBare_set h hx⟩
abbrev Gens (k : Nat) (X : Cx) (sc : Scope) (F : Cx → Prop) : Prop := ∀ (s : Shared) (H : Hp) (C : Addr) (cl : List (Str × Addr)) (code : Value) (fp : List Addr), Room k ((X.A.in1.in1).deeper (genEnv sc cl C code builtinsNs X.env)) → F (Cx.gen X s H sc (genEnv sc cl C code builtinsNs X.env) fp)
theorem room_gen {k : Nat} {A : Around} (r : Room (k + 1) A) (env : PySem.Env) : Room k ((A.in1.in1).deeper env) :=
  ⟨r.hd, by have := r.dp; show A.depth + 1 + 3 * k + 5 < _; omega, by have := r.un; show A.units + 1 + 1 + 3 + 16 * k + 200 < _; omega⟩
theorem over_gen {A : Around} {elt tg iter : Expr} {ifs : List Expr} {rest : List Comprehension} {sc : Scope} {pos : Pos} {it acc : Value} {env : PySem.Env} : A.over (.compLoop (ge elt (cl0 tg iter ifs :: rest) sc pos) 0 it acc env) [] = A.deeper env := by
  first
    | rfl
    | (obtain ⟨hd, d, fr, gs, u⟩ := A; simp [Around.over, Around.deeper, marksOver, frameCount, unitsOf, envsOf, guardsOf, pushEnvs, pushGuards, Code.envs, Code.env?, Code.isFrame, Code.guards, Code.isGuard, Code.weight, Code.frames, Code.isCreation, Code.isCaller, Code.cUnits])
def tGen (P : Addr) (wi : TI) (g : TG) (tt : TT) (act : (Hp → Prop) → GAct) (stop : Bool) (vs : List Nat) : TE := fun σ H Q => wi σ H fun J H1 => ∃ (T : Addr → Prop) (ps : Array Value), TabsOk T H1 ∧ T P ∧ H1 P = some (.tbl ps) ∧
  ∀ T' H2, Grown T H1 T' H2 → ∃ n, gLoop J g tt (act fun H' => Q (.bl stop) H') (fun _ _ H' => Q (.bl (!stop)) H') n (wipe σ vs) H2
section
variable {X : Cx}
/-- the state of a generator that is being drawn from -/
def GSt (P : Program) (w : World) (A : Around) (B : Cx) (p0 : Addr × Obj) (stop : Bool) (F F2 : Hp → Prop) (gi : Nat) (n : Nat) (s : Shared) : Prop :=
  s.heap.IsGen p0.1 gi ∧ s.heap.NoLimit ∧ ∃ gs, s.gens[gi]? = some gs ∧ gs.Goes (model P w) A (RB B p0 F2) (YB B p0 stop F) n (.send .none) (s.setGen gi .running)
/-- one draw -/
theorem draw {A : Around} {B : Cx} {p0 : Addr × Obj} {stop : Bool} {F F2 : Hp → Prop} {gi n : Nat} {s : Shared} {Q : Option Value → Shared → Prop} {E : Value → Shared → Prop} (hh : A.handled = none) (hroom : A.depth < recursionLimit) (hg : p0.2.cls = .type "generator") (hs : p0.2.slots = #[])
    (hd : ∃ nm qn, p0.2.data = .fields #[.int gi 0, nm, qn]) (h : GSt X.prog X.w A.in1 B p0 stop F F2 gi n s)
    (hY : ∀ (b : Bool) pins σ H s', p0 ∈ pins → Inv B pins σ H s' → (if b = stop then F H else ∃ m, n = m + 1 ∧ GSt X.prog X.w A.in1 B p0 stop F F2 gi m s') → Q (some (.bool b)) s')
    (hR : ∀ pins σ H s', p0 ∈ pins → Inv B pins σ H s' → F2 H → Q none s') : wpAny (model X.prog X.w) A (pyNext (.ref p0.1)) Q E s := by
  obtain ⟨hG, hl, gs, hgs, hgo⟩ := h
  have hsz : gi + 1 ≤ s.gens.size := by
    obtain ⟨hlt, _⟩ := Array.getElem?_eq_some_iff.mp hgs
    exact hlt
  refine GenW.wpAny_gsz (n := gi + 1) hsz ?_
  refine wpAny_pyNext_genexpQ (P := fun n s₀ s => ∃ (pins : List (Addr × Obj)) (σ : L2.St) (H : Hp), p0 ∈ pins ∧ Inv B pins σ H s ∧ F2 H) hh hl hroom hG hgs hgo (fun v s₁ gs' hb hv => ?_) (fun s₁ hp h' hk => ?_)
  · intro hsz'
    obtain ⟨b, pins, σ, H, rfl, hp, I, hb'⟩ := hv
    have hsz1 : gi < s₁.gens.size := by
      have : gi + 1 ≤ (s₁.setGen gi gs').gens.size := hsz'
      rw [GenW.setGen_size] at this
      exact this
    have z := woke_set (g := gi) I.bare hb
    refine hY b pins σ H _ hp (z.inv I) ?_
    by_cases e : b = stop
    · rw [if_pos e] at hb' ⊢
      exact hb'
    · rw [if_neg e] at hb' ⊢
      have pin := (I.pin p0 (List.mem_append_right _ hp)).1
      cases n with
      | zero => exact (hb' s₁ ⟨rfl, rfl, I.bare⟩).elim
      | succ m =>
        obtain ⟨nm, qn, hd⟩ := hd
        refine ⟨m, rfl, ⟨p0.2, nm, qn, pin, hg, hd, hs⟩, I.nolimit, gs', setGen_self (gs := s₁.gens[gi]) (Array.getElem?_eq_getElem hsz1), ?_⟩
        exact hb' _ ⟨rfl, rfl, allBare_set (allBare_set I.bare hb) rfl⟩
  · intro _
    obtain ⟨pins, σ, H, hp, I, hf⟩ := hp
    have I2 := (woke_set (g := gi) (x := .finished) I.bare rfl).inv I
    exact hR pins σ H _ hp (I2.kept (t' := s₁.toks) hk) hf
end
end G4

/-! G24: any, all of a generator expression: the call. -/
namespace G4
open PySem PySem.Spec PyProof.Rows L2
section
variable {X : Cx}
theorem any_loopG {B : Cx} {p0 : Addr × Obj} {F F2 : Hp → Prop} {gi : Nat} {Rf : Result → Shared → Prop} (hh : X.A.handled = none) (hroom : X.A.depth < recursionLimit) (hg : p0.2.cls = .type "generator") (hs : p0.2.slots = #[])
    (hd : ∃ nm qn, p0.2.data = .fields #[.int gi 0, nm, qn])
    (h1 : ∀ pins σ H s', p0 ∈ pins → Inv B pins σ H s' → F H → Rf (.ok (.ret (.bool true))) s') (h2 : ∀ pins σ H s', p0 ∈ pins → Inv B pins σ H s' → F2 H → Rf (.ok (.ret (.bool false))) s') :
    ∀ (n : Nat) (s : Shared), GSt X.prog X.w X.A.in1.in1 B p0 true F F2 gi n s → codeAny (model X.prog X.w) X.A (.builtin "any.loop" ⟨[.ref p0.1], []⟩) Rf s := by
  intro n
  induction n using Nat.strongRecOn with
  | ind n ih =>
    intro s st
    refine codeAny_builtin PySem.F.entry_any_loop ?_
    rw [Around.under_plainId PySem.F.plain_any_loop _]
    show wpAny _ X.A.in1 (pyNext (.ref p0.1) >>= _) _ _ s
    refine wpAny_bind (draw (X := X) (A := X.A.in1) hh hroom hg hs hd st (fun b pins σ H s' hp I hb => ?_) fun pins σ H s' hp I hf => ?_)
    · refine wpAny_bind (wpAny_holding (wpAny_truthy_bool ?_))
      refine wpAny_bind (wpAny_letGo ?_)
      cases b with
      | true =>
        simp only [if_true] at hb ⊢
        exact wpAny_bind (wpAny_rule (wpAny_pure (h1 pins σ H s' hp I hb)))
      | false =>
        simp only [Bool.false_eq_true, if_false] at hb ⊢
        obtain ⟨m, rfl, hb⟩ := hb
        exact wpAny_pure ⟨plainId_quiet PySem.F.plain_any_loop _, ih m (Nat.lt_succ_self m) s' hb⟩
    · exact wpAny_bind (wpAny_rule (wpAny_pure (h2 pins σ H s' hp I hf)))
theorem all_loopG {B : Cx} {p0 : Addr × Obj} {F F2 : Hp → Prop} {gi : Nat} {Rf : Result → Shared → Prop} (hh : X.A.handled = none) (hroom : X.A.depth < recursionLimit) (hg : p0.2.cls = .type "generator") (hs : p0.2.slots = #[])
    (hd : ∃ nm qn, p0.2.data = .fields #[.int gi 0, nm, qn])
    (h1 : ∀ pins σ H s', p0 ∈ pins → Inv B pins σ H s' → F H → Rf (.ok (.ret (.bool false))) s') (h2 : ∀ pins σ H s', p0 ∈ pins → Inv B pins σ H s' → F2 H → Rf (.ok (.ret (.bool true))) s') :
    ∀ (n : Nat) (s : Shared), GSt X.prog X.w X.A.in1.in1 B p0 false F F2 gi n s → codeAny (model X.prog X.w) X.A (.builtin "all.loop" ⟨[.ref p0.1], []⟩) Rf s := by
  intro n
  induction n using Nat.strongRecOn with
  | ind n ih =>
    intro s st
    refine codeAny_builtin PySem.F.entry_all_loop ?_
    rw [Around.under_plainId PySem.F.plain_all_loop _]
    show wpAny _ X.A.in1 (pyNext (.ref p0.1) >>= _) _ _ s
    refine wpAny_bind (draw (X := X) (A := X.A.in1) hh hroom hg hs hd st (fun b pins σ H s' hp I hb => ?_) fun pins σ H s' hp I hf => ?_)
    · refine wpAny_bind (wpAny_holding (wpAny_truthy_bool ?_))
      refine wpAny_bind (wpAny_letGo ?_)
      cases b with
      | false =>
        simp only [Bool.false_eq_true, if_true, if_false] at hb ⊢
        exact wpAny_bind (wpAny_rule (wpAny_pure (h1 pins σ H s' hp I hb)))
      | true =>
        simp only [Bool.true_eq_false, if_true, if_false] at hb ⊢
        obtain ⟨m, rfl, hb⟩ := hb
        exact wpAny_pure ⟨plainId_quiet PySem.F.plain_all_loop _, ih m (Nat.lt_succ_self m) s' hb⟩
    · exact wpAny_bind (wpAny_rule (wpAny_pure (h2 pins σ H s' hp I hf)))
/-- the generator is made, stands ready; then what the consumer does -/
theorem gen_made {elt tg iter : Expr} {ifs : List Expr} {rest : List Comprehension} {sc : Scope} {own : List (Str × Nat)} {gpos : Pos} {wi : TI} {g : TG} {tt : TT} {act : (Hp → Prop) → GAct} {em : PySem.Env → Sem PySem.Fin → Sem PySem.Fin} {stop : Bool} {k : Nat} {c P : Addr}
    {pins : List (Addr × Obj)} {s : Shared} {σ : L2.St} {H : Hp} {Q : VK} {Q' : Value → Shared → Prop}
    (ct : ∀ it env, compTurn (ge elt (cl0 tg iter ifs :: rest) sc gpos) 0 it .none env = cturn (ge elt (cl0 tg iter ifs :: rest) sc gpos) 0 iter.pos tg ifs (em env) it .none env)
    (hr : Room (k + 1) X.A) (hc : X.calm = true) (hN : X.N.Nodup) (TB : GxR.TabB X.base X.mg c P) (hcode : X.env.code = .ref c) (hco : sc.isCoroutine = false) (h0 : sc.names.lookup (".0" : Str) = some NameKind.local)
    (hi : PI X tg iter wi) (ok : BlkOk X.N X.env.scope sc own) (hg : Gens k X sc fun X' => PG X' tg g) (ht : Gens k X sc fun X' => PTs X' ifs tt)
    (ha : ∀ F p0 R, Gens k X sc fun X' => EmSeg X' p0 (X.A.in1.in1) R (YB X' p0 stop F) (em X'.env) (act F)) (hs : ∀ x, genFold iter X.env x = pure x)
    (I : Inv X pins σ H s) (h : tGen P wi g tt act stop (own.map (·.2)) σ H Q)
    (hQ : ∀ (B : Cx) (p0 : Addr × Obj) (gi n : Nat) (s5 : Shared), p0.2.cls = .type "generator" → p0.2.slots = #[] → (∃ nm qn, p0.2.data = .fields #[.int gi 0, nm, qn]) → s5.heap.IsGen p0.1 gi →
      GSt X.prog X.w X.A.in1.in1 B p0 stop (fun H' => Q (.bl stop) H') (fun H' => Q (.bl (!stop)) H') gi n s5 → (∀ pins' σ' H' s', Inv B pins' σ' H' s' → Inv X pins σ H' s') → Q' (.ref p0.1) s5) :
    wpAny (model X.prog X.w) X.A (eval (ge elt (cl0 tg iter ifs :: rest) sc gpos) X.env) Q' X.xe s := by
  have hfree : ∀ y ∈ sc.names, y.2 = .free → ∃ c, X.env.cells.lookup y.1 = some c := by
    intro y hy e
    have := ok.free y hy e
    exact I.ok.has _ this
  rw [evalG _ _ _ _ _ _ _ _ hco]
  refine wpAny_bind (thn (hi.run pins s σ H _ I h) fun xv s1 hx => ?_)
  refine wpAny_bind (wpAny_standAt (wpAny_bind (wpAny_of_eq (hs xv) ?_)))
  refine wpAny_bind (wpAny_holding (thn hx fun itv s2 h2 => ?_))
  obtain ⟨it, fp, tn, J, H2, rfl, I2, T, st2, f2, TT, ps, hT, hTP, hPs, q⟩ := h2
  refine wpAny_bind (wpAny_enterFrame I2.nolimit hr.depth ?_)
  refine wpAny_bind (wpAny_of_eq (closure_ok hfree) ?_)
  have CH : PySem.W.CodeHd s2.heap c P := TB.code.keeps I2.bk
  refine wpAny_bind (gen_code hcode CH I2 hT hTP hPs fun cv h3 tk3 H3 T3 I3 gr kp3 ko3 _ => ?_)
  obtain ⟨bm, ob, e1, e2, e3, e4, e5, e6, e7, e8⟩ := TB.bm
  refine wpAny_bind (wpAny_builtinsFor (m := X.mg) ?_ e1 e2 (I3.bk _ _ e5) e6 e7 e8 ?_)
  · rw [I3.ok.glob]
    exact I3.mod.glob.keeps I3.bk
  obtain ⟨n, hloop⟩ := q T3 H3 gr
  have nP : ∀ b ∈ fp, b ≠ P := fun b hb z => by
    have := (f2 b hb).1
    rw [z, hPs] at this
    cases this
  have f3 : ∀ b ∈ fp, FpOk X pins H3 b ∧ b < h3.objs.size := by
    intro b hb
    obtain ⟨o, e, _⟩ := T.obj _ _ st2 b hb
    refine ⟨⟨?_, (f2 b hb).2⟩, Heap.lt_size (kp3 b o (nP b hb) e)⟩
    rw [ko3 b o (nP b hb) e]
    exact (f2 b hb).1
  have st3 : tn 0 h3 := T.keep _ _ _ st2 fun b hb o e => kp3 b o (nP b hb) e
  generalize hs4 : ({ s2 with heap := h3, toks := tk3 } : Shared) = s4 at I3 ⊢
  have hh4 : s4.heap = h3 := by rw [← hs4]
  rw [← hh4] at f3 st3
  refine wpAny_bind (newEnv_gen ok.kind h0 fun h' tk hn' hk' => ?_)
  rw [show newEnv sc s4.heap.objs.size X.env.globals (cellsFrom (s4.heap.objs.size + 1) sc.names (cloFrom X.env.cells sc.names [])) (X.env.qual ++ "<genexpr>.") none cv none builtinsNs = genEnv sc (cellsFrom (s4.heap.objs.size + 1) sc.names (cloFrom X.env.cells sc.names [])) s4.heap.objs.size cv builtinsNs X.env from rfl]
  simp only [newGenerator, newFields]
  refine wpAny_bind (wpAny_newGen (wpAny_bind (wpAny_mkText (wpAny_bind (wpAny_mkText (wpAny_newObj_type ?_ (by size_fits)))))))
  have kp' : ∀ b o, s4.heap.get? b = some o → h'.get? b = some o := fun b o e => hk' b o (Nat.ne_of_lt (Heap.lt_size e)) (pushCells_keeps _ _ _ _ (Heap.get?_push_of_some _ e))
  have room := room_gen hr (genEnv sc (cellsFrom (s4.heap.objs.size + 1) sc.names (cloFrom X.env.cells sc.names [])) s4.heap.objs.size cv builtinsNs X.env)
  have pg := hg s4 H3 s4.heap.objs.size (cellsFrom (s4.heap.objs.size + 1) sc.names (cloFrom X.env.cells sc.names [])) cv fp room
  have pt := ht s4 H3 s4.heap.objs.size (cellsFrom (s4.heap.objs.size + 1) sc.names (cloFrom X.env.cells sc.names [])) cv fp room
  have pa := fun F p0 R => ha F p0 R s4 H3 s4.heap.objs.size (cellsFrom (s4.heap.objs.size + 1) sc.names (cloFrom X.env.cells sc.names [])) cv fp room
  generalize hce : genEnv sc (cellsFrom (s4.heap.objs.size + 1) sc.names (cloFrom X.env.cells sc.names [])) s4.heap.objs.size cv builtinsNs X.env = cenv at room pg pt pa ⊢
  have main : ∀ (go : Obj) (tk' : Nat), go.cls = .type "generator" → go.slots = #[] → (∃ nm qn, go.data = .fields #[.int s4.gens.size 0, nm, qn]) → (∀ h : Heap, (h.push go).get? h.objs.size = some go) →
      Q' (.ref h'.objs.size) { s4 with heap := h'.push go, gens := s4.gens.push (.fresh (.compStart (ge elt (cl0 tg iter ifs :: rest) sc gpos) 0 (.ref it) .none cenv)), toks := tk' } := by
    intro go tk' hgc hgs hgd hgp
    have pushed : (h'.push go).get? h'.objs.size = some go := hgp h'
    have kpp : ∀ b o, h'.get? b = some o → (h'.push go).get? b = some o := fun b o e => Heap.get?_push_of_some _ e
    have I5 : Inv (Cx.gen X s4 H3 sc cenv fp) [] (wipe σ (own.map (·.2))) H3 { s4 with heap := h'.push go, toks := tk', gens := s4.gens.push (.fresh (.compStart (ge elt (cl0 tg iter ifs :: rest) sc gpos) 0 (.ref it) .none cenv)) } := by
      rw [← hce]
      exact gen_start I3 ok hN f3 (hn'.keeps kpp) (fun b o hb e => kpp b o (hk' b o hb e)) (AllBare.push I3.bare rfl)
    have cL : cenv.locals = s4.heap.objs.size := by rw [← hce]; rfl
    have s4lt : s4.heap.objs.size < h'.objs.size := hn'.lt
    have I6 : Inv (Cx.gen X s4 H3 sc cenv fp) [(h'.objs.size, go)] (wipe σ (own.map (·.2))) H3 { s4 with heap := h'.push go, toks := tk', gens := s4.gens.push (.fresh (.compStart (ge elt (cl0 tg iter ifs :: rest) sc gpos) 0 (.ref it) .none cenv)) } := by
      refine I5.pins_of fun p hp => ?_
      obtain rfl : p = (h'.objs.size, go) := by simpa using hp
      refine ⟨pushed, I3.hok.fresh (Nat.le_of_lt s4lt), ?_, fun z => ?_, fun v z => ?_⟩
      · show h'.objs.size ≠ cenv.locals
        rw [cL]; exact Nat.ne_of_gt s4lt
      · have z : h'.objs.size ∈ frs X.stack := z
        rcases List.mem_cons.mp (I3.stkSub _ z) with z | z
        · exact Nat.lt_irrefl _ (Nat.lt_trans (z ▸ I3.lt) s4lt)
        · exact I3.nofs (Nat.le_of_lt s4lt) z
      · obtain ⟨nm, qn, hgd⟩ := hgd
        have z : go.data = .cell v := z
        rw [hgd] at z; cases z
    have isg : ∀ h : Heap, h.get? h'.objs.size = some go → h.IsGen h'.objs.size s4.gens.size := fun h e => by
      obtain ⟨nm, qn, hgd⟩ := hgd
      exact ⟨go, nm, qn, e, hgc, hgd, hgs⟩
    have hf5 : ∀ b ∈ fp, FpOk (Cx.gen X s4 H3 sc cenv fp) [(h'.objs.size, go)] H3 b := by
      intro b hb
      refine ⟨(f3 b hb).1.1, (I6.ok.exf b hb).1, I6.ok.exfs b hb, .inl hb, fun x c e => (I6.ok.exf b hb).2 x c e, fun p hp => ?_⟩
      obtain rfl : p = (h'.objs.size, go) := by
        have hp : p ∈ ([] : List (Addr × Obj)) ++ [(h'.objs.size, go)] := hp
        simpa using hp
      exact Nat.ne_of_gt (Nat.lt_trans (f3 b hb).2 s4lt)
    have st5 : tn 0 (h'.push go) := T.keep _ _ _ st3 fun b _ o e => kpp b o (kp' b o e)
    refine hQ (Cx.gen X s4 H3 sc cenv fp) (h'.objs.size, go) s4.gens.size n _ hgc hgs hgd (isg _ pushed) ⟨isg _ pushed, I6.nolimit, _, Array.getElem?_push_size .., rfl, ?_⟩ fun pins' σ' H' s' J => ?_
    · have wk : Woke { s4 with heap := h'.push go, toks := tk', gens := s4.gens.push (.fresh (.compStart (ge elt (cl0 tg iter ifs :: rest) sc gpos) 0 (.ref it) .none cenv)) }
          (({ s4 with heap := h'.push go, toks := tk', gens := s4.gens.push (.fresh (.compStart (ge elt (cl0 tg iter ifs :: rest) sc gpos) 0 (.ref it) .none cenv)) } : Shared).setGen s4.gens.size .running) := woke_set I6.bare rfl
      have I7 := wk.inv I6
      refine seg_cstart (hx := leaving cenv) (g := cl0 tg iter ifs) rfl rfl rfl rfl (fun A' Q' E' hq => T.self A' 0 _ _ _ st5 hq) ?_
      refine g_loop (B := Cx.gen X s4 H3 sc cenv fp) (p0 := (h'.objs.size, go)) (hh := leaving cenv) (by rw [← ct]; rfl) rfl over_gen rfl rfl (List.mem_singleton.mpr rfl) hc rfl T pg pt (pa _ _ _) hf5 I7 st5 hloop fun n s₀ s σ' H' I' nx => ?_
      exact seg_end (.ok .next) ⟨rfl, _, σ', H', List.mem_singleton.mpr rfl, I', nx⟩
    · refine I3.call' (ch := fp) J.os J.base J.hok J.bare fun b hb => ?_
      have f := (f3 b hb).1
      exact ⟨f.2.2.2.1, f.2.1, f.2.2.2.2.1, f.2.2.2.2.2⟩
  exact main _ _ rfl rfl ⟨_, _, rfl⟩ fun h => Heap.get?_push_size _ rfl
end
end G4

/-! G25: any(..), all(..) as expressions. -/
namespace G4
open PySem PySem.Spec PyProof.Rows L2
section
variable {X : Cx}
theorem kindG_any : builtinKind "any" = none := PySem.F.kind_any
theorem call_anyG {p0 : Addr × Obj} {B : Cx} {F F2 : Hp → Prop} {gi n : Nat} {s : Shared} {Q' : Value → Shared → Prop} {E : Value → Shared → Prop} (hh : X.A.handled = none) (hroom : X.A.depth < recursionLimit) (hg : p0.2.cls = .type "generator") (hs : p0.2.slots = #[])
    (hd : ∃ nm qn, p0.2.data = .fields #[.int gi 0, nm, qn]) (hG : s.heap.IsGen p0.1 gi) (st : GSt X.prog X.w X.A.in1.in1 B p0 true F F2 gi n s)
    (h1 : ∀ pins σ H s', p0 ∈ pins → Inv B pins σ H s' → F H → Q' (.bool true) s') (h2 : ∀ pins σ H s', p0 ∈ pins → Inv B pins σ H s' → F2 H → Q' (.bool false) s') :
    wpAny (model X.prog X.w) X.A (call (.builtin "any") [.ref p0.1]) Q' E s := by
  refine call_function_tree PySem.F.kind_any PySem.F.plain_any PySem.F.entry_any (PySem.F.args_any1 _) ?_
  unfold Builtin.«any»
  refine wpAny_bind (m := oneArg "any" _) (wpAny_pure ?_)
  refine wpAny_bind (wpAny_pyIter_gen hG ?_)
  exact wpAny_pure ⟨plainId_quiet PySem.F.plain_any_loop _, any_loopG hh hroom hg hs hd (fun pins σ H s' hp I f => h1 pins σ H s' hp I f) (fun pins σ H s' hp I f => h2 pins σ H s' hp I f) n s st⟩
theorem call_allG {p0 : Addr × Obj} {B : Cx} {F F2 : Hp → Prop} {gi n : Nat} {s : Shared} {Q' : Value → Shared → Prop} {E : Value → Shared → Prop} (hh : X.A.handled = none) (hroom : X.A.depth < recursionLimit) (hg : p0.2.cls = .type "generator") (hs : p0.2.slots = #[])
    (hd : ∃ nm qn, p0.2.data = .fields #[.int gi 0, nm, qn]) (hG : s.heap.IsGen p0.1 gi) (st : GSt X.prog X.w X.A.in1.in1 B p0 false F F2 gi n s)
    (h1 : ∀ pins σ H s', p0 ∈ pins → Inv B pins σ H s' → F H → Q' (.bool false) s') (h2 : ∀ pins σ H s', p0 ∈ pins → Inv B pins σ H s' → F2 H → Q' (.bool true) s') :
    wpAny (model X.prog X.w) X.A (call (.builtin "all") [.ref p0.1]) Q' E s := by
  refine call_function_tree PySem.F.kind_all PySem.F.plain_all PySem.F.entry_all (PySem.F.args_all1 _) ?_
  unfold Builtin.«all»
  refine wpAny_bind (m := oneArg "all" _) (wpAny_pure ?_)
  refine wpAny_bind (wpAny_pyIter_gen hG ?_)
  exact wpAny_pure ⟨plainId_quiet PySem.F.plain_all_loop _, all_loopG hh hroom hg hs hd (fun pins σ H s' hp I f => h1 pins σ H s' hp I f) (fun pins σ H s' hp I f => h2 pins σ H s' hp I f) n s st⟩
theorem pe_anyG {elt tg iter : Expr} {ifs : List Expr} {rest : List Comprehension} {sc : Scope} {own : List (Str × Nat)} {gpos p pos : Pos} {wi : TI} {g : TG} {tt : TT} {act : (Hp → Prop) → GAct} {em : PySem.Env → Sem PySem.Fin → Sem PySem.Fin} {k : Nat} {c P : Addr}
    (hgl : Gl X "any") (hm : X.mg "any" = none)
    (ct : ∀ it env, compTurn (ge elt (cl0 tg iter ifs :: rest) sc gpos) 0 it .none env = cturn (ge elt (cl0 tg iter ifs :: rest) sc gpos) 0 iter.pos tg ifs (em env) it .none env)
    (hr : Room (k + 1) X.A) (hc : X.calm = true) (hN : X.N.Nodup) (TB : GxR.TabB X.base X.mg c P) (hcode : X.env.code = .ref c) (hco : sc.isCoroutine = false) (h0 : sc.names.lookup (".0" : Str) = some NameKind.local)
    (hi : PI X tg iter wi) (ok : BlkOk X.N X.env.scope sc own) (hg : Gens k X sc fun X' => PG X' tg g) (ht : Gens k X sc fun X' => PTs X' ifs tt)
    (ha : ∀ F p0 R, Gens k X sc fun X' => EmSeg X' p0 (X.A.in1.in1) R (YB X' p0 true F) (em X'.env) (act F)) (hs : ∀ x, genFold iter X.env x = pure x)
    (he : starEach [ge elt (cl0 tg iter ifs :: rest) sc gpos] X.env = (false, eval (ge elt (cl0 tg iter ifs :: rest) sc gpos) X.env) :: starEach [] X.env := by rfl) :
    PE X (.Call (.Name "any" p) [ge elt (cl0 tg iter ifs :: rest) sc gpos] [] pos) (tGen P wi g tt act true (own.map (·.2))) := by
  refine ⟨fun pins s σ H Q I h => ?_⟩
  refine wpAny_Call_Name_kw (ld_blt I hgl hm boot_any ?_)
  refine PyProof.Rows.callWith_builtin1 ?_ he (by rfl)
  rw [he]
  show wpAny _ _ (spliced ((false, eval (ge elt (cl0 tg iter ifs :: rest) sc gpos) X.env) :: backTo pos (starEach [] X.env))) _ _ s
  refine Calls.spliced_cons (gen_made ct hr hc hN TB hcode hco h0 hi ok hg ht ha hs I h fun B p0 gi n s5 a1 a2 a3 a4 a5 back => ?_)
  refine Calls.spliced_nil ?_
  exact call_anyG hr.hd hr.depth a1 a2 a3 a4 a5 (fun pins' σ' H' s' hp J f => ⟨.bl true, H', back _ _ _ _ J, rfl, f⟩) fun pins' σ' H' s' hp J f => ⟨.bl false, H', back _ _ _ _ J, rfl, f⟩
theorem pe_allG {elt tg iter : Expr} {ifs : List Expr} {rest : List Comprehension} {sc : Scope} {own : List (Str × Nat)} {gpos p pos : Pos} {wi : TI} {g : TG} {tt : TT} {act : (Hp → Prop) → GAct} {em : PySem.Env → Sem PySem.Fin → Sem PySem.Fin} {k : Nat} {c P : Addr}
    (hgl : Gl X "all") (hm : X.mg "all" = none)
    (ct : ∀ it env, compTurn (ge elt (cl0 tg iter ifs :: rest) sc gpos) 0 it .none env = cturn (ge elt (cl0 tg iter ifs :: rest) sc gpos) 0 iter.pos tg ifs (em env) it .none env)
    (hr : Room (k + 1) X.A) (hc : X.calm = true) (hN : X.N.Nodup) (TB : GxR.TabB X.base X.mg c P) (hcode : X.env.code = .ref c) (hco : sc.isCoroutine = false) (h0 : sc.names.lookup (".0" : Str) = some NameKind.local)
    (hi : PI X tg iter wi) (ok : BlkOk X.N X.env.scope sc own) (hg : Gens k X sc fun X' => PG X' tg g) (ht : Gens k X sc fun X' => PTs X' ifs tt)
    (ha : ∀ F p0 R, Gens k X sc fun X' => EmSeg X' p0 (X.A.in1.in1) R (YB X' p0 false F) (em X'.env) (act F)) (hs : ∀ x, genFold iter X.env x = pure x)
    (hb : bootBuiltins "all" = some (.builtin "all") := by decide +kernel)
    (he : starEach [ge elt (cl0 tg iter ifs :: rest) sc gpos] X.env = (false, eval (ge elt (cl0 tg iter ifs :: rest) sc gpos) X.env) :: starEach [] X.env := by rfl) :
    PE X (.Call (.Name "all" p) [ge elt (cl0 tg iter ifs :: rest) sc gpos] [] pos) (tGen P wi g tt act false (own.map (·.2))) := by
  refine ⟨fun pins s σ H Q I h => ?_⟩
  refine wpAny_Call_Name_kw (ld_blt I hgl hm hb ?_)
  refine PyProof.Rows.callWith_builtin1 ?_ he (by rfl)
  rw [he]
  show wpAny _ _ (spliced ((false, eval (ge elt (cl0 tg iter ifs :: rest) sc gpos) X.env) :: backTo pos (starEach [] X.env))) _ _ s
  refine Calls.spliced_cons (gen_made ct hr hc hN TB hcode hco h0 hi ok hg ht ha hs I h fun B p0 gi n s5 a1 a2 a3 a4 a5 back => ?_)
  refine Calls.spliced_nil ?_
  exact call_allG hr.hd hr.depth a1 a2 a3 a4 a5 (fun pins' σ' H' s' hp J f => ⟨.bl false, H', back _ _ _ _ J, rfl, f⟩) fun pins' σ' H' s' hp J f => ⟨.bl true, H', back _ _ _ _ J, rfl, f⟩
/-! the acts -/
theorem ga_1 {elt : Expr} {te : TE} {sc : Scope} {stop : Bool} {k : Nat} (hco : sc.isCoroutine = false) (he : Gens k X sc fun X' => PE X' elt te) :
    ∀ F p0 R, Gens k X sc fun X' => EmSeg X' p0 (X.A.in1.in1) R (YB X' p0 stop F) (emY elt X'.env) (gYield te (ylB stop F)) :=
  fun F p0 R s H C cl code fp room => em_Y rfl hco (he s H C cl code fp room)
theorem ga_2 {elt t1 i1 t2 i2 : Expr} {f1 f2 : List Expr} {gpos : Pos} {te : TE} {wi2 : TI} {g2 : TG} {tt2 : TT} {sc : Scope} {stop : Bool} {k : Nat} (hco : sc.isCoroutine = false) (hc : X.calm = true) (hi2 : Gens k X sc fun X' => PI X' t2 i2 wi2) (hg2 : Gens k X sc fun X' => PG X' t2 g2)
    (ht2 : Gens k X sc fun X' => PTs X' f2 tt2) (he : Gens k X sc fun X' => PE X' elt te) (hs2 : Gens k X sc fun X' => ∀ x, foldedSetIterable i2 X'.env x = pure x) :
    ∀ F p0 R, Gens k X sc fun X' => EmSeg X' p0 (X.A.in1.in1) R (YB X' p0 stop F) (emG (ge elt [cl0 t1 i1 f1, cl0 t2 i2 f2] sc gpos) i2 1 .none X'.env) (gFor wi2 g2 tt2 (gYield te (ylB stop F))) :=
  fun F p0 R s H C cl code fp room => em_For (d := 0) rfl (fun it => gt2b ..) hc rfl (hi2 s H C cl code fp room) (hg2 s H C cl code fp room) (ht2 s H C cl code fp room) (em_Y rfl hco (he s H C cl code fp room)) (hs2 s H C cl code fp room)
theorem ga_3 {elt t1 i1 t2 i2 t3 i3 : Expr} {f1 f2 f3 : List Expr} {gpos : Pos} {te : TE} {wi2 wi3 : TI} {g2 g3 : TG} {tt2 tt3 : TT} {sc : Scope} {stop : Bool} {k : Nat} (hco : sc.isCoroutine = false) (hc : X.calm = true) (hi2 : Gens k X sc fun X' => PI X' t2 i2 wi2) (hg2 : Gens k X sc fun X' => PG X' t2 g2)
    (ht2 : Gens k X sc fun X' => PTs X' f2 tt2) (hi3 : Gens k X sc fun X' => PI X' t3 i3 wi3) (hg3 : Gens k X sc fun X' => PG X' t3 g3) (ht3 : Gens k X sc fun X' => PTs X' f3 tt3) (he : Gens k X sc fun X' => PE X' elt te)
    (hs2 : Gens k X sc fun X' => ∀ x, foldedSetIterable i2 X'.env x = pure x) (hs3 : Gens k X sc fun X' => ∀ x, foldedSetIterable i3 X'.env x = pure x) :
    ∀ F p0 R, Gens k X sc fun X' => EmSeg X' p0 (X.A.in1.in1) R (YB X' p0 stop F) (emG (ge elt [cl0 t1 i1 f1, cl0 t2 i2 f2, cl0 t3 i3 f3] sc gpos) i2 1 .none X'.env) (gFor wi2 g2 tt2 (gFor wi3 g3 tt3 (gYield te (ylB stop F)))) :=
  fun F p0 R s H C cl code fp room => em_For (d := 0) rfl (fun it => gt3b ..) hc rfl (hi2 s H C cl code fp room) (hg2 s H C cl code fp room) (ht2 s H C cl code fp room)
    (em_For (d := 1) rfl (fun it => gt3c ..) hc rfl (hi3 s H C cl code fp room) (hg3 s H C cl code fp room) (ht3 s H C cl code fp room) (em_Y rfl hco (he s H C cl code fp room)) (hs3 s H C cl code fp room)) (hs2 s H C cl code fp room)
end
end G4

/-! G26: any, all on data. -/
namespace G4
open PySem PySem.Spec PyProof.Rows L2
def gStep (tg : Tv) (tt body : Ev Bool) (ρ : Env) (d : D) (μ : Mu) (rest : Mu → Ro Bool) : Ro Bool := match tg d ρ μ with
  | some (.ok ρ1 μ1) => match tt ρ1 μ1 with
    | some (.ok true μ2) => match body ρ1 μ2 with
      | some (.ok true μ3) => some (.ok true μ3)
      | some (.ok false μ3) => rest μ3
      | _ => none
    | some (.ok false μ2) => rest μ2
    | _ => none
  | _ => none
def gLpN (src : Src) (tg : Tv) (tt body : Ev Bool) (ρ : Env) : Nat → Nat → Mu → Ro Bool
  | 0, i => fun μ => match src.cur μ with
    | some ds => if ds.length ≤ i then some (.ok false μ) else none
    | none => none
  | n + 1, i => fun μ => match src.cur μ with
    | some ds => match ds[i]? with
      | some d => gStep tg tt body ρ d μ (gLpN src tg tt body ρ n (i + 1))
      | none => some (.ok false μ)
    | none => none
def gLpL (tg : Tv) (tt body : Ev Bool) (ρ : Env) : List D → Mu → Ro Bool
  | [] => fun μ => some (.ok false μ)
  | d :: ds => fun μ => gStep tg tt body ρ d μ (gLpL tg tt body ρ ds)
theorem gLpL_eq (tg : Tv) (tt body : Ev Bool) (ρ : Env) (ds : List D) : ∀ (n i : Nat), n + i = ds.length → gLpN (.its ds) tg tt body ρ n i = gLpL tg tt body ρ (ds.drop i)
  | 0, i, h => by
    have : ds.drop i = [] := List.drop_eq_nil_of_le (by omega)
    rw [this]
    funext μ
    simp only [gLpN, Src.cur, gLpL]
    rw [if_pos (by omega)]
  | n + 1, i, h => by
    have hi : i < ds.length := by omega
    have e : ds.drop i = ds[i] :: ds.drop (i + 1) := List.drop_eq_getElem_cons hi
    rw [e]
    funext μ
    simp only [gLpN, Src.cur, gLpL, List.getElem?_eq_getElem hi]
    rw [gLpL_eq tg tt body ρ ds n (i + 1) (by omega)]
def gRun (tg : Tv) (tt body : Ev Bool) (ρ : Env) (src : Src) (μ : Mu) : Ro Bool := match src with
  | .its ds => gLpL tg tt body ρ ds μ
  | .cel k => match viewL μ (.cell k) with
    | some ds => gLpN (.cel k) tg tt body ρ ds.length 0 μ
    | none => none
theorem gRun_n {tg : Tv} {tt body : Ev Bool} {ρ : Env} {src : Src} {μ : Mu} {r : Rs Bool} (e : gRun tg tt body ρ src μ = some r) : ∃ n, gLpN src tg tt body ρ n 0 μ = some r := by
  cases src with
  | its ds => exact ⟨ds.length, by rw [gLpL_eq tg tt body ρ ds ds.length 0 rfl]; exact e⟩
  | cel k =>
    simp only [gRun] at e
    split at e <;> try cases e
    exact ⟨_, e⟩
def bFor (fi : Ev Src) (tg : Tv) (tt body : Ev Bool) (vs : List Nat) : Ev Bool := fun ρ μ => (fi ρ μ).bnd (gRun tg tt body (wipeE ρ vs))
def bY1 (stop : Bool) (d : D) (μ : Mu) : Ro Bool := match d with
  | .bl b => some (.ok (b == stop) μ)
  | _ => none
def bY (stop : Bool) (te : Ev D) : Ev Bool := fun ρ μ => (te ρ μ).bnd (bY1 stop)
def gEnd (stop : Bool) (r : Ro Bool) : Ro D := match r with
  | some (.ok b μ) => some (.ok (.bl (if b = true then stop else !stop)) μ)
  | _ => none
def eGen (fi : Ev Src) (tg : Tv) (tt body : Ev Bool) (vs : List Nat) (stop : Bool) : Ev D := fun ρ μ => (fi ρ μ).bnd fun src μ1 => gEnd stop (gRun tg tt body (wipeE ρ vs) src μ1)
/-- how many items are handed out at most -/
def gCntN (src : Src) (tg : Tv) (tt body : Ev Bool) (cnt : Env → Mu → Nat) (ρ : Env) : Nat → Nat → Mu → Nat
  | 0, _ => fun _ => 0
  | n + 1, i => fun μ => match src.cur μ with
    | some ds => match ds[i]? with
      | some d => match tg d ρ μ with
        | some (.ok ρ1 μ1) => match tt ρ1 μ1 with
          | some (.ok true μ2) => cnt ρ1 μ2 + (match body ρ1 μ2 with
            | some (.ok false μ3) => gCntN src tg tt body cnt ρ n (i + 1) μ3
            | _ => 0)
          | some (.ok false μ2) => gCntN src tg tt body cnt ρ n (i + 1) μ2
          | _ => 0
        | _ => 0
      | none => 0
    | none => 0
section
variable {G : Gx} {n0 : Nat} {W : WX}
theorem Vr.own {K : PySem.W.Frag} {w : Hw} {ρ : Env} {σ0 σ : L2.St} {vs : List Nat} (h : Vr K w ρ σ0) (e : L2.wipe σ vs = L2.wipe σ0 vs) : Vr K w (wipeE ρ vs) σ := by
  have hl : σ.length = σ0.length := by have := congrArg List.length e; rwa [wipe_length, wipe_length] at this
  refine ⟨by rw [wipeE_length, hl]; exact h.len, fun i d q => ?_⟩
  obtain ⟨q1, q2⟩ := wipeE_some q
  obtain ⟨v, hv, fr⟩ := h.at_ i d q1
  refine ⟨v, ?_, fr⟩
  rw [← wipe_out (σ := σ) q2, e, wipe_out q2]
  exact hv
/-- the act does what the body tells -/
def DGA (G : Gx) (n0 : Nat) (act : (Hp → Prop) → GAct) (body : Ev Bool) (cnt : Env → Mu → Nat) (vs : List Nat) : Prop := ∀ w ρ μ σ, Mc G w μ → Vr G.K w ρ σ → n0 ≤ μ.length → ∀ b μ', body ρ μ = some (.ok b μ') → ∀ n, cnt ρ μ ≤ n → ∀ (F : Hp → Prop) (N : Nat → L2.St → Hp → Prop),
  (b = true → ∀ w', Post G n0 w μ w' μ' → F w'.H) → (b = false → ∀ w' σ' n', Post G n0 w μ w' μ' → n - cnt ρ μ ≤ n' → wipe σ' vs = wipe σ vs → N n' σ' w'.H) → act F n σ w.H N
theorem dga_Y {te : TE} {fe : Ev D} {stop : Bool} {vs : List Nat} (he : DE G n0 W0 te fe) : DGA G n0 (fun F => gYield te (ylB stop F)) (bY stop fe) (fun _ _ => 1) vs := by
  intro w ρ μ σ c vr hn b μ' e n hle F N hF hN
  have hle : 1 ≤ n := hle
  rcases Ro.bnd_some e with ⟨d, μ1, e1, e2⟩ | ⟨x, μ1, e1, e2⟩
  · unfold bY1 at e2
    split at e2 <;> cases e2
    rename_i b'
    refine he w ρ μ σ c vr hn _ e1 _ fun w1 y p r => ?_
    have r : y = .bl b' := r
    subst r
    refine ⟨n - 1, by omega, b', rfl, ?_⟩
    by_cases hb : b' = stop
    · subst hb
      rw [if_pos rfl]
      exact hF (by simp) w1 p
    · rw [if_neg hb]
      exact hN (by simpa using hb) w1 σ (n - 1) p (Nat.le_refl _) rfl
  · cases e2
theorem gloop_ok {w : Hw} {ρ : Env} {μ μ' : Mu} {σ0 σ : L2.St} {g : TG} {t : TT} {tg : Tv} {ft body : Ev Bool} {act : (Hp → Prop) → GAct} {cnt : Env → Mu → Nat} {src : Src} {J : It} {vs : List Nat} {k n : Nat} {b : Bool} {F : Hp → Prop} {N : Nat → L2.St → Hp → Prop}
    (hg : DG G n0 W0 g tg) (ho : Own g vs) (hm : Mono g) (ht : DT G n0 W0 t ft) (ha : DGA G n0 act body cnt vs) (c : Mc G w μ) (vr : Vr G.K w ρ σ0) (hw : wipe σ vs = wipe σ0 vs) (hn : n0 ≤ μ.length) (y : Yl G w src J)
    (e : gLpN src tg ft body (wipeE ρ vs) k 0 μ = some (.ok b μ')) (hle : gCntN src tg ft body cnt (wipeE ρ vs) k 0 μ ≤ n)
    (hF : b = true → ∀ w', Post G n0 w μ w' μ' → F w'.H) (hN : b = false → ∀ w' σ' n', Post G n0 w μ w' μ' → n - gCntN src tg ft body cnt (wipeE ρ vs) k 0 μ ≤ n' → wipe σ' vs = wipe σ0 vs → N n' σ' w'.H) :
    gLoop J g t (act F) N n σ w.H := by
  generalize hC : gCntN src tg ft body cnt (wipeE ρ vs) k 0 μ = C at hle hN
  refine ⟨fun i m n1 σ' H' => ∃ w' μ1, w'.H = H' ∧ Post G n0 w μ w' μ1 ∧ wipe σ' vs = wipe σ0 vs ∧ gLpN src tg ft body (wipeE ρ vs) m i μ1 = some (.ok b μ') ∧ (n - C) + gCntN src tg ft body cnt (wipeE ρ vs) m i μ1 ≤ n1,
    ⟨k, w, μ, rfl, .refl c, hw, e, by rw [hC]; omega⟩, ?_⟩
  rintro i m n1 σ' H' ⟨w', μ1, rfl, p, hw', e', hb'⟩
  have hn1 := p.nn hn
  cases m with
  | zero =>
    simp only [gLpN] at e'
    split at e' <;> try cases e'
    rename_i ds hd
    split at e' <;> rename_i hl <;> cases e'
    exact .inl ⟨(y w' _ p.ex.e0 p.mc ds hd i).2 hl, hN rfl w' σ' n1 p (by omega) hw'⟩
  | succ m =>
    simp only [gLpN] at e'
    simp only [gCntN] at hb'
    split at e' <;> try cases e'
    rename_i ds hd
    rw [hd] at hb'
    simp only at hb'
    obtain ⟨y1, y2⟩ := y w' μ1 p.ex.e0 p.mc ds hd i
    split at e'
    · rename_i d hdi
      rw [hdi] at hb'
      simp only at hb'
      obtain ⟨go, yl⟩ := y1 d hdi
      refine .inr ⟨go, fun n2 σ2 H2 => ∃ w' μ1, w'.H = H2 ∧ Post G n0 w μ w' μ1 ∧ wipe σ2 vs = wipe σ0 vs ∧ gLpN src tg ft body (wipeE ρ vs) m (i + 1) μ1 = some (.ok b μ') ∧ (n - C) + gCntN src tg ft body cnt (wipeE ρ vs) m (i + 1) μ1 ≤ n2,
        fun n2 σ2 H2 q => ⟨m, Nat.lt_succ_self m, q⟩, fun x H2 hy => ?_⟩
      obtain ⟨w2, rfl, x2, c2, fr⟩ := yl x H2 hy
      have p2 : Post G n0 w μ w2 μ1 := p.trans ⟨x2, c2, .refl _ _⟩
      unfold gStep at e'
      split at e' <;> try cases e'
      rename_i ρ1 μ2 h1
      rw [h1] at hb'
      simp only at hb'
      refine hm _ _ _ _ _ (fun σ2 H2 q => q.2 q.1) (ho _ _ _ _ (hg w2 (wipeE ρ vs) μ1 σ' d x c2 ((vr.mono p2.ex).own hw') hn1 fr _ h1 (fun σ2 H3 => wipe σ2 vs = wipe σ' vs → t σ2 H3 fun b H4 => if b = true then act F n1 σ2 H4 _ else _) fun w3 σ3 p3 v3 hw3 => ?_))
      have p13 := p2.trans p3
      have hn3 := p13.nn hn
      split at e'
      · rename_i μ3 h2
        rw [h2] at hb'
        simp only at hb'
        refine ht w3 ρ1 μ2 σ3 p3.mc v3 hn3 _ h2 _ fun w4 b' p4 r4 => ?_
        have r4 : b' = true := r4
        subst r4
        rw [if_pos rfl]
        have p14 := p13.trans p4
        have hn4 := p14.nn hn
        split at e' <;> try cases e'
        · rename_i μ4 h3
          rw [h3] at hb'
          simp only at hb'
          refine ha w4 ρ1 μ3 σ3 p4.mc (v3.mono p4.ex) hn4 true _ h3 n1 (by omega) F _ (fun _ w5 p5 => hF rfl w5 (p14.trans p5)) fun z => by cases z
        · rename_i μ4 h3
          rw [h3] at hb'
          simp only at hb'
          refine ha w4 ρ1 μ3 σ3 p4.mc (v3.mono p4.ex) hn4 false μ4 h3 n1 (by omega) F _ (fun z => by cases z) fun _ w5 σ5 n5 p5 hn5 hw5 => ?_
          exact ⟨w5, μ4, rfl, p14.trans p5, hw5.trans (hw3.trans hw'), e', by omega⟩
      · rename_i μ3 h2
        rw [h2] at hb'
        simp only at hb'
        refine ht w3 ρ1 μ2 σ3 p3.mc v3 hn3 _ h2 _ fun w4 b' p4 r4 => ?_
        have r4 : b' = false := r4
        subst r4
        rw [if_neg Bool.false_ne_true]
        exact ⟨w4, μ3, rfl, p13.trans p4, hw3.trans hw', e', hb'⟩
      · cases e'
    · rename_i hdi
      cases e'
      exact .inl ⟨y2 (by simpa using hdi), hN rfl w' σ' n1 p (by omega) hw'⟩
open Classical in
/-- how many items an inner for hands out -/
noncomputable def cFor (fi : Ev Src) (tg : Tv) (ft body : Ev Bool) (cnt : Env → Mu → Nat) (vs : List Nat) : Env → Mu → Nat := fun ρ μ => match fi ρ μ with
  | some (.ok src μ1) => if h : ∃ k, gLpN src tg ft body (wipeE ρ vs) k 0 μ1 = gRun tg ft body (wipeE ρ vs) src μ1 then gCntN src tg ft body cnt (wipeE ρ vs) (Classical.choose h) 0 μ1 else 0
  | _ => 0
theorem dga_For {wi : TI} {g : TG} {t : TT} {fi : Ev Src} {tg : Tv} {ft body : Ev Bool} {act : (Hp → Prop) → GAct} {cnt : Env → Mu → Nat} {vs : List Nat} (hi : DI G n0 W0 wi fi) (hg : DG G n0 W0 g tg) (ho : Own g vs) (hm : Mono g) (ht : DT G n0 W0 t ft) (ha : DGA G n0 act body cnt vs) :
    DGA G n0 (fun F => gFor wi g t (act F)) (bFor fi tg ft body vs) (cFor fi tg ft body cnt vs) vs := by
  intro w ρ μ σ c vr hn b μ' e n hle F N hF hN
  rcases Ro.bnd_some e with ⟨src, μ1, e1, e2⟩ | ⟨x, μ1, e1, e2⟩
  · refine hi w ρ μ σ c vr hn _ e1 _ fun w1 J p1 y => ?_
    obtain ⟨k0, hk0⟩ := gRun_n e2
    have hex : ∃ k, gLpN src tg ft body (wipeE ρ vs) k 0 μ1 = gRun tg ft body (wipeE ρ vs) src μ1 := ⟨k0, hk0.trans e2.symm⟩
    have hc : cFor fi tg ft body cnt vs ρ μ = gCntN src tg ft body cnt (wipeE ρ vs) (Classical.choose hex) 0 μ1 := by
      unfold cFor
      rw [e1]
      simp only
      rw [dif_pos hex]
    rw [hc] at hle hN
    exact gloop_ok hg ho hm ht ha p1.mc (vr.mono p1.ex) rfl (p1.nn hn) y ((Classical.choose_spec hex).trans e2) hle (fun hb w' p' => hF hb w' (p1.trans p')) fun hb w' σ' n' p' h1 h2 => hN hb w' σ' n' (p1.trans p') h1 h2
  · cases e2
/-- wider: the act may change more -/
theorem DGA.wide {act : (Hp → Prop) → GAct} {body : Ev Bool} {cnt : Env → Mu → Nat} {vs us : List Nat} (h : DGA G n0 act body cnt vs) (hs : ∀ v ∈ vs, v ∈ us := by decide) : DGA G n0 act body cnt us := by
  intro w ρ μ σ c vr hn b μ' e n hle F N hF hN
  refine h w ρ μ σ c vr hn b μ' e n hle F N hF fun hb w' σ' n' p' h1 h2 => hN hb w' σ' n' p' h1 ?_
  have all : ∀ σ : L2.St, wipe (wipe σ vs) us = wipe σ us := by
    intro σ
    have go : ∀ us' : List Nat, (∀ u ∈ us', u ∈ us) → wipe (wipe σ us') us = wipe σ us := by
      intro us'
      induction us' with
      | nil => intro _; rfl
      | cons u us' ih =>
        intro h
        show wipe ((wipe σ us').set u none) us = wipe σ us
        rw [wipe_set_in (h u List.mem_cons_self)]
        exact ih fun x hx => h x (List.mem_cons_of_mem _ hx)
    exact go vs hs
  rw [← all σ', h2, all σ]
theorem grown_world {w : Hw} {μ : Mu} {T' : Addr → Prop} {H2 : Hp} (c : Mc G w μ) (gr : Grown w.T w.H T' H2) : Ex w ⟨w.N, w.A, H2, T'⟩ ∧ Mc G ⟨w.N, w.A, H2, T'⟩ μ := by
  have kN : ∀ a, w.N a → H2 a = w.H a := fun a h => by
    obtain ⟨o, e⟩ := c.old a h
    rw [e]
    exact gr.old a o (fun z => (c.tabN a z).1 h) e
  have kA : ∀ a, a ∈ w.A → H2 a = w.H a := fun a h => by
    obtain ⟨o, e⟩ := c.oldA a h
    rw [e]
    exact gr.old a o (fun z => (c.tabN a z).2 h) e
  have x : Ex w ⟨w.N, w.A, H2, T'⟩ := ⟨fun _ h => h, fun _ _ h => h, kN, fun a o e _ nt => gr.old a o nt e, fun _ h => .inl h, fun _ h => .inl h, gr.le, gr.new, gr.old2, fun a _ => ⟨gr.cod a, gr.tbl a⟩⟩
  refine ⟨x, c.len, c.nd, fun k m a hm ha => ?_, fun a h => ?_, fun a h => ?_, gr.ok, fun a ha => ?_, ⟨fun a ha => ?_, fun a P ha => ⟨gr.le a (c.tab0.cod a P ha).1, gr.cod a P (c.tab0.cod a P ha).2⟩⟩, fun a f z => (c.xd0 a f z).cut x.le x.keep⟩
  · obtain ⟨r, n⟩ := c.cell k m a hm ha
    exact ⟨r.mono x (kA a (List.mem_of_getElem? ha)), n⟩
  · obtain ⟨o, e⟩ := c.old a h
    exact ⟨o, (kN a h).trans e⟩
  · obtain ⟨o, e⟩ := c.oldA a h
    exact ⟨o, (kA a h).trans e⟩
  · rcases gr.new a ha with z | z
    · exact c.tabN a z
    · refine ⟨fun h => ?_, fun h => ?_⟩
      · obtain ⟨o, e⟩ := c.old a h
        rw [z] at e; cases e
      · obtain ⟨o, e⟩ := c.oldA a h
        rw [z] at e; cases e
  · obtain ⟨h1, ps, h2⟩ := c.tab0.tab a ha
    exact ⟨gr.le a h1, gr.tbl a ps h2⟩
theorem de_gen {wi : TI} {g : TG} {t : TT} {fi : Ev Src} {tg : Tv} {ft body : Ev Bool} {act : (Hp → Prop) → GAct} {cnt : Env → Mu → Nat} {vs : List Nat} {P : Addr} {stop : Bool} (hP : G.C.tabs P) (hi : DI G n0 W wi fi) (hg : DG G n0 W0 g tg) (ho : Own g vs) (hm : Mono g) (ht : DT G n0 W0 t ft) (ha : DGA G n0 act body cnt vs) :
    DE G n0 W (tGen P wi g t act stop vs) (eGen fi tg ft body vs stop) := by
  intro w ρ μ σ c vr hn r e Q fin
  rcases Ro.bnd_some e with ⟨src, μ1, e1, e2⟩ | ⟨x, μ1, e1, e2⟩
  · refine hi w ρ μ σ c vr hn _ e1 _ fun w1 J p1 y => ?_
    obtain ⟨hT, ps, hps⟩ := p1.mc.tab0.tab P hP
    refine ⟨w1.T, ps, p1.mc.tab, hT, hps, fun T' H2 gr => ?_⟩
    obtain ⟨x2, c2⟩ := grown_world p1.mc gr
    have p2 : Post G n0 w μ ⟨w1.N, w1.A, H2, T'⟩ μ1 := p1.trans ⟨x2, c2, .refl _ _⟩
    unfold gEnd at e2
    split at e2 <;> cases e2
    rename_i b μf h1
    obtain ⟨k, h2⟩ := gRun_n h1
    refine ⟨_, gloop_ok (w := ⟨w1.N, w1.A, H2, T'⟩) (σ0 := wipe σ vs) (ρ := wipeE ρ vs) (μ := μ1) (μ' := μf) (b := b) (k := k) (src := src) hg ho hm ht ha c2 ((vr.mono p2.ex).wipe vs) rfl (p2.nn hn) (fun w' μ' x' c' => y w' μ' (x2.e0.trans x') c') ?_ (Nat.le_refl _) (fun hb w' p' => ?_) fun hb w' σ' n' p' _ _ => ?_⟩
    · have : wipeE (wipeE ρ vs) vs = wipeE ρ vs := by
        apply List.ext_getElem?
        intro i
        have gen : ∀ (ρ : Env) (i : Nat), (wipeE ρ vs)[i]? = if i ∈ vs then (if i < ρ.length then some none else none) else ρ[i]? := by
          intro ρ i
          clear ho ha h1 h2 fin e vr
          induction vs with
          | nil => simp [wipeE]
          | cons v vs ih =>
            unfold wipeE
            rw [List.getElem?_set, ih, wipeE_length]
            by_cases hv : v = i
            · subst hv; simp
            · rw [if_neg hv]
              have : (i ∈ v :: vs) ↔ i ∈ vs := by simp [Ne.symm hv]
              simp only [this]
        rw [gen, gen, wipeE_length]
        split <;> rfl
      rw [this]
      exact h2
    · subst hb
      exact fin w' (.bl stop) (p2.trans p') rfl
    · subst hb
      exact fin w' (.bl (!stop)) (p2.trans p') rfl
  · subst e2
    exact hi w ρ μ σ c vr hn _ e1 _ fun w1 cls dx p x => fin w1 cls dx p x
end
end G4

/-! G27: defs with generator expressions, the law's end with tables; any, all evaluated. -/
namespace G4
open PySem PySem.Spec PyProof.Rows L2
/-- a def of the text with its code object -/
structure DefAtC (K : PySem.W.Frag) (mg : Str → Option Value) (x : Str) (st : Stmt) (ps : List Str) (c : Addr) : Prop where
  ex : ∃ (f : Addr) (oc : Value) (od : Option Addr) (kV doc pm : Value) (an : Option Addr) (ct : Value) (osl : Array (Option Value)),
    K.lookup f = some ⟨oc, od, .func (PySem.W.fnOf x x (defArgs st) (defBody st) (defScope st) .none kV doc pm an (.ref c) ct), osl⟩ ∧ PySem.W.codeIn K (.ref c) x = true ∧ PySem.W.keepIn K (.ref f) = true ∧ mg x = some (.ref f) ∧
    Binds K (PySem.W.fnOf x x (defArgs st) (defBody st) (defScope st) .none kV doc pm an (.ref c) ct) ps []
section
variable {P : Program} {w : World} {K : PySem.W.Frag} {mg : Str → Option Value} {base : Heap} {C : Ct}
theorem df_ofC {x : Str} {st : Stmt} {N ps : List Str} {k n : Nat} {c : Addr} {body : Nat → Sv} (T : DefAtC K mg x st ps c) (S : FnScope N ps (defScope st)) (hn : ps.length = n) (hN : n ≤ N.length)
    (h : ∀ (X : Cx) (f : Addr) (A : Around) (s : Shared) (H : Hp) (E : XK) (outer : List PySem.Env) (cdv : Value), X = (cxOf CX0 P w K mg base N x (defScope st) f (.ref c) A outer s H E).nox → Room k X.A →
      ∃ t, PSs X (defBody st) t ∧ ∀ n0, DS ⟨K, C⟩ n0 (fun cls dx _ H => E cls dx H) t (body n0)) : Df P w K mg base C (k + 1) x n (runD N.length body) := by
  obtain ⟨f, oc, od, kV, doc, pm, an, ct, osl, lk, hcd, hkp, hm, hb⟩ := T.ex
  refine ⟨f, _, ps, fn_of lk hcd S (fun vs H Q E q => by rw [spD_len q, hn]) fun A outer s H vs Q E hr q => ?_, hm, hkp, hb⟩
  obtain ⟨t, h1, h2⟩ := h _ f A s H E outer .none rfl hr
  exact ⟨t, h1.nox, def_reads h2 hN q⟩
theorem tabIn_mk {x : Str} {f c P : Addr} {oc : Value} {od : Option Addr} {fd : FuncData} {osl : Array (Option Value)} {ec : Value} {dd : Option Addr} {vs : Array Value} {sm : Array (Option Value)} (a : PySem.W.nsIn K mainGlobals x = some (some (.ref f))) (l : K.lookup f = some ⟨oc, od, .func fd, osl⟩)
    (e : fd.code = .ref c) (q : K.lookup c = some ⟨ec, dd, .fields vs, sm⟩) (p : vs[11]? = some (.ref P)) : PySem.W.tabIn K x = some (c, P) := by
  unfold PySem.W.tabIn
  rw [a]
  simp only [l, e, q, p]
end
theorem tabB_of {base : Heap} {mg : Str → Option Value} {c P : Addr} (h : LamX.TabB base mg c P) : GxR.TabB base mg c P := ⟨h.code, h.bm, h.gP⟩
theorem walk_tabs {l : PySem.W.OpenLaw} {q : Program} {loose : List Str} {XP : (Str → Option Value) → Heap → Prop} {YP : World → Heap → Prop} {d : DefRec} {K : Params → PySem.W.Frag} {k : Nat} {x : Str} (hn : l.most = some 63) (hdf : d.params.defaults = []) (hr : Room k callerA)
    (hY : ∀ (w : World) (h : Heap), YP w h → (K w.params).In h) (xs : List Str) (hx : ∀ x ∈ xs, ((recsOf q).find? (fun e => e.name == x)).isSome = true)
    (F : ∀ (w : World) (mg : Str → Option Value) (fa : Addr) (h : Heap), (K w.params).In h → h.Ns mainGlobals mg → mg d.name = some (.ref fa) →
      (∀ x ∈ xs, ∀ c P, PySem.W.tabIn (K w.params) x = some (c, P) → PySem.W.CodeHd h c P ∧ h.get? P = some { cls := .none, data := .fields #[] }) → LamX.LawAtS l w (K w.params) CX0 k 63 x mg fa h) :
    PySem.W.WalkO q loose XP YP l.row.toRowW d [] (fun f vs => PySem.call f vs) := by
  refine Att.attach_callB hn hdf fun w s₀ s₁ mg mb fa o pm cd doc a vs ns G Y ho hd hcd hmg hobj hints hlen hbits hg => ?_
  have KX := hY w _ Y
  obtain ⟨fd, cs, sp, hT, nT, C, hb, hsp, hF⟩ := F w mg fa _ KX G.T.g hmg fun x hm c P ht => by
    obtain ⟨dd, hdd⟩ := Option.isSome_iff_exists.mp (hx x hm)
    exact PySem.W.tab_of G.T KX hdd ht
  exact LamX.law_callTs KX G.T.g G.T.b G.T.builtins G.T.nolimit hg hT nT C G.T.bmain hobj hints (Nat.le_trans hlen (by decide)) hr hF hb (fun H hH hS => hsp H a ns hlen hbits hH hS) fun H e s' h => h
/-! any, all evaluated -/
section
variable {ρ : Env} {μ μ1 : Mu}
def gens (r : Ro Src) (tg : Tv) (tt body : Ev Bool) (ρ : Env) (stop : Bool) : Ro D := r.bnd fun src μ1 => gEnd stop (gRun tg tt body ρ src μ1)
@[simp] theorem eGen_ap (fi : Ev Src) (tg : Tv) (tt body : Ev Bool) (vs : List Nat) (stop : Bool) : eGen fi tg tt body vs stop ρ μ = gens (fi ρ μ) tg tt body (wipeE ρ vs) stop := rfl
/-- each turn tells a truth, nothing changes -/
theorem gLpL_map {α : Type} {tg : Tv} {tt body : Ev Bool} {ρ : Env} {μ : Mu} (e : α → D) (t f : α → Bool) : ∀ {xs : List α}, (∀ x ∈ xs, ∃ ρ1, tg (e x) ρ μ = some (.ok ρ1 μ) ∧ tt ρ1 μ = some (.ok (t x) μ) ∧ (t x = true → body ρ1 μ = some (.ok (f x) μ))) → gLpL tg tt body ρ (xs.map e) μ = some (.ok (xs.any fun x => t x && f x) μ)
  | [], _ => rfl
  | d :: ds, h => by
    obtain ⟨ρ1, e1, e2, e3⟩ := h d (by simp)
    have ih := gLpL_map (tg := tg) (tt := tt) (body := body) (ρ := ρ) (μ := μ) e t f (xs := ds) fun x hx => h x (by simp [hx])
    show gStep tg tt body ρ (e d) μ (gLpL tg tt body ρ (ds.map e)) = _
    simp only [gStep, e1, e2, List.any_cons]
    cases ht : t d with
    | false => simpa [ht] using ih
    | true =>
      simp only [e3 ht]
      cases hf : f d with
      | true => simp
      | false => simpa using ih
theorem gLpN_map {α : Type} {tg : Tv} {tt body : Ev Bool} {ρ : Env} {μ : Mu} {src : Src} {xs : List α} (e : α → D) (t f : α → Bool) (hc : src.cur μ = some (xs.map e)) (h : ∀ x ∈ xs, ∃ ρ1, tg (e x) ρ μ = some (.ok ρ1 μ) ∧ tt ρ1 μ = some (.ok (t x) μ) ∧ (t x = true → body ρ1 μ = some (.ok (f x) μ))) :
    ∀ (n i : Nat), n + i = xs.length → gLpN src tg tt body ρ n i μ = some (.ok ((xs.drop i).any fun x => t x && f x) μ)
  | 0, i, hi => by
    simp only [gLpN, hc]
    rw [if_pos (by rw [List.length_map]; omega), List.drop_eq_nil_of_le (by omega)]
    rfl
  | n + 1, i, hi => by
    have hl : i < xs.length := by omega
    have hg : (xs.map e)[i]? = some (e xs[i]) := by rw [List.getElem?_map, List.getElem?_eq_getElem hl]; rfl
    simp only [gLpN, hc, hg]
    obtain ⟨ρ1, e1, e2, e3⟩ := h _ (List.getElem_mem hl)
    rw [List.drop_eq_getElem_cons hl, List.any_cons]
    have ih := gLpN_map e t f hc h n (i + 1) (by omega)
    simp only [gStep, e1, e2]
    cases ht : t xs[i] with
    | false => simpa [ht] using ih
    | true =>
      simp only [e3 ht]
      cases hf : f xs[i] with
      | true => simp
      | false => simpa using ih
/-- .. the source a list or a cell -/
theorem gRun_map {α : Type} {tg : Tv} {tt body : Ev Bool} {ρ : Env} {μ : Mu} {src : Src} {xs : List α} (e : α → D) (t f : α → Bool) (hc : src.cur μ = some (xs.map e)) (h : ∀ x ∈ xs, ∃ ρ1, tg (e x) ρ μ = some (.ok ρ1 μ) ∧ tt ρ1 μ = some (.ok (t x) μ) ∧ (t x = true → body ρ1 μ = some (.ok (f x) μ))) :
    gRun tg tt body ρ src μ = some (.ok (xs.any fun x => t x && f x) μ) := by
  cases src with
  | its es =>
    have : es = xs.map e := Option.some.inj hc
    subst this
    exact gLpL_map e t f h
  | cel k =>
    have hv : viewL μ (.cell k) = some (xs.map e) := hc
    simp only [gRun, hv]
    have := gLpN_map e t f hc h xs.length 0 rfl
    rw [List.length_map]
    exact this
/-- one name, no test -/
theorem gRun_name {α : Type} {i : Nat} {body : Ev Bool} {ρ : Env} {μ : Mu} {src : Src} {xs : List α} (e : α → D) (f : α → Bool) (hc : src.cur μ = some (xs.map e)) (h : ∀ x ∈ xs, body (ρ.set i (some (e x))) μ = some (.ok (f x) μ)) :
    gRun (tName i) eYes body ρ src μ = some (.ok (xs.any f) μ) := by
  have := gRun_map (tg := tName i) (tt := eYes) (body := body) (ρ := ρ) e (fun _ => true) f hc fun x hx => ⟨_, rfl, rfl, fun _ => h x hx⟩
  simpa using this
/-- any(..), all(..), of what the turns tell -/
theorem gens_run {tg : Tv} {tt body : Ev Bool} {src : Src} {stop b : Bool} (h : gRun tg tt body ρ src μ = some (.ok b μ1)) : gens (some (.ok src μ)) tg tt body ρ stop = some (.ok (.bl (if b = true then stop else !stop)) μ1) := by
  show gEnd stop (gRun tg tt body ρ src μ) = _
  rw [h]
  rfl
theorem gens_any {α : Type} {i : Nat} {te : Ev D} {src : Src} {xs : List α} (e : α → D) (f : α → Bool) (hc : src.cur μ = some (xs.map e)) (h : ∀ x ∈ xs, te (ρ.set i (some (e x))) μ = some (.ok (.bl (f x)) μ)) : gens (some (.ok src μ)) (tName i) eYes (bY true te) ρ true = some (.ok (.bl (xs.any f)) μ) := by
  have := gens_run (stop := true) (gRun_name (i := i) (body := bY true te) (ρ := ρ) e f hc fun x hx => by
    show Ro.bnd _ _ = _
    rw [h x hx]
    show some (Rs.ok (f x == true) μ) = _
    simp)
  rw [this]
  cases xs.any f <;> rfl
theorem gens_all {α : Type} {i : Nat} {te : Ev D} {src : Src} {xs : List α} (e : α → D) (f : α → Bool) (hc : src.cur μ = some (xs.map e)) (h : ∀ x ∈ xs, te (ρ.set i (some (e x))) μ = some (.ok (.bl (f x)) μ)) : gens (some (.ok src μ)) (tName i) eYes (bY false te) ρ false = some (.ok (.bl (xs.all f)) μ) := by
  have := gens_run (stop := false) (gRun_name (i := i) (body := bY false te) (ρ := ρ) e (fun x => !f x) hc fun x hx => by
    show Ro.bnd _ _ = _
    rw [h x hx]
    show some (Rs.ok (f x == false) μ) = _
    cases f x <;> rfl)
  rw [this]
  have : xs.all f = !xs.any fun x => !f x := by
    clear hc h this
    induction xs with
    | nil => rfl
    | cons d ds ih => simp [List.any_cons, List.all_cons, ih]
  rw [this]
  cases xs.any fun x => !f x <;> rfl
def bYs (stop : Bool) (r : Ro D) : Ro Bool := r.bnd (bY1 stop)
@[simp] theorem bY_ap (stop : Bool) (te : Ev D) : bY stop te ρ μ = bYs stop (te ρ μ) := rfl
@[simp] theorem bYs_bl (stop b : Bool) : bYs stop (some (.ok (.bl b) μ)) = some (.ok (b == stop) μ) := rfl
@[simp] theorem bFor_ap (fi : Ev Src) (tg : Tv) (tt body : Ev Bool) (vs : List Nat) : bFor fi tg tt body vs ρ μ = Ro.bnd (fi ρ μ) (gRun tg tt body (wipeE ρ vs)) := rfl
@[simp] theorem cur_its (ds : List D) : Src.cur μ (.its ds) = some ds := rfl
end
/-! list(range(n)) -/
section
variable {G : Gx} {n0 : Nat} {W : WX}
noncomputable def lrg (d : D) (μ : Mu) : Ro D := match d with
  | .int n => if rOk n && small n.toNat then some (.ok (.lst (rngD 0 n.toNat)) μ) else none
  | _ => none
noncomputable def eLrg (f : Ev D) : Ev D := fun ρ μ => (f ρ μ).bnd lrg
theorem frs_rng {K : PySem.W.Frag} {w : Hw} (lo : Int) : ∀ (l : List Nat), Frs K w (l.map fun i => D.int (lo + (i : Nat))) (l.map fun i => V.int (lo + (i : Nat)))
  | [] => rfl
  | i :: l => ⟨_, _, rfl, rfl, frs_rng lo l⟩
theorem de_lrg {t : TE} {f : Ev D} (h : DE G n0 W t f) : DE G n0 W (tLstRg (tRg1 t)) (eLrg f) := fun w ρ μ σ c vr hn =>
  (h w ρ μ σ c vr hn).bnd (uu := fun x H1 (Q : VK) => ∃ n, x = V.int n ∧ (RgOk 0 n ∧ ∀ q, H1 q = none → Q (.ref q) (upd H1 q (.lst (rgV 0 n))))) fun w1 μ1 d x p1 r1 => by
    intro q e Q fin
    unfold lrg at e
    split at e <;> try cases e
    rename_i n
    split at e <;> rename_i hs <;> cases e
    rw [Bool.and_eq_true, rOk_iff] at hs
    have r1 : x = .int n := r1
    have hsm := small_ok hs.2
    rw [sizeLine_eq] at hsm
    refine ⟨n, r1, ⟨by omega, by omega, hs.1.1, hs.1.2, by simpa using hsm⟩, fun q hq => ?_⟩
    have : rgV 0 n = (List.range n.toNat).map fun i => V.int (0 + (i : Nat)) := by simp [rgV]
    rw [this]
    exact fin_fz p1.mc hq (fr_lst p1.mc hq (frs_rng 0 _)) fin
@[simp] theorem eLrg_ap {ρ : Env} {μ : Mu} (f : Ev D) : eLrg f ρ μ = Ro.bnd (f ρ μ) lrg := rfl
theorem lrg_ok {μ : Mu} {n : Int} (h : rOk n = true) (h2 : n ≤ 16777216) : lrg (.int n) μ = some (.ok (.lst (rngD 0 n.toNat)) μ) := by
  have : small n.toNat = true := by simp [small]; omega
  simp [lrg, h, this]
end
end G4

/-! G28: and, or, chains of tests whose first truth is known only as a Bool. -/
namespace G4
open PySem PySem.Spec PyProof.Rows L2
section
variable {ρ : Env} {μ μ1 : Mu}
def pick {α : Type} (b : Bool) (r s : Ro α) : Ro α := if b = true then r else s
@[simp] theorem pick_t {α : Type} (r s : Ro α) : pick true r s = r := rfl
@[simp] theorem pick_f {α : Type} (r s : Ro α) : pick false r s = s := rfl
@[simp] theorem pick_and (k m : Bool) : pick k (some (.ok (D.bl m) μ)) (some (.ok (D.bl false) μ)) = some (.ok (.bl (k && m)) μ) := by cases k <;> rfl
@[simp] theorem pick_or (k m : Bool) : pick k (some (.ok (D.bl true) μ)) (some (.ok (D.bl m) μ)) = some (.ok (.bl (k || m)) μ) := by cases k <;> rfl
@[simp] theorem pick_andB (k m : Bool) : pick k (some (Rs.ok m μ)) (some (.ok false μ)) = some (.ok (k && m) μ) := by cases k <;> rfl
@[simp] theorem pick_orB (k m : Bool) : pick k (some (Rs.ok true μ)) (some (.ok m μ)) = some (.ok (k || m) μ) := by cases k <;> rfl
theorem chain2_p (op' : D → D → Mu → Ro D) (b : D) (k : Bool) (h : Mu → Ro D) : chain2 op' b (some (.ok (.bl k) μ)) h = pick k (op2' op' b (h μ)) (some (.ok (.bl false) μ)) := by cases k <;> rfl
theorem andV_p (k : Bool) (h : Mu → Ro D) : andV (some (.ok (.bl k) μ)) h = pick k (h μ) (some (.ok (.bl false) μ)) := by cases k <;> rfl
theorem orV_p (k : Bool) (h : Mu → Ro D) : orV (some (.ok (.bl k) μ)) h = pick k (some (.ok (.bl true) μ)) (h μ) := by cases k <;> rfl
theorem and2_p (k : Bool) (h : Mu → Ro Bool) : and2 (some (.ok k μ)) h = pick k (h μ) (some (.ok false μ)) := by cases k <;> rfl
theorem or2_p (k : Bool) (h : Mu → Ro Bool) : or2 (some (.ok k μ)) h = pick k (some (.ok true μ)) (h μ) := by cases k <;> rfl
theorem pick_r {α : Type} {k : Bool} {r s : Ro α} {t : Ro α} (h : k = true → r = t) (h2 : k = false → s = t) : pick k r s = t := by
  cases k
  · exact h2 rfl
  · exact h rfl
theorem Sk.seq_ifsP {b : Bool} {r s : Ro Bool} {g h k : Sv} {Q : Fl → Prop} (ht : b = true → Sk (seqs (G4.ifs r ρ g h) k) Q) (hf : b = false → Sk (seqs (G4.ifs s ρ g h) k) Q) : Sk (seqs (G4.ifs (pick b r s) ρ g h) k) Q := by
  cases b
  · exact hf rfl
  · exact ht rfl
theorem Sk.ifsP {b : Bool} {r s : Ro Bool} {g h : Sv} {Q : Fl → Prop} (ht : b = true → Sk (G4.ifs r ρ g h) Q) (hf : b = false → Sk (G4.ifs s ρ g h) Q) : Sk (G4.ifs (pick b r s) ρ g h) Q := by
  cases b
  · exact hf rfl
  · exact ht rfl
end
end G4

/-! G29: rules of while, and of for over a list that may be written meanwhile. -/
namespace G4
open PySem PySem.Spec PyProof.Rows L2
section
variable {ρ : Env} {μ : Mu}
theorem turn_go {tg : Tv} {body rest : Sv} {d : D} {I : Env → Mu → Prop} {Q : Fl → Prop} (h : Go I Q (turn1 tg body d ρ μ)) (hr : ∀ ρ' μ', I ρ' μ' → ∃ fl, rest ρ' μ' = some fl ∧ Q fl) : ∃ fl, turn tg body d ρ μ rest = some fl ∧ Q fl := by
  unfold turn1 at h
  unfold turn
  split at h
  · rename_i ρ1 μ1 h1
    cases hb : body ρ1 μ1 with
    | none => rw [hb] at h; exact h.elim
    | some fl =>
      rw [hb] at h
      try simp only [h1, hb]
      cases fl with
      | nx a b => exact hr a b h
      | ct a b => exact hr a b h
      | bk a b => exact ⟨_, rfl, h⟩
      | rt a b => exact ⟨_, rfl, h⟩
      | ex a b c => exact ⟨_, rfl, h⟩
  · exact h.elim
/-- a for whose source holds the same items at each turn -/
theorem loopN_rule {tg : Tv} {body : Sv} {Q : Fl → Prop} {src : Src} {ds : List D} (I : Nat → Env → Mu → Prop) (hc : ∀ i ρ μ, I i ρ μ → src.cur μ = some ds)
    (step : ∀ i d ρ μ, ds[i]? = some d → I i ρ μ → Go (I (i + 1)) Q (turn1 tg body d ρ μ)) (done : ∀ ρ μ, I ds.length ρ μ → Q (.nx ρ μ)) :
    ∀ (n i : Nat) (ρ : Env) (μ : Mu), n + i = ds.length → I i ρ μ → ∃ fl, loopN src tg body n i ρ μ = some fl ∧ Q fl
  | 0, i, ρ, μ, hn, h => by
    have e := hc i ρ μ h
    refine ⟨.nx ρ μ, ?_, done ρ μ (by have : i = ds.length := by omega
                                      rw [← this]; exact h)⟩
    simp only [loopN, e]
    rw [if_pos (by omega)]
  | n + 1, i, ρ, μ, hn, h => by
    have e := hc i ρ μ h
    have hl : i < ds.length := by omega
    have hd : ds[i]? = some ds[i] := List.getElem?_eq_getElem hl
    simp only [loopN, e, hd]
    exact turn_go (step i _ ρ μ hd h) fun ρ' μ' h' => loopN_rule I hc step done n (i + 1) ρ' μ' (by omega) h'
theorem Sk.seq_loopN {tg : Tv} {body k : Sv} {Q : Fl → Prop} {c : Nat} {ds : List D} (I : Nat → Env → Mu → Prop) (h0 : I 0 ρ μ) (hc : ∀ i ρ μ, I i ρ μ → μ[c]? = some (some (.lst ds)))
    (step : ∀ i d ρ μ, ds[i]? = some d → I i ρ μ → Go (I (i + 1)) (Then Q k) (turn1 tg body d ρ μ)) (done : ∀ ρ μ, I ds.length ρ μ → Sk (k ρ μ) Q) : Sk (seqs (fors (some (.ok (.cel c) μ)) ρ tg body) k) Q := by
  obtain ⟨fl, e, h⟩ := loopN_rule (Q := Then Q k) (src := .cel c) (ds := ds) I (fun i ρ μ h => by simp [Src.cur, viewL, hc i ρ μ h]) step done ds.length 0 ρ μ rfl h0
  rw [fors_cel (hc 0 ρ μ h0), e]
  cases fl with
  | nx ρ μ => exact h
  | _ => exact ⟨_, rfl, h⟩
theorem Sk.loopC {tg : Tv} {body : Sv} {Q : Fl → Prop} {c : Nat} {ds : List D} (I : Nat → Env → Mu → Prop) (h0 : I 0 ρ μ) (hc : ∀ i ρ μ, I i ρ μ → μ[c]? = some (some (.lst ds)))
    (step : ∀ i d ρ μ, ds[i]? = some d → I i ρ μ → Go (I (i + 1)) Q (turn1 tg body d ρ μ)) (done : ∀ ρ μ, I ds.length ρ μ → Q (.nx ρ μ)) : Sk (fors (some (.ok (.cel c) μ)) ρ tg body) Q := by
  obtain ⟨fl, e, h⟩ := loopN_rule (Q := Q) (src := .cel c) (ds := ds) I (fun i ρ μ h => by simp [Src.cur, viewL, hc i ρ μ h]) step done ds.length 0 ρ μ rfl h0
  rw [fors_cel (hc 0 ρ μ h0), e]
  exact ⟨_, rfl, h⟩
/-- while: I counts the turns that are left -/
theorem wh_rule {k : Ev Bool} {body : Sv} {Q : Fl → Prop} (I : Nat → Env → Mu → Prop)
    (step : ∀ m ρ μ, I m ρ μ → ∃ b μ1, k ρ μ = some (.ok b μ1) ∧ (b = false → Q (.nx ρ μ1)) ∧ (b = true → ∃ m', m' < m ∧ Go (I m') Q (body ρ μ1))) :
    ∀ (n m : Nat) (ρ : Env) (μ : Mu), m < n → I m ρ μ → ∃ fl, loopW k body n ρ μ = some fl ∧ Q fl
  | 0, m, ρ, μ, hm, h => absurd hm (Nat.not_lt_zero _)
  | n + 1, m, ρ, μ, hm, h => by
    obtain ⟨b, μ1, e, hf, ht⟩ := step m ρ μ h
    simp only [loopW, e, thn_ok]
    cases b with
    | false => exact ⟨_, rfl, hf rfl⟩
    | true =>
      obtain ⟨m', hm', g⟩ := ht rfl
      simp only [if_true]
      cases hb : body ρ μ1 with
      | none => rw [hb] at g; exact g.elim
      | some fl =>
        rw [hb] at g
        cases fl with
        | nx a b => exact wh_rule I step n m' a b (by omega) g
        | ct a b => exact wh_rule I step n m' a b (by omega) g
        | bk a b => exact ⟨_, rfl, g⟩
        | rt a b => exact ⟨_, rfl, g⟩
        | ex a b c => exact ⟨_, rfl, g⟩
theorem Sk.seq_while {k : Ev Bool} {body s : Sv} {Q : Fl → Prop} {n : Nat} (I : Nat → Env → Mu → Prop) (m : Nat) (hm : m < n) (h0 : I m ρ μ)
    (step : ∀ m ρ μ, I m ρ μ → ∃ b μ1, k ρ μ = some (.ok b μ1) ∧ (b = false → Sk (s ρ μ1) Q) ∧ (b = true → ∃ m', m' < m ∧ Go (I m') (Then Q s) (body ρ μ1))) : Sk (seqs (loopW k body n ρ μ) s) Q := by
  obtain ⟨fl, e, h⟩ := wh_rule (Q := Then Q s) I step n m ρ μ hm h0
  rw [e]
  cases fl with
  | nx ρ μ => exact h
  | _ => exact ⟨_, rfl, h⟩
def augs (i : Nat) (op : D → D → Mu → Ro D) (o : Option (Option D)) (ρ : Env) (r : Ro D) : Option Fl := match o with
  | some (some a) => r.thn ρ fun b μ1 => (op a b μ1).thn ρ fun d μ2 => some (.nx (ρ.set i (some d)) μ2)
  | _ => none
/-- a comprehension with a test, nothing changes -/
theorem comps_fmap {α : Type} {mk : List D → Mu → Ro D} {k : Nat} {tt : Ev Bool} {te : Ev D} (e : α → D) (p : α → Bool) (g : α → D) {xs : List α} (ht : ∀ x ∈ xs, tt (ρ.set k (some (e x))) μ = some (.ok (p x) μ)) (hg : ∀ x ∈ xs, p x = true → te (ρ.set k (some (e x))) μ = some (.ok (g x) μ)) :
    comps mk (some (.ok (.its (xs.map e)) μ)) (tName k) tt te ρ = mk ((xs.filter p).map g) μ := by
  obtain ⟨ys, μ', e', rfl, rfl⟩ := comps_rule (mk := mk) (tg := tName k) (tt := tt) (te := te) (ρ := ρ) (ds := xs.map e) (μ := μ) (fun i μ' acc => μ' = μ ∧ acc = ((xs.take i).filter p).map g) ⟨rfl, by simp⟩ (by
    rintro i d μ' acc hd ⟨rfl, rfl⟩
    rw [List.getElem?_map] at hd
    cases hx : xs[i]? with
    | none => rw [hx] at hd; exact absurd hd (by simp)
    | some x =>
      rw [hx] at hd
      obtain rfl : e x = d := by simpa using hd
      have hm := List.mem_of_getElem? hx
      have tk : xs.take (i + 1) = xs.take i ++ [x] := by rw [List.take_add_one, hx]; rfl
      refine ⟨_, _, p x, _, rfl, ht x hm, fun hb => ⟨_, _, hg x hm hb, rfl, ?_⟩, fun hb => ⟨rfl, ?_⟩⟩
      · rw [tk, List.filter_append]
        simp [hb]
      · rw [tk, List.filter_append]
        simp [hb])
  rw [e', List.length_map, List.take_length]
@[simp] theorem sAug_ap {i : Nat} {op : D → D → Mu → Ro D} {f : Ev D} : sAug i op f ρ μ = augs i op ρ[i]? ρ (f ρ μ) := by
  unfold sAug augs
  cases ρ[i]? with
  | none => rfl
  | some o =>
    cases o with
    | none => rfl
    | some a => rfl
@[simp] theorem augs_ok {i : Nat} {op : D → D → Mu → Ro D} {a b : D} : augs i op (some (some a)) ρ (some (.ok b μ)) = (op a b μ).thn ρ fun d μ2 => some (.nx (ρ.set i (some d)) μ2) := rfl
end
end G4

/-! G30: max of a tuple of whole numbers; slices of lists. -/
namespace G4
open PySem PySem.Spec PyProof.Rows L2
/-- the greatest -/
def mxL : List Int → Int
  | [] => 0
  | [x] => x
  | x :: y :: ys => if mxL (y :: ys) > x then mxL (y :: ys) else x
theorem mxL_ge : ∀ {ns : List Int} {y : Int}, y ∈ ns → y ≤ mxL ns
  | [x], y, h => by
    have : y = x := by simpa using h
    subst this; exact Int.le_refl _
  | x :: z :: ys, y, h => by
    show y ≤ if mxL (z :: ys) > x then mxL (z :: ys) else x
    rcases List.mem_cons.mp h with e | e
    · subst e; split <;> omega
    · have := mxL_ge e
      split <;> omega
theorem mxL_mem : ∀ {ns : List Int}, ns ≠ [] → mxL ns ∈ ns
  | [x], _ => by simp [mxL]
  | x :: z :: ys, _ => by
    show (if mxL (z :: ys) > x then mxL (z :: ys) else x) ∈ _
    split
    · exact List.mem_cons_of_mem _ (mxL_mem (by simp))
    · exact List.mem_cons_self ..
theorem mxL_eq {ns : List Int} {m : Int} (h : m ∈ ns) (g : ∀ y, y ∈ ns → y ≤ m) : m = mxL ns := by
  have a := mxL_ge h
  have b := g _ (mxL_mem (by intro e; rw [e] at h; cases h))
  omega
def rMaxT (K : PySem.W.Frag) : List V → Hp → VK → Prop := fun xs H Q => ∃ (a : Addr) (ns : List Int), xs = [.ref a] ∧ SqT K H a (ns.map V.int) ∧ 0 < ns.length ∧ Q (.int (mxL ns)) H
section
variable {X : Cx}
theorem cr_maxT (hc : X.calm = true) : CallR X (.builtin "max") (rMaxT X.K) := by
  intro pins s σ H xs us Q I rx h
  obtain ⟨a, ns, rfl, hs, hne, q⟩ := h
  rw [Vals.ref1 rx]
  obtain ⟨its, r, ht, hz⟩ := I.tuple hs
  have hln : ns.length = its.length := by have := r.length; rwa [List.length_map] at this
  have hP : ∀ (i : Nat) (v : Value), its.toArray[i]? = some v → ∃ t, v = .int (ns.getD i 0) t := fun i v hv => by
    have hv : its[i]? = some v := by simpa using hv
    have hi : i < ns.length := by rw [hln]; exact (List.getElem?_eq_some_iff.mp hv).1
    obtain ⟨u, e, ru⟩ := r.get (i := i) (x := V.int ns[i]) (by rw [List.getElem?_map, List.getElem?_eq_getElem hi]; rfl)
    rw [hv] at e
    cases e
    rw [List.getD_eq_getElem?_getD, List.getElem?_eq_getElem hi]
    exact ru
  have hlt : a < s.heap.objs.size := by obtain ⟨_, e, _⟩ := ht; exact Heap.lt_size e
  refine call_max_walk (iter_tuple ht ?_)
  have ht2 : IsTup (s.heap.push { cls := .type "tuple_iterator", data := .fields #[.ref a, .int 0 0] }) a its.toArray := ht.keeps fun b o e => Heap.get?_push_of_some _ e
  refine ⟨s.heap.objs.size, [s.heap.objs.size, a], [s.heap.objs.size], its.toArray.size, fun i v => its.toArray[i]? = some v, _, fun i j => decide (ns.getD i 0 > ns.getD j 0), rfl, Walks.tuple (A := X.A.in1) (show X.A.in1.handled = none from I.ok.hd hc) _ a (Nat.ne_of_lt hlt) its.toArray, ?_, fun b hb => ?_, by simp; omega, CmpOf.ints_gt (fun i => ns.getD i 0) hP, fun v h' tk hv hk => ?_⟩
  · refine ⟨⟨_, Heap.get?_push_size _ rfl, rfl, rfl⟩, ?_⟩
    exact ht2
  · show b < (s.heap.push _).objs.size
    rw [Heap.size_push]
    rcases List.mem_cons.mp hb with z | z
    · rw [z]; exact Nat.lt_succ_self _
    · rw [List.mem_singleton.mp z]; exact Nat.lt_succ_of_lt hlt
  · obtain ⟨t, rfl⟩ := hP _ _ hv
    obtain ⟨m1', m2'⟩ := argBest_gt (fun i => ns.getD i 0) (its.toArray.size - 1)
    have m1 : argBest (fun i j => decide (ns.getD i 0 > ns.getD j 0)) (its.toArray.size - 1) ≤ its.toArray.size - 1 := m1'
    have m2 : ∀ j, j ≤ its.toArray.size - 1 → ns.getD j 0 ≤ ns.getD (argBest (fun i j => decide (ns.getD i 0 > ns.getD j 0)) (its.toArray.size - 1)) 0 := m2'
    have hk2 : ∀ b o, s.heap.get? b = some o → h'.get? b = some o := fun b o e => hk b o (fun z => by rw [List.mem_singleton.mp z] at e; exact absurd (Heap.lt_size e) (Nat.lt_irrefl _)) (Heap.get?_push_of_some _ e)
    have hsz : its.toArray.size = ns.length := by simp [hln]
    have hm : ns.getD (argBest (fun i j => decide (ns.getD i 0 > ns.getD j 0)) (its.toArray.size - 1)) 0 = mxL ns := mxL_eq (PySem.getD_mem (by omega)) fun y hy => by
      obtain ⟨j, hj, e⟩ := List.mem_iff_getElem.mp hy
      have z := m2 j (by omega)
      have e3 : ns.getD j 0 = y := by rw [List.getD_eq_getElem?_getD, List.getElem?_eq_getElem hj, ← e] <;> rfl
      rw [e3] at z
      exact z
    rw [hm]
    exact ⟨.int _, H, I.kept (t' := tk) hk2, ⟨t, rfl⟩, q⟩
end
section
variable {G : Gx} {n0 : Nat} {W : WX}
def maxT (d : D) (μ : Mu) : Ro D := match d with
  | .tup ds => match intsD ds with
    | some (n :: ns) => some (.ok (.int (mxL (n :: ns))) μ)
    | _ => none
  | _ => none
def oMaxT : List D → Mu → Ro D
  | [d], μ => maxT d μ
  | _, _ => none
theorem drn_maxT : DRn G n0 W (rMaxT G.K) oMaxT := by
  intro w μ σ as xs c hn r q e Q f
  unfold oMaxT at e
  split at e <;> try cases e
  rename_i d
  unfold maxT at e
  split at e <;> try cases e
  rename_i ds
  split at e <;> cases e
  rename_i n ns hns
  obtain ⟨v, rfl, h⟩ := frs1 r
  obtain ⟨a, vs, rfl, m, hH, rs⟩ := h
  have ev := intsD_rel hns rs
  subst ev
  exact ⟨a, n :: ns, rfl, .of hH, by simp, f w _ (.refl c) rfl⟩
def slL (d : D) (lo hi : Option Int) (μ : Mu) : Ro D := match viewL μ d with
  | some xs => some (.ok (.lst (cutD xs lo hi)) μ)
  | none => none
def slL2 (d : D) (l : Option Int) (r : Ro (Option Int)) : Ro D := r.bnd fun u μ3 => slL d l u μ3
def slL1 (d : D) (r : Ro (Option Int)) (h : Mu → Ro (Option Int)) : Ro D := r.bnd fun l μ2 => slL2 d l (h μ2)
def slL0 (r : Ro D) (g h : Mu → Ro (Option Int)) : Ro D := r.bnd fun d μ1 => slL1 d (g μ1) h
def eSlL (f : Ev D) (lo hi : Ev (Option Int)) : Ev D := fun ρ μ => slL0 (f ρ μ) (lo ρ) (hi ρ)
theorem de_slL {t : TE} {tl th : TO} {f : Ev D} {lo hi : Ev (Option Int)} (h : DE G n0 W t f) (hl : DP G n0 W tl lo) (hh : DP G n0 W th hi) : DE G n0 W (tSl (rSlL G.K) t tl th) (eSlL f lo hi) := by
  intro w ρ μ σ c vr hn
  refine (h w ρ μ σ c vr hn).bnd (uu := fun x H1 Q => tl σ H1 fun l H2 => th σ H2 fun u H3 => rSlL G.K x l u H3 Q) fun w1 μ1 d x p1 r1 => ?_
  refine (hl w1 ρ μ1 σ p1.mc (vr.mono p1.ex) (p1.nn hn)).bnd (uu := fun l H2 Q => th σ H2 fun u H3 => rSlL G.K x l u H3 Q) fun w2 μ2 l l' p2 r2 => ?_
  have r2 : l' = l := r2
  subst r2
  refine (hh w2 ρ μ2 σ p2.mc ((vr.mono p1.ex).mono p2.ex) (p2.nn (p1.nn hn))).bnd (uu := fun u H3 Q => rSlL G.K x l' u H3 Q) fun w3 μ3 u u' p3 r3 => ?_
  have r3 : u' = u := r3
  subst r3
  intro q e Q fin
  have rd := (r1.mono p2.ex).mono p3.ex
  unfold slL at e
  split at e <;> cases e
  rename_i xs hv
  obtain ⟨a, vs, rfl, hs, rs⟩ := view_L p3.mc rd hv
  exact ⟨a, vs, rfl, hs, fun p hp => fin_fz p3.mc hp (fr_lst p3.mc hp (cut_rel rs l' u')) fin⟩
variable {ρ : Env} {μ : Mu}
@[simp] theorem eSlL_ap (f : Ev D) (lo hi : Ev (Option Int)) : eSlL f lo hi ρ μ = slL0 (f ρ μ) (lo ρ) (hi ρ) := rfl
@[simp] theorem slL0_ok (d : D) (g h : Mu → Ro (Option Int)) : slL0 (some (.ok d μ)) g h = slL1 d (g μ) h := rfl
@[simp] theorem slL1_ok (d : D) (l : Option Int) (h : Mu → Ro (Option Int)) : slL1 d (some (.ok l μ)) h = slL2 d l (h μ) := rfl
@[simp] theorem slL2_ok (d : D) (l u : Option Int) : slL2 d l (some (.ok u μ)) = slL d l u μ := rfl
@[simp] theorem slL_lst (xs : List D) (l u : Option Int) : slL (.lst xs) l u μ = some (.ok (.lst (cutD xs l u)) μ) := rfl
theorem slL_cell {k : Nat} {xs : List D} (h : μ[k]? = some (some (.lst xs))) (l u : Option Int) : slL (.cell k) l u μ = some (.ok (.lst (cutD xs l u)) μ) := by
  unfold slL
  rw [viewL_cell h]
theorem oMaxT_ok {n : Int} {ns : List Int} : oMaxT [.tup ((n :: ns).map D.int)] μ = some (.ok (.int (mxL (n :: ns))) μ) := by
  unfold oMaxT maxT
  simp only [intsD_map]
end
end G4

/-! G31: defs that raise, try with one clause, isinstance of what was caught. -/
namespace G4
open PySem PySem.Spec PyProof.Rows L2
/-- the def x of n arguments means m; calls of it may raise -/
structure DfX (P : Program) (w : World) (K : PySem.W.Frag) (mg : Str → Option Value) (base : Heap) (C : Ct) (k : Nat) (x : Str) (n : Nat) (m : Fd) : Prop where
  ex : ∃ (f : Addr) (fd : FuncData) (ps : List Str), FnOk P w K mg base (L2.CX P w) k f fd ps (spD ⟨K, C⟩ n m) ∧ mg x = some (.ref f) ∧ PySem.W.keepIn K (.ref f) = true ∧ Binds K fd ps []
/-- a class of exceptions that are made with a text alone -/
structure ExT (K : PySem.W.Frag) (mg : Str → Option Value) (C : Ct) (x : Str) (a : Addr) : Prop where
  cls : C.cls x = .ref a
  g : mg x = some (.ref a)
  x : PySem.W.excIn K a [.type "ValueError", .type "Exception", .type "BaseException", .type "object"] "ValueError.__new__" = true
  k : PySem.W.keepIn K (.ref a) = true
  b : PySem.W.subIn K (.ref a) (.type "BaseException") = some true
  t : PySem.W.typeIn K (.ref a) = some (.type "type")
  e : ExcC K a
section
variable {P : Program} {w : World} {K : PySem.W.Frag} {mg : Str → Option Value} {base : Heap} {C : Ct}
theorem df_ofX {x : Str} {st : Stmt} {N ps : List Str} {k n : Nat} {body : Nat → Sv} (T : DefAt K mg x st ps) (S : FnScope N ps (defScope st)) (hn : ps.length = n) (hN : n ≤ N.length)
    (h : ∀ (X : Cx) (f : Addr) (A : Around) (s : Shared) (H : Hp) (E : XK) (outer : List PySem.Env) (cdv : Value), X = cxOf (L2.CX P w) P w K mg base N x (defScope st) f cdv A outer s H E → Room k X.A → Takes X (fun cls dx _ H => E cls dx H) → PassesOwn (model X.prog X.w) X.A X.env X.xe →
      ∃ t, PSs X (defBody st) t ∧ ∀ n0, DS ⟨K, C⟩ n0 (fun cls dx _ H => E cls dx H) t (body n0)) : DfX P w K mg base C (k + 1) x n (runD N.length body) := by
  obtain ⟨f, fd, F, hm, b⟩ := T.ex
  refine ⟨f, fd, ps, F.okX S (fun vs H Q E q => by rw [spD_len q, hn]) (fun cdv A outer s H vs Q E hr q => ?_), hm, F.kp, b⟩
  obtain ⟨t, h1, h2⟩ := h _ f A s H E outer cdv rfl hr (takes_of rfl rfl rfl rfl) (passes_of rfl)
  exact ⟨t, h1, def_reads h2 hN q⟩
theorem df_ofCX {x : Str} {st : Stmt} {N ps : List Str} {k n : Nat} {c : Addr} {body : Nat → Sv} (T : DefAtC K mg x st ps c) (S : FnScope N ps (defScope st)) (hn : ps.length = n) (hN : n ≤ N.length)
    (h : ∀ (X : Cx) (f : Addr) (A : Around) (s : Shared) (H : Hp) (E : XK) (outer : List PySem.Env) (cdv : Value), X = cxOf (L2.CX P w) P w K mg base N x (defScope st) f (.ref c) A outer s H E → Room k X.A → Takes X (fun cls dx _ H => E cls dx H) → PassesOwn (model X.prog X.w) X.A X.env X.xe →
      ∃ t, PSs X (defBody st) t ∧ ∀ n0, DS ⟨K, C⟩ n0 (fun cls dx _ H => E cls dx H) t (body n0)) : DfX P w K mg base C (k + 1) x n (runD N.length body) := by
  obtain ⟨f, oc, od, kV, doc, pm, an, ct, osl, lk, hcd, hkp, hm, hb⟩ := T.ex
  refine ⟨f, _, ps, fn_of lk hcd S (fun vs H Q E q => by rw [spD_len q, hn]) fun A outer s H vs Q E hr q => ?_, hm, hkp, hb⟩
  obtain ⟨t, h1, h2⟩ := h _ f A s H E outer .none rfl hr (takes_of rfl rfl rfl rfl) (passes_of rfl)
  exact ⟨t, h1, def_reads h2 hN q⟩
end
/-! raise -/
section
variable {X : Cx} {W : WX} {x m : Str} {a : Addr} {C : Ct} {j : Nat} {p p2 pos pos2 : Pos}
theorem ps_raiseT (hc : X.calm = true) (tk : Takes X W) (T : ExT X.K X.mg C x a) (hg : Gl X x) (hdb : (x == ("__debug__" : Str)) = false := by decide) : PS X (.Raise (some (.Call (.Name x p) [.Constant (.str m) j p2] [] pos)) none pos2) (fun _ σ H => W (C.cls x) none σ H) := by
  rw [T.cls]
  exact ps_raise hc tk (pmk_own PySem.F.excBase_ValueError T.x T.g T.k (raises_own T.b T.t) hg hdb)
end
section
variable {G : Gx} {n0 : Nat} {W : WX}
def sRaise (c : Str) : Sv := fun ρ μ => some (.ex ⟨c, []⟩ ρ μ)
theorem ds_raise {c : Str} : DS G n0 W (fun _ σ H => W (G.C.cls c) none σ H) (sRaise c) := by
  intro w ρ μ σ hc vr hn fl e E fin
  cases e
  exact fin w σ (G.C.cls c) none (.refl hc) vr ⟨rfl, rfl⟩
@[simp] theorem sRaise_ap {ρ : Env} {μ : Mu} (c : Str) : sRaise c ρ μ = some (.ex ⟨c, []⟩ ρ μ) := rfl
/-! try: .. except X as n: suite -/
def clr (i : Nat) : Fl → Option Fl
  | .nx ρ μ => some (.nx (ρ.set i none) μ)
  | .bk ρ μ => some (.bk (ρ.set i none) μ)
  | .ct ρ μ => some (.ct (ρ.set i none) μ)
  | .rt d μ => some (.rt d μ)
  | .ex _ _ _ => none
noncomputable def suiteR (i : Nat) (f : Addr → Option Fl) : Option Fl := open Classical in
  if h : ∃ fl, ∀ a, (f a).bind (clr i) = some fl then some h.choose else none
theorem suiteR_some {i : Nat} {f : Addr → Option Fl} {fl : Fl} (h : suiteR i f = some fl) : ∀ a, (f a).bind (clr i) = some fl := by
  unfold suiteR at h
  split at h
  · rename_i q
    cases h
    exact q.choose_spec
  · cases h
theorem suiteR_ok {i : Nat} {f : Addr → Option Fl} {fl : Fl} (h : ∀ a, (f a).bind (clr i) = some fl) : suiteR i f = some fl := by
  have q : ∃ fl, ∀ a, (f a).bind (clr i) = some fl := ⟨fl, h⟩
  unfold suiteR
  rw [dif_pos q]
  have := (q.choose_spec 0).symm.trans (h 0)
  exact this
noncomputable def sTryAs (names : List Str) (i : Nat) (body : Sv) (suite : Addr → Str → Sv) : Sv := fun ρ μ => match body ρ μ with
  | some (.ex x ρ1 μ1) => if x.cls ∈ names ∧ x.fs.isEmpty = true then suiteR i fun a => suite a x.cls (ρ1.set i (some (.exn a))) μ1 else none
  | r => r
theorem vr_unset {K : PySem.W.Frag} {w : Hw} {ρ : Env} {σ : L2.St} (v : Vr K w ρ σ) (i : Nat) : Vr K w (ρ.set i none) (σ.set i none) := by
  refine ⟨by rw [List.length_set, List.length_set]; exact v.len, fun j e q => ?_⟩
  by_cases h : i = j
  · subst h
    have hl : i < (ρ.set i none).length := (List.getElem?_eq_some_iff.mp q).1
    rw [List.length_set] at hl
    rw [List.getElem?_set_self hl] at q
    cases q
  · rw [List.getElem?_set_ne h] at q
    rw [List.getElem?_set_ne h]
    exact v.at_ j e q
theorem fin_clr {w : Hw} {μ : Mu} {i : Nat} {D : Ends} {f0 fl : Fl} (h : clr i f0 = some fl) (fin : FinS G n0 W w μ D fl) :
    FinS G n0 (fun _ _ _ _ => False) w μ { nx := fun σ' H' => D.nx (σ'.set i none) H', rt := D.rt, bk := fun σ' H' => D.bk (σ'.set i none) H', ct := fun σ' H' => D.ct (σ'.set i none) H' } f0 := by
  cases f0 <;> cases h
  · exact fun w' σ' p v => fin w' _ p (vr_unset v i)
  · exact fun w' σ' p v => fin w' _ p (vr_unset v i)
  · exact fun w' σ' p v => fin w' _ p (vr_unset v i)
  · exact fun w' v p r => fin w' v p r
theorem ds_try_as {tb : WX → TS} {body : Sv} {ts : Addr → Value → Option Addr → TS} {suite : Addr → Str → Sv} {i : Nat} {c0 : Value} (names : List Str) (hb : ∀ W', DS G n0 W' (tb W') body) (hex : ∀ c ∈ names, PySem.W.exmOne G.K (G.C.cls c) c0 = some true)
    (hs : ∀ c ∈ names, ∀ a, DS G n0 (fun _ _ _ _ => False) (ts a (G.C.cls c) none) (suite a c)) : DS G n0 W (fun D σ H => tb (wAs G.K c0 i ts (fun _ _ _ _ => False) D) D σ H) (sTryAs names i body suite) := by
  intro w ρ μ σ c vr hn fl e D fin
  unfold sTryAs at e
  cases hbd : body ρ μ with
  | none => rw [hbd] at e; cases e
  | some fb =>
    rw [hbd] at e
    refine hb _ w ρ μ σ c vr hn _ hbd D ?_
    cases fb with
    | nx ρ1 μ1 => cases e; exact fun w' σ' p v => fin w' σ' p v
    | bk ρ1 μ1 => cases e; exact fun w' σ' p v => fin w' σ' p v
    | ct ρ1 μ1 => cases e; exact fun w' σ' p v => fin w' σ' p v
    | rt d μ1 => cases e; exact fun w' v p r => fin w' v p r
    | ex x ρ1 μ1 =>
      have e : (if x.cls ∈ names ∧ x.fs.isEmpty = true then suiteR i fun a => suite a x.cls (ρ1.set i (some (.exn a))) μ1 else none) = some fl := e
      split at e <;> rename_i hx
      · intro w' σ' cls dx p v xr
        have hfs : x.fs = [] := by simpa using hx.2
        obtain ⟨rfl, xr⟩ := xr
        rw [hfs] at xr
        have xr : dx = none := xr
        subst xr
        refine ⟨true, hex _ hx.1, fun _ a _ => ?_, fun z => nomatch z⟩
        have es := suiteR_some e a
        cases hsu : suite a x.cls (ρ1.set i (some (.exn a))) μ1 with
        | none => rw [hsu] at es; cases es
        | some f0 =>
          rw [hsu] at es
          exact hs _ hx.1 a w' _ μ1 _ p.mc (v.set (i := i) (d := .exn a) (v := .ref a) rfl) (p.nn hn) _ hsu _ (fin_clr es (fin.post p))
      · cases e
/-! try: .. except X: suite -/
noncomputable def sTryO (names : List Str) (body : Sv) (suite : Str → Sv) : Sv := fun ρ μ => match body ρ μ with
  | some (.ex x ρ1 μ1) => if x.cls ∈ names ∧ x.fs.isEmpty = true then (match suite x.cls ρ1 μ1 with
    | some (.ex _ _ _) => none
    | r => r) else none
  | r => r
theorem fin_noex {w : Hw} {μ : Mu} {D : Ends} {fl : Fl} (h : ∀ x ρ μ, fl ≠ .ex x ρ μ) (fin : FinS G n0 W w μ D fl) : FinS G n0 (fun _ _ _ _ => False) w μ D fl := by
  cases fl with
  | ex x ρ μ => exact absurd rfl (h x ρ μ)
  | nx _ _ => exact fun w' σ' p v => fin w' σ' p v
  | bk _ _ => exact fun w' σ' p v => fin w' σ' p v
  | ct _ _ => exact fun w' σ' p v => fin w' σ' p v
  | rt _ _ => exact fun w' v p r => fin w' v p r
theorem ds_try_only {tb : WX → TS} {body : Sv} {ts : Addr → Value → Option Addr → TS} {suite : Str → Sv} {c0 : Value} (names : List Str) (hb : ∀ W', DS G n0 W' (tb W') body) (hex : ∀ c ∈ names, PySem.W.exmOne G.K (G.C.cls c) c0 = some true)
    (hs : ∀ c ∈ names, ∀ a, DS G n0 (fun _ _ _ _ => False) (ts a (G.C.cls c) none) (suite c)) : DS G n0 W (fun D σ H => tb (wOnly G.K c0 ts (fun _ _ _ _ => False) D) D σ H) (sTryO names body suite) := by
  intro w ρ μ σ c vr hn fl e D fin
  unfold sTryO at e
  cases hbd : body ρ μ with
  | none => rw [hbd] at e; cases e
  | some fb =>
    rw [hbd] at e
    refine hb _ w ρ μ σ c vr hn _ hbd D ?_
    cases fb with
    | nx ρ1 μ1 => cases e; exact fun w' σ' p v => fin w' σ' p v
    | bk ρ1 μ1 => cases e; exact fun w' σ' p v => fin w' σ' p v
    | ct ρ1 μ1 => cases e; exact fun w' σ' p v => fin w' σ' p v
    | rt d μ1 => cases e; exact fun w' v p r => fin w' v p r
    | ex x ρ1 μ1 =>
      have e : (if x.cls ∈ names ∧ x.fs.isEmpty = true then (match suite x.cls ρ1 μ1 with
        | some (.ex _ _ _) => none
        | r => r) else none) = some fl := e
      split at e <;> rename_i hx
      · intro w' σ' cls dx p v xr
        have hfs : x.fs = [] := by simpa using hx.2
        obtain ⟨rfl, xr⟩ := xr
        rw [hfs] at xr
        have xr : dx = none := xr
        subst xr
        refine ⟨true, hex _ hx.1, fun _ a _ => ?_, fun z => nomatch z⟩
        split at e
        · cases e
        · rename_i hne
          exact hs _ hx.1 a w' _ μ1 _ p.mc v (p.nn hn) _ e D (fin_noex (fun y ρ2 μ2 z => hne y ρ2 μ2 (by rw [e, z])) (fin.post p))
      · cases e
theorem kit_own {K : PySem.W.Frag} {a c : Addr} {b : Bool} (hc : PySem.W.isClsIn K c = true) (ht : PySem.W.typeIn K (.ref c) = some (.type "type")) (hr : PySem.W.subIn K (.ref a) (.ref a) = some true) (hs : PySem.W.subIn K (.ref a) (.ref c) = some b) : PySem.W.kitOne K (.ref a) (.ref c) = some b := by
  unfold PySem.W.kitOne
  split
  · rename_i h
    have h : Value.ref a = Value.ref c := by simpa using h
    cases h
    rw [← hs, hr]
  · unfold PySem.W.kitCls
    have hc : (PySem.W.clsIn K c).isSome = true := hc
    simp only [hc, ht]
    simpa using hs
/-- classes by name -/
def clsOf : List (Str × Value) → Str → Value
  | [], _ => .none
  | (y, v) :: l, x => if x == y then v else clsOf l x
/-! isinstance of what was caught -/
def eIsE (a : Addr) (b : Bool) (f : Ev D) : Ev D := fun ρ μ => (f ρ μ).bnd fun d μ1 => match d with
  | .exn a' => if a' = a then some (.ok (.bl b) μ1) else none
  | _ => none
def tIsE (K : PySem.W.Frag) (a : Addr) (cls : Value) (d : Option Addr) (aT : Addr) (te : TE) : TE := fun σ H Q => d = none ∧ ∃ E : Addr, cls = .ref E ∧ ExcC K E ∧ tCB (rIsE K E a) (tCons te (tCons (tC (.ref aT)) tNil)) σ H Q
theorem de_isE {a aT : Addr} {cls : Value} {b : Bool} {te : TE} {f : Ev D} {E : Addr} (hc : cls = .ref E) (hE : ExcC G.K E) (hk : PySem.W.kitOne G.K (.ref E) (.ref aT) = some b) (h : DE G n0 W te f) : DE G n0 W (tIsE G.K a cls none aT te) (eIsE a b f) := by
  intro w ρ μ σ c vr hn r e Q fin
  refine ⟨rfl, E, hc, hE, ?_⟩
  refine (h w ρ μ σ c vr hn).bnd (uu := fun x H1 Q => rIsE G.K E a [x, .ref aT] H1 Q) (fun w1 μ1 d x p1 r1 => ?_) _ e Q fin
  intro q e Q fin
  split at e <;> try cases e
  rename_i a'
  split at e <;> rename_i ha <;> cases e
  subst ha
  have r1 : x = .ref a' := r1
  exact ⟨.ref aT, .ref aT, b, by rw [r1], fun u z => z, hk, fin w1 _ (.refl p1.mc) rfl⟩
@[simp] theorem eIsE_ap {ρ : Env} {μ : Mu} (a : Addr) (b : Bool) (f : Ev D) : eIsE a b f ρ μ = Ro.bnd (f ρ μ) fun d μ1 => match d with
  | .exn a' => if a' = a then some (.ok (.bl b) μ1) else none
  | _ => none := rfl
end
section
variable {X : Cx} {a aT : Addr} {cls : Value} {d : Option Addr} {oe : Obj} {pn : List (Addr × Obj)} {e : Expr} {te : TE} {T : Str} {p p2 pos : Pos}
theorem pe_isE (hz : Zc cls d oe) (hf : ∃ vs, oe.data = .fields vs) (hg : Gl X "isinstance") (hm : X.mg "isinstance" = none) (hb : bootBuiltins "isinstance" = some (.builtin "isinstance")) (hgT : Gl X T) (hT : X.mg T = some (.ref aT)) (h : PE (X.suite a ((a, oe) :: pn)) e te) (hdb : (T == ("__debug__" : Str)) = false := by decide)
    (hst : starEach [e, .Name T p2] X.env = (false, eval e X.env) :: starEach [.Name T p2] X.env := by rfl) (hpl : (backTo pos (starEach [.Name T p2] X.env)).any (·.1) = false := by rfl) :
    PE (X.suite a ((a, oe) :: pn)) (.Call (.Name "isinstance" p) [e, .Name T p2] [] pos) (tIsE X.K a cls d aT te) := by
  refine ⟨fun pins s σ H Q I q => ?_⟩
  obtain ⟨rfl, E, rfl, hE, q⟩ := q
  exact (pe_callB (X := X.suite a ((a, oe) :: pn)) (call_isE hE hz hf) hg hm hb (pa_cons h (pa_cons (pe_glob (v := .ref aT) hgT hT rfl hdb) pa_nil (hs := rfl)) (hs := hst)) (he := hst) (hpl := hpl)).run pins s σ H Q I q
end
end G4

/-! G32: a tuple whose lists become data once it is made. -/
namespace G4
open PySem PySem.Spec PyProof.Rows L2
section
variable {G : Gx} {n0 : Nat} {W : WX}
def frzT (d : D) (μ : Mu) : Ro D := match d with
  | .tup ds => match frzs (frz 4) ds μ with
    | some (es, μ2) => some (.ok (.tup es) μ2)
    | none => none
  | _ => none
def eFrzT (f : Ev D) : Ev D := fun ρ μ => (f ρ μ).bnd frzT
theorem de_frzT {t : TE} {f : Ev D} (h : DE G n0 W t f) : DE G n0 W t (eFrzT f) := by
  intro w ρ μ σ c vr hn r e Q fin
  rcases Ro.bnd_some e with ⟨d, μ1, e1, e2⟩ | ⟨x, μ1, e1, e2⟩
  · refine h w ρ μ σ c vr hn _ e1 _ fun w1 v p r1 => ?_
    unfold frzT at e2
    split at e2 <;> try cases e2
    rename_i ds
    split at e2 <;> cases e2
    rename_i es μ2 hf
    obtain ⟨a, vs, rfl, n, hH, rs⟩ := r1
    obtain ⟨w2, hH2, x2, c2, k2, f2⟩ := frzs_ok (frz_ok 4) ds w1 μ1 vs es μ2 p.mc rs hf
    rw [← hH2]
    exact fin w2 (.ref a) (p.trans ⟨x2, c2, k2 n0⟩) ⟨a, vs, rfl, x2.le _ n, by rw [hH2]; exact hH, f2⟩
  · subst e2
    exact h w ρ μ σ c vr hn _ e1 _ fun w1 cls dx p x => fin w1 cls dx p x
def frzL (d : D) (μ : Mu) : Ro D := match d with
  | .lst ds => match frzs (frz 4) ds μ with
    | some (es, μ2) => some (.ok (.lst es) μ2)
    | none => none
  | _ => none
def eFrzL (f : Ev D) : Ev D := fun ρ μ => (f ρ μ).bnd frzL
theorem de_frzL {t : TE} {f : Ev D} (h : DE G n0 W t f) : DE G n0 W t (eFrzL f) := by
  intro w ρ μ σ c vr hn r e Q fin
  rcases Ro.bnd_some e with ⟨d, μ1, e1, e2⟩ | ⟨x, μ1, e1, e2⟩
  · refine h w ρ μ σ c vr hn _ e1 _ fun w1 v p r1 => ?_
    unfold frzL at e2
    split at e2 <;> try cases e2
    rename_i ds
    split at e2 <;> cases e2
    rename_i es μ2 hf
    obtain ⟨a, vs, rfl, n, hH, rs⟩ := r1
    obtain ⟨w2, hH2, x2, c2, k2, f2⟩ := frzs_ok (frz_ok 4) ds w1 μ1 vs es μ2 p.mc rs hf
    rw [← hH2]
    exact fin w2 (.ref a) (p.trans ⟨x2, c2, k2 n0⟩) ⟨a, vs, rfl, x2.le _ n, by rw [hH2]; exact hH, f2⟩
  · subst e2
    exact h w ρ μ σ c vr hn _ e1 _ fun w1 cls dx p x => fin w1 cls dx p x
@[simp] theorem eFrzL_ap {ρ : Env} {μ : Mu} (f : Ev D) : eFrzL f ρ μ = Ro.bnd (f ρ μ) frzL := rfl
theorem frzL_1 {μ μ2 : Mu} {k : Nat} {d e : D} (h : frz 4 (.cell k) μ = some (e, μ2)) (p : d.pure = true) : frzL (.lst [.cell k, d]) μ = some (.ok (.lst [e, d]) μ2) := by
  simp only [frzL, frzs, h, frz_pure 4 d μ2 p]
@[simp] theorem eFrzT_ap {ρ : Env} {μ : Mu} (f : Ev D) : eFrzT f ρ μ = Ro.bnd (f ρ μ) frzT := rfl
theorem frzT_1 {μ μ2 : Mu} {k : Nat} {d e : D} (h : frz 4 (.cell k) μ = some (e, μ2)) (p : d.pure = true) : frzT (.tup [.cell k, d]) μ = some (.ok (.tup [e, d]) μ2) := by
  simp only [frzT, frzs, h, frz_pure 4 d μ2 p]
theorem frz_cell {μ : Mu} {k : Nat} {xs : List D} (h : μ[k]? = some (some (.lst xs))) (p : pures xs = true) : frz 4 (.cell k) μ = some (.lst xs, μ.set k none) := by
  rw [frz]
  simp only [h]
  rw [frzs_pure (fun d μ => frz_pure 3 d μ) p]
end
end G4

/-! G33: l.insert(i, x). -/
namespace G4
open PySem PySem.Spec PyProof.Rows L2
abbrev rInsert : V → List V → Hp → VK → Prop := fun x vs H Q => ∃ (l : Addr) (xs : List V) (i : Int) (y : V), x = .ref l ∧ vs = [.int i, y] ∧ H l = some (.lst xs) ∧ xs.length < sizeLine ∧ 0 ≤ i ∧ i < 2 ^ 63 ∧ Q .non (upd H l (.lst (xs.take i.toNat ++ [y] ++ xs.drop i.toNat)))
section
variable {G : Gx} {n0 : Nat} {W : WX}
noncomputable def oInsert (n0 : Nat) : Nat → List D → List D → Mu → Ro D := fun k xs as μ => match as with
  | [.int i, d] => if (decide (xs.length < 16777216) && (decide (n0 ≤ k) || d.pure)) && (decide (0 ≤ i) && rOk i) then some (.ok .non (μ.set k (some (.lst (xs.take i.toNat ++ [d] ++ xs.drop i.toNat))))) else none
  | _ => none
theorem dm_insert : DM G n0 W rInsert (oInsert n0) := by
  intro w μ σ k a xs vs as us c hn hm ha h1 h2 r q e Q f
  unfold oInsert at e
  split at e <;> try cases e
  rename_i i d
  split at e <;> rename_i hs <;> cases e
  simp only [Bool.and_eq_true] at hs
  obtain ⟨⟨hs1, hs2⟩, h0, hr⟩ := hs
  have h0 : 0 ≤ i := of_decide_eq_true h0
  rw [rOk_iff] at hr
  obtain ⟨x, v, rfl, fi, fr⟩ := frs2 r
  have fi : x = .int i := fi
  subst fi
  refine ⟨a, vs, i, v, rfl, rfl, h1, by rw [h2.length]; exact small_ok' hs1, h0, by omega, ?_⟩
  refine f (w.wr a (.lst (vs.take i.toNat ++ [v] ++ vs.drop i.toNat))) .non (wr_lst (d := d) c hm ha (((h2.take _).append (Frs.one fr)).append (h2.drop _)) fun z hz => ?_) rfl
  rcases List.mem_append.mp hz with hz | hz
  · rcases List.mem_append.mp hz with hz | hz
    · exact .inl (List.mem_of_mem_take hz)
    · have : z = d := by simpa using hz
      subst this
      exact .inr hs2
  · exact .inl (List.mem_of_mem_drop hz)
theorem oInsert_ok {μ : Mu} {n0 k : Nat} {xs : List D} {i : Int} {d : D} (h : xs.length < 16777216) (p : (decide (n0 ≤ k) || d.pure) = true) (h0 : 0 ≤ i) (hr : rOk i = true) : oInsert n0 k xs [.int i, d] μ = some (.ok .non (μ.set k (some (.lst (xs.take i.toNat ++ [d] ++ xs.drop i.toNat))))) := by
  simp only [oInsert, p, decide_eq_true h, decide_eq_true h0, hr]
  rfl
end
end G4

/-! G34: sets of whole numbers that are kept: set(), {.. for ..}, add, in, sorted. -/
namespace G4
open PySem PySem.Spec PyProof.Rows L2
section
variable {P : Program} {w : World} {A : Around} {E : Value → Shared → Prop} {s : Shared} {a : Addr}
/-- sorted(set), any number of members (as HandS.Set's own, over the sort of any length) -/
theorem sorted_setB {S : Int → Bool} {n : Nat} {Q : Value → Shared → Prop} (R : SetR w s.heap a S n) (hh : A.handled = none) (hs : n ≤ sizeLine)
    (hQ : ∀ s' p (out : Array Value) (c : Nat) (ns : List Int), (∀ b o, s.heap.get? b = some o → s'.heap.get? b = some o) → s'.gens = s.gens → s'.os = s.os → s.heap.objs.size ≤ p →
      s'.heap.get? p = some (seqObj "list" out c) → IntsAre out.toList ns → ns.Pairwise (· < ·) → (∀ k, k ∈ ns ↔ S k = true) → ns.length = n → Q (.ref p) s') :
    wpAny (model P w) A (call (.builtin "sorted") [.ref a]) Q E s := by
  obtain ⟨o, es, ep, t, ho, hex, hd, g, nd, hm, hb, hf, hn, hr, hl⟩ := R
  refine Calls.call_function_entry kind_sorted plain_sorted entry_sorted (args_sorted1 _) ?_
  unfold Builtin.«sorted»
  refine wpAny_bind (m := checkCount "sorted" 1 1 _) (wpAny_pure ?_)
  refine wpAny_bind (collect_set (A := A.in1) hh ⟨o, ho, hex.1, hd⟩ hf hb hr hl fun s1 vs k1 hz g1 o1 pm => ?_)
  have hvl : vs.length = n := by rw [pm.length_eq, List.length_map, Array.length_toList]; exact hn
  have hI : IntsAre vs (vs.map Builtin.Re.reRawOf) := ints_of vs fun v hv => by
    obtain ⟨e, he, q⟩ := List.mem_map.mp (pm.mem_iff.mp hv)
    obtain ⟨k, tk, h1, _⟩ := g e he
    exact ⟨k, tk, by rw [← q]; exact h1⟩
  have pk : (vs.map Builtin.Re.reRawOf).Perm (es.toList.map L2.keyOf) := by
    have q := pm.map Builtin.Re.reRawOf
    rw [List.map_map] at q
    exact q
  refine wpAny_bind (wpAny_newList ?_ (by rw [hvl]; exact hs))
  have hoL : (s1.heap.push (seqObj "list" vs.toArray 0)).get? s1.heap.objs.size = some (seqObj "list" vs.toArray 0) := Heap.get?_push_size _ rfl
  refine wpAny_bind (wpAny_holding (wpAny_call_entry slot_list_sort ⟨_, hoL, rfl⟩ entry_list_sort
    (SrtO.list_sort_ord SrtO.swo_int hoL (by rw [hvl]; exact hs) (fun h2 => SrtO.ints_sortable hI h2) fun out h1 h2 => ⟨_, rfl, ?_⟩) (args_list_sort _)))
  obtain ⟨q1, q2, q3⟩ := SrtO.ints_out hI h1 h2
  obtain ⟨c, hc⟩ := sortedHeap_at (vs := vs) (out := out.toArray) hoL
  have pn : (out.map SrtO.iv).Perm (es.toList.map L2.keyOf) := q2.trans pk
  refine wpAny_pure ⟨_, rfl, hQ _ s1.heap.objs.size out.toArray c (out.map SrtO.iv) (fun b u e => ?_) g1 o1 hz hc q1 (lt_of_le_nodup _ q3 (pn.nodup_iff.mpr nd)) (fun k => by rw [pn.mem_iff, ← hm k]) ?_⟩
  · have q := k1 b u e
    have hlt := Heap.lt_size q
    show (sortedHeap (s1.heap.push (seqObj "list" vs.toArray 0)) s1.heap.objs.size vs out.toArray).get? b = some u
    rw [sortedHeap_old (Nat.ne_of_lt hlt) (by rw [size_push']; exact Nat.lt_succ_of_lt hlt)]
    exact Heap.get?_push_of_some _ q
  · rw [pn.length_eq, List.length_map, Array.length_toList]; exact hn
end
section
variable {X : Cx}
def rSortedSetB (w : World) : List V → Hp → VK → Prop := fun vs H Q => ∃ (a : Addr) (S : Int → Bool) (n : Nat), vs = [V.ref a] ∧ H a = some (SetO w a S n) ∧ n ≤ 4000 ∧
  ∀ (ns : List Int) (p : Addr), ns.Pairwise (· < ·) → (∀ k : Int, k ∈ ns ↔ S k = true) → ns.length = n → H p = none → Q (.ref p) (upd H p (.lst (ns.map V.int)))
theorem cr_sortedSetB (hc : X.calm = true) : CallR X (.builtin "sorted") (rSortedSetB X.w) := by
  intro pins s σ H vs us Q I r h
  obtain ⟨a, S, n, rfl, ha, h64, q⟩ := h
  have R := setO_get I ha
  rw [Vals.ref1 r]
  refine sorted_setB R (I.ok.hd hc) (by rw [sizeLine_eq]; omega) fun s' p out c ns k g o hp hg hi hs hm hl => ?_
  have hlen : (ns.map V.int).length ≤ sizeLine := by rw [List.length_map, hl, sizeLine_eq]; omega
  have hn : H p = none := I.hok.fresh hp
  have J : Inv X pins σ (upd H p (.lst (ns.map V.int))) { s with heap := s'.heap, gens := s'.gens, drawn := s'.drawn, toks := s'.toks } :=
    I.call (ch := []) (Un.laid k hp hn) (I.hok.laid k hp ⟨hlen, out.toList, c, vals_of_ints hi, hg⟩) (by rw [g]; exact I.bare) (fun _ z => nomatch z)
  have e : s' = { s with heap := s'.heap, gens := s'.gens, drawn := s'.drawn, toks := s'.toks } := by
    cases s'
    cases s
    cases o
    rfl
  rw [e]
  exact ⟨.ref p, _, J, rfl, q ns p hs hm hl hn⟩
end
section
variable {G : Gx} {n0 : Nat} {W : WX} {wd : World}
/-! set() -/
def eNewS : Ev D := fun _ μ => some (.ok (.cell μ.length) (μ ++ [some (.set [])]))
theorem de_newS (hw : G.C.wld = wd) : DE G n0 W (tCB (rSet0 wd) tNil) eNewS := by
  intro w ρ μ σ c vr hn r e Q f
  cases e
  subst hw
  exact ⟨rfl, fun p hp => fin_mk (m := .set []) c hn hp ⟨fun _ => false, 0, upd_same, Nat.le_refl _, fun k => by simp⟩ f⟩
/-! s.add(x) -/
def sadd2 (c : Nat) (as : List D) (μ : Mu) : Ro D := match as, μ[c]? with
  | [.int k], some (some (.set xs)) => if xs.length < 4000 then some (.ok .non (μ.set c (some (.set (xs ++ [k]))))) else none
  | _, _ => none
def sadd1 (r : Ro D) (k : Mu → Ro (List D)) : Ro D := r.bnd fun o μ1 => match o with
  | .cell c => (match μ1[c]? with
    | some (some (.set _)) => (k μ1).bnd (sadd2 c)
    | _ => none)
  | _ => none
def eSAdd (f : Ev D) (g : Ev (List D)) : Ev D := fun ρ μ => sadd1 (f ρ μ) (g ρ)
theorem de_sadd {to : TE} {t : TA} {f : Ev D} {g : Ev (List D)} (hw : G.C.wld = wd) (h : DE G n0 W to f) (k : DA G n0 W t g) : DE G n0 W (tSAdd wd to t) (eSAdd f g) := by
  intro w ρ μ σ c vr hn
  subst hw
  refine (h w ρ μ σ c vr hn).bnd (uu := fun x H1 (Q : VK) => (∃ a S n, x = V.ref a ∧ H1 a = some (SetO G.C.wld a S n)) ∧ t σ H1 fun xs H2 => rSAdd G.C.wld x xs H2 Q) fun w1 μ1 o x p1 r1 => ?_
  intro q e Q fin
  split at e <;> try cases e
  rename_i k'
  split at e <;> try cases e
  rename_i ys hm
  obtain ⟨a, rfl, ha⟩ := r1
  obtain ⟨⟨S, n, h1, _⟩, _⟩ := p1.mc.cell k' _ a hm ha
  refine ⟨⟨a, S, n, rfl, h1⟩, ?_⟩
  have := (k w1 ρ μ1 σ p1.mc (vr.mono p1.ex) (p1.nn hn)).bnd (R' := Fr G.K) (uu := fun xs H2 (Q : VK) => rSAdd G.C.wld (.ref a) xs H2 Q) (g := sadd2 k') fun w2 μ2 as us p2 r2 => ?_
  · exact this q e Q fin
  · intro q e Q fin
    unfold sadd2 at e
    split at e <;> try cases e
    rename_i i xs hm2
    split at e <;> rename_i hl <;> cases e
    have ha2 := p2.ex.pre _ _ ha
    obtain ⟨⟨S2, n2, g1, g2, g3⟩, _⟩ := p2.mc.cell k' _ a hm2 ha2
    obtain ⟨v, rfl, fr⟩ := frs1 r2
    have fr : v = .int i := fr
    subst fr
    refine ⟨a, i, S2, n2, rfl, rfl, g1, by unfold scanBound; omega, ?_⟩
    refine fin (w2.wr a _) .non ⟨Ex.wr p2.mc hm2 ha2, Mc.wr (m' := .set (xs ++ [i])) p2.mc hm2 ha2 ⟨_, _, upd_same, ?_, fun j => ?_⟩, Kp.wr fun _ _ _ _ => rfl⟩ rfl
    · rw [List.length_append, List.length_singleton]
      split <;> omega
    · show (S2 j || decide (j = i)) = _
      rw [g3 j]
      by_cases h1 : j ∈ xs <;> by_cases h2 : j = i <;> simp [h1, h2]
/-! x in s -/
def oSIn (neg : Bool) (a b : D) (μ : Mu) : Ro D := match a, b with
  | .int k, .cell c => (match μ[c]? with
    | some (some (.set xs)) => some (.ok (.bl (neg ^^ decide (k ∈ xs))) μ)
    | _ => none)
  | _, _ => none
theorem dr_sin (hw : G.C.wld = wd) : DR2 G n0 W (rSIn wd) (oSIn false) := by
  intro w μ σ a x b y c hn ra rb r e Q fin
  subst hw
  unfold oSIn at e
  split at e <;> try cases e
  rename_i k q
  split at e <;> try cases e
  rename_i xs hm
  obtain ⟨p, rfl, ha⟩ := rb
  obtain ⟨⟨S, n, h1, _, h3⟩, _⟩ := c.cell q _ p hm ha
  have ra : x = .int k := ra
  exact ⟨k, p, S, n, ra, rfl, h1, fin w _ (.refl c) (by rw [h3]; simp [Fr])⟩
theorem dr_snotin (hw : G.C.wld = wd) : DR2 G n0 W (rSNotIn wd) (oSIn true) := by
  intro w μ σ a x b y c hn ra rb r e Q fin
  subst hw
  unfold oSIn at e
  split at e <;> try cases e
  rename_i k q
  split at e <;> try cases e
  rename_i xs hm
  obtain ⟨p, rfl, ha⟩ := rb
  obtain ⟨⟨S, n, h1, _, h3⟩, _⟩ := c.cell q _ p hm ha
  have ra : x = .int k := ra
  exact ⟨k, p, S, n, ra, rfl, h1, fin w _ (.refl c) (by rw [h3]; simp [Fr])⟩
/-! sorted(s) -/
def srtV (d : D) (μ : Mu) : Ro D := match d with
  | .cell c => (match μ[c]? with
    | some (some (.set xs)) => if xs.length ≤ 4000 then some (.ok (.lst ((srt xs).map D.int)) μ) else none
    | _ => none)
  | _ => none
def eSrtV (f : Ev D) : Ev D := fun ρ μ => (f ρ μ).bnd srtV
theorem de_srtV {t : TE} {f : Ev D} (hw : G.C.wld = wd) (h : DE G n0 W t f) : DE G n0 W (tCB (rSortedSetB wd) (tCons t tNil)) (eSrtV f) := fun w ρ μ σ c vr hn =>
  (h w ρ μ σ c vr hn).bnd (uu := fun x H1 (Q : VK) => rSortedSetB wd [x] H1 Q) fun w1 μ1 d x p1 r1 => by
    intro q e Q fin
    subst hw
    unfold srtV at e
    split at e <;> try cases e
    rename_i k
    split at e <;> try cases e
    rename_i xs hm
    split at e <;> rename_i hl <;> cases e
    obtain ⟨a, rfl, ha⟩ := r1
    obtain ⟨⟨S, n, h1, h2, h3⟩, _⟩ := p1.mc.cell k _ a hm ha
    refine ⟨a, S, n, rfl, h1, by omega, fun ns p hs hmem hln hp => ?_⟩
    have e : ns = srt xs := sorted_ext hs (srt_sorted xs) fun k => by rw [hmem k, mem_srt, h3 k]; simp
    subst e
    exact fin_fz p1.mc hp (fr_lst p1.mc hp (frs_ints _)) fin
/-! {.. for ..} that is kept -/
def setR1 (n : Mu → Nat) (r : Ro (List Int)) : Ro D := match r with
  | some (.ok js μ) => if js.length ≤ 4000 then some (.ok (.cell μ.length) (μ ++ [some (.set js)])) else none
  | _ => none
def set1 (tg : Tv) (tt : Ev Bool) (body : Ev (List Int)) (ρ : Env) (s : Src) (μ : Mu) : Ro D := match s with
  | .its ds => setR1 List.length (compI tg tt body ρ ds μ)
  | .cel _ => none
def eSetC (fi : Ev Src) (tg : Tv) (tt : Ev Bool) (body : Ev (List Int)) (vs : List Nat) : Ev D := fun ρ μ => (fi ρ μ).bnd (set1 tg tt body (wipeE ρ vs))
theorem de_setC {wi : TI} {g : TG} {t : TT} {act : Act} {fi : Ev Src} {tg : Tv} {ft : Ev Bool} {body : Ev (List Int)} {vs : List Nat} (hw : G.C.wld = wd) (hi : DI G n0 W wi fi) (hg : DG G n0 W0 g tg) (ho : Own g vs) (hm : Mono g) (ht : DT G n0 W0 t ft) (ha : DAct G n0 wd act body) :
    DE G n0 W (tSetG wd wi g t act vs) (eSetC fi tg ft body vs) := by
  intro w ρ μ σ c vr hn r e Q fin
  rcases Ro.bnd_some e with ⟨src, μ1, e1, e2⟩ | ⟨x, μ1, e1, e2⟩
  · refine hi w ρ μ σ c vr hn _ e1 _ fun w1 J p1 y => ?_
    intro D hD
    unfold set1 at e2
    split at e2 <;> try cases e2
    rename_i ds
    unfold setR1 at e2
    split at e2 <;> try cases e2
    rename_i all μf h1
    split at e2 <;> rename_i hl <;> cases e2
    refine ⟨fun i m H' => ∃ w' μ2 ys zs, w'.H = H' ∧ m = (ds.drop i).length ∧ Ex w1 w' ∧ Mc G w' μ2 ∧ Kp n0 μ1 μ2 ∧ Hid w' D (SI wd D ys) ∧ compI tg ft body (wipeE ρ vs) (ds.drop i) μ2 = some (.ok zs μf) ∧ ys ++ zs = all, ?_, ?_⟩
    · obtain ⟨a, b, d⟩ := Hid.new (o := SI wd D []) p1.mc hD
      rw [← SI_nil]
      exact ⟨_, w1.wr D (SI wd D []), μ1, [], all, rfl, rfl, a, b, .refl _ _, d, h1, rfl⟩
    · rintro i m H' ⟨w', μ2, ys, zs, rfl, rfl, x', c', kp, h', e3, e4⟩
      obtain ⟨y1, y2⟩ := y w' μ2 x'.e0 c' ds rfl i
      cases hd : ds[i]? with
      | none =>
        have hle : ds.length ≤ i := by simpa using hd
        rw [List.drop_eq_nil_of_le hle] at e3
        cases e3
        rw [List.append_nil] at e4
        subst e4
        refine .inl ⟨y2 hle, ?_⟩
        obtain ⟨a, b, l⟩ := Hid.cel (m := .set ys) hD x' h' c' (by
          subst hw
          exact ⟨_, _, h'.at_, srt_len ys, fun k => rfl⟩)
        exact fin (w'.cel D) (.ref D) ⟨p1.ex.trans a, b, (p1.kp.trans kp).trans (.push (Nat.le_trans (p1.nn hn) kp.len) _)⟩ ⟨D, rfl, l⟩
      | some d =>
        have hil := (List.getElem?_eq_some_iff.mp hd).1
        have hdr : ds.drop i = d :: ds.drop (i + 1) := by
          rw [List.drop_eq_getElem_cons hil]
          congr 1
          rw [List.getElem?_eq_getElem hil] at hd
          exact Option.some.inj hd
        obtain ⟨go, yl⟩ := y1 d hd
        obtain ⟨N, hN⟩ : ∃ N : Hp → Prop, N = fun H' => ∃ w' μ2 ys zs, w'.H = H' ∧ (ds.drop (i + 1)).length = (ds.drop (i + 1)).length ∧ Ex w1 w' ∧ Mc G w' μ2 ∧ Kp n0 μ1 μ2 ∧ Hid w' D (SI wd D ys) ∧
          compI tg ft body (wipeE ρ vs) (ds.drop (i + 1)) μ2 = some (.ok zs μf) ∧ ys ++ zs = all := ⟨_, rfl⟩
        refine .inr ⟨go, N, fun H2 q => ?_, fun x H2 hy => ?_⟩
        · rw [hN] at q
          exact ⟨_, by rw [hdr]; exact Nat.lt_succ_self _, q⟩
        obtain ⟨w2, rfl, x2, c2, fr⟩ := yl x H2 hy
        have hn2 : n0 ≤ μ2.length := Nat.le_trans (p1.nn hn) kp.len
        rw [hdr] at e3
        unfold compI at e3
        split at e3 <;> try cases e3
        rename_i ρ1 μ3 h2
        have vr2 : Vr G.K w2 (wipeE ρ vs) (wipe σ vs) := (vr.mono (p1.ex.trans (x'.trans x2))).wipe vs
        refine hm _ _ _ _ _ (fun σ2 H2 q => ⟨q.1.trans (wipe_wipe σ vs), q.2⟩) (ho _ _ _ _ (hg w2 (wipeE ρ vs) μ2 (wipe σ vs) d x c2 vr2 hn2 fr _ h2 (fun σ2 H3 => t σ2 H3 fun b H4 => if b = true then act D σ2 H4 N else N H4) fun w3 σ3 p3 v3 => ?_))
        have hn3 := p3.nn hn2
        split at e3
        · rename_i μ4 h3
          refine ht w3 ρ1 μ3 σ3 p3.mc v3 hn3 _ h3 _ fun w4 b p4 r4 => ?_
          have r4 : b = true := r4
          subst r4
          rw [if_pos rfl]
          have hn4 := p4.nn hn3
          split at e3 <;> try cases e3
          rename_i js μ5 h4
          split at e3 <;> cases e3
          rename_i ks h5
          have x24 := (x2.trans p3.ex).trans p4.ex
          have hlen : ys.length + js.length ≤ 4000 := by
            have := congrArg List.length e4
            simp at this
            omega
          refine ha w1 w4 μ1 ρ1 μ4 σ3 ys js μ5 D N p1.mc hD (x'.trans x24) p4.mc (v3.mono p4.ex) hn4 (h'.ex x24) h4 hlen fun w5 a b c5 k5 f => ?_
          rw [hN]
          exact ⟨w5, μ5, ys ++ js, ks, rfl, rfl, a, c5, ((kp.trans p3.kp).trans p4.kp).trans k5, f, h5, by rw [← e4]; simp⟩
        · rename_i μ4 h3
          refine ht w3 ρ1 μ3 σ3 p3.mc v3 hn3 _ h3 _ fun w4 b p4 r4 => ?_
          have r4 : b = false := r4
          subst r4
          rw [if_neg Bool.false_ne_true]
          have x24 := (x2.trans p3.ex).trans p4.ex
          rw [hN]
          exact ⟨w4, μ4, ys, zs, rfl, rfl, x'.trans x24, p4.mc, (kp.trans p3.kp).trans p4.kp, h'.ex x24, e3, e4⟩
        · cases e3
  · subst e2
    exact hi w ρ μ σ c vr hn _ e1 _ fun w1 cls dx p x => fin w1 cls dx p x
/-! evaluation -/
variable {ρ : Env} {μ μ1 : Mu}
@[simp] theorem eNewS_ap : eNewS ρ μ = some (.ok (.cell μ.length) (μ ++ [some (.set [])])) := rfl
@[simp] theorem eSAdd_ap (f : Ev D) (g : Ev (List D)) : eSAdd f g ρ μ = sadd1 (f ρ μ) (g ρ) := rfl
theorem sadd1_ok {c : Nat} {k : Mu → Ro (List D)} {xs ys : List Int} {i : Int} (h : μ[c]? = some (some (.set xs))) (e : k μ = some (.ok [.int i] μ1)) (h2 : μ1[c]? = some (some (.set ys))) (hl : ys.length < 4000) : sadd1 (some (.ok (.cell c) μ)) k = some (.ok .non (μ1.set c (some (.set (ys ++ [i]))))) := by
  simp [sadd1, h, e, sadd2, h2, hl]
theorem oSIn_ok {c : Nat} {xs : List Int} (neg : Bool) (k : Int) (h : μ[c]? = some (some (.set xs))) : oSIn neg (.int k) (.cell c) μ = some (.ok (.bl (neg ^^ decide (k ∈ xs))) μ) := by
  simp [oSIn, h]
@[simp] theorem eSrtV_ap (f : Ev D) : eSrtV f ρ μ = Ro.bnd (f ρ μ) srtV := rfl
theorem srtV_ok {c : Nat} {xs : List Int} (h : μ[c]? = some (some (.set xs))) (hl : xs.length ≤ 4000) : srtV (.cell c) μ = some (.ok (.lst ((srt xs).map D.int)) μ) := by
  simp [srtV, h, hl]
@[simp] theorem eSetC_ap (fi : Ev Src) (tg : Tv) (tt : Ev Bool) (body : Ev (List Int)) (vs : List Nat) : eSetC fi tg tt body vs ρ μ = Ro.bnd (fi ρ μ) (set1 tg tt body (wipeE ρ vs)) := rfl
theorem set1_ok {tg : Tv} {tt : Ev Bool} {body : Ev (List Int)} {ds : List D} {js : List Int} (h : compI tg tt body ρ ds μ = some (.ok js μ1)) (hl : js.length ≤ 4000) : set1 tg tt body ρ (.its ds) μ = some (.ok (.cell μ1.length) (μ1 ++ [some (.set js)])) := by
  simp [set1, h, setR1, hl]
end
end G4

/-! G35: dicts whose keys are tuples, nested. -/
namespace G4
open PySem PySem.Spec PyProof.Rows L2
section
variable {G : Gx} {n0 : Nat} {W : WX} {wd : World}
def lkN (kvs : List (NestedKey × Int)) (k : NestedKey) : Option Int := (kvs.find? fun x => decide (x.1 = k)).map (·.2)
theorem lkN_look (xs : List Ent) (k : NestedKey) : lookN xs k = lkN (xs.map fun x => (x.1, x.2.2)) k := by
  unfold lookN lkN
  induction xs with
  | nil => rfl
  | cons x xs ih =>
    rw [List.map_cons]
    by_cases h : x.1 = k
    · rw [List.find?_cons_of_pos (by simpa using h), List.find?_cons_of_pos (by simpa using h)]; rfl
    · rw [List.find?_cons_of_neg (by simpa using h), List.find?_cons_of_neg (by simpa using h)]; exact ih
/-- a key that may be asked -/
def keyN (d : D) : Option NestedKey := match d, nkOf d with
  | .tup _, some k => if decide (k.depth ≤ 8) then some k else none
  | _, _ => none
theorem keyN_fr {K : PySem.W.Frag} {w : Hw} {d : D} {v : V} {k : NestedKey} (f : Fr K w d v) (h : keyN d = some k) : ∃ b, v = .ref b ∧ KeyO w.H k b ∧ EntF K w (k, b, 0) := by
  unfold keyN at h
  split at h
  · rename_i xs k' hk
    split at h <;> rename_i hd <;> cases h
    have hd : k.depth ≤ 8 := of_decide_eq_true hd
    obtain ⟨b, vs, rfl, r⟩ := f
    exact ⟨b, rfl, ⟨fr_key (d := .tup xs) ⟨b, vs, rfl, r⟩ hk, hd⟩, .tup xs, hk, hd, ⟨b, vs, rfl, r⟩⟩
  · cases h
theorem dng_of {w : Hw} {μ : Mu} {q : Nat} {kvs : List (NestedKey × Int)} {a : Addr} (c : Mc G w μ) (hm : μ[q]? = some (some (.dN kvs))) (ha : w.A[q]? = some a) (hl : kvs.length ≤ 1000000) :
    ∃ xs, DNg G.C.wld w.H a xs ∧ xs.map (fun x => (x.1, x.2.2)) = kvs ∧ ∀ x ∈ xs, EntF G.K w x := by
  obtain ⟨⟨xs, h, e, r⟩, _⟩ := c.cell q _ a hm ha
  refine ⟨xs, ⟨h, by rw [← e, List.length_map] at hl; exact hl, fun x hx => ?_⟩, e, r⟩
  obtain ⟨d, h1, h2, h3⟩ := r x hx
  exact ⟨fr_key h3 h1, h2⟩
/-! {} -/
def eNewN : Ev D := fun _ μ => some (.ok (.cell μ.length) (μ ++ [some (.dN [])]))
theorem de_newN (hw : G.C.wld = wd) : DE G n0 W (tDNNew wd) eNewN := by
  intro w ρ μ σ c vr hn r e Q f
  cases e
  subst hw
  exact fun p hp => fin_mk (m := .dN []) c hn hp ⟨[], upd_same, rfl, fun x hx => nomatch hx⟩ f
/-! k in d -/
def oDNIn (neg : Bool) (a b : D) (μ : Mu) : Ro D := match keyN a, b with
  | some k, .cell c => (match μ[c]? with
    | some (some (.dN kvs)) => if kvs.length ≤ 1000000 then some (.ok (.bl (neg ^^ (lkN kvs k).isSome)) μ) else none
    | _ => none)
  | _, _ => none
theorem dr_dnIn (neg : Bool) (hw : G.C.wld = wd) : DR2 G n0 W (rDNIn wd neg) (oDNIn neg) := by
  intro w μ σ a x b y c hn ra rb r e Q fin
  subst hw
  unfold oDNIn at e
  split at e <;> try cases e
  rename_i k q hk
  split at e <;> try cases e
  rename_i kvs hm
  split at e <;> rename_i hl <;> cases e
  obtain ⟨p, rfl, ha⟩ := rb
  obtain ⟨bb, rfl, ko, _⟩ := keyN_fr ra hk
  obtain ⟨xs, g, e, _⟩ := dng_of c hm ha hl
  exact ⟨p, bb, xs, k, rfl, rfl, g, ko, fin w _ (.refl c) (by rw [lkN_look, e]; simp [Fr])⟩
/-! d[k] -/
def dnget (d e : D) (μ : Mu) : Ro D := match d, keyN e with
  | .cell c, some k => (match μ[c]? with
    | some (some (.dN kvs)) => if kvs.length ≤ 1000000 then (match lkN kvs k with
      | some i => some (.ok (.int i) μ)
      | none => none) else none
    | _ => none)
  | _, _ => none
theorem de_dnGet {td ty : TE} {f g : Ev D} (hw : G.C.wld = wd) (h : DE G n0 W td f) (k : DE G n0 W ty g) : DE G n0 W (tDNGet wd td ty) (eOp dnget f g) := by
  intro w ρ μ σ c vr hn
  subst hw
  refine (h w ρ μ σ c vr hn).bnd (uu := fun x H (Q : VK) => ty σ H fun y H2 => ∃ (a b : Addr) (xs : List Ent) (k : NestedKey) (i : Int), x = .ref a ∧ y = .ref b ∧ DNg G.C.wld H2 a xs ∧ KeyO H2 k b ∧ lookN xs k = some i ∧ Q (.int i) H2) fun w1 μ1 a x p1 ra => ?_
  refine (k w1 ρ μ1 σ p1.mc (vr.mono p1.ex) (p1.nn hn)).bnd (uu := fun y H2 (Q : VK) => ∃ (a b : Addr) (xs : List Ent) (k : NestedKey) (i : Int), x = .ref a ∧ y = .ref b ∧ DNg G.C.wld H2 a xs ∧ KeyO H2 k b ∧ lookN xs k = some i ∧ Q (.int i) H2) fun w2 μ2 b y p2 rb => ?_
  have ra := ra.mono p2.ex
  intro r e Q fin
  unfold dnget at e
  split at e <;> try cases e
  rename_i q k hk ra
  split at e <;> try cases e
  rename_i kvs hm
  split at e <;> rename_i hl <;> try cases e
  split at e <;> try cases e
  rename_i i hi
  obtain ⟨p, rfl, ha⟩ := ra
  obtain ⟨bb, rfl, ko, _⟩ := keyN_fr rb hk
  obtain ⟨xs, g, e, _⟩ := dng_of p2.mc hm ha hl
  exact ⟨p, bb, xs, k, i, rfl, rfl, g, ko, by rw [lkN_look, e]; exact hi, fin w2 _ (.refl p2.mc) rfl⟩
/-! a new key -/
theorem dn_put {w : Hw} {μ : Mu} {q : Nat} {kvs : List (NestedKey × Int)} {a b : Addr} {xs : List Ent} {k : NestedKey} {i : Int} (c : Mc G w μ) (hm : μ[q]? = some (some (.dN kvs))) (ha : w.A[q]? = some a) (e : xs.map (fun x => (x.1, x.2.2)) = kvs) (r : ∀ x ∈ xs, EntF G.K w x) (f : EntF G.K w (k, b, 0)) :
    Post G n0 w μ (w.wr a (DNx G.C.wld a (xs ++ [(k, b, i)]))) (μ.set q (some (.dN (kvs ++ [(k, i)])))) := by
  have x3 : Ex w (w.wr a (DNx G.C.wld a (xs ++ [(k, b, i)]))) := Ex.wr c hm ha
  refine ⟨x3, Mc.wr (m' := .dN (kvs ++ [(k, i)])) c hm ha ⟨xs ++ [(k, b, i)], upd_same, by rw [List.map_append, e]; rfl, fun y hy => ?_⟩, Kp.wr fun _ _ _ _ => rfl⟩
  rcases List.mem_append.mp hy with hy | hy
  · obtain ⟨d, h1, h2, h3⟩ := r y hy
    exact ⟨d, h1, h2, h3.mono x3⟩
  · have : y = (k, b, i) := by simpa using hy
    subst this
    obtain ⟨d, h1, h2, h3⟩ := f
    exact ⟨d, h1, h2, h3.mono x3⟩
def tSubN (f g : Ev D) : Tv := fun d ρ μ => (f ρ μ).bnd fun o μ1 => (g ρ μ1).bnd fun i μ2 => match o, keyN i, d with
  | .cell c, some k, .int n => (match μ2[c]? with
    | some (some (.dN kvs)) => if decide (kvs.length ≤ 1000000) && (lkN kvs k).isNone then some (.ok ρ (μ2.set c (some (.dN (kvs ++ [(k, n)]))))) else none
    | _ => none)
  | _, _, _ => none
theorem dg_subN {to ti : TE} {f g : Ev D} (hw : G.C.wld = wd) (ho : DE G n0 W to f) (hi : DE G n0 W ti g) : DG G n0 W (gSub to ti (rDNSet wd)) (tSubN f g) := by
  intro w ρ μ σ d v c vr hn fr r e Q fin
  subst hw
  rcases Ro.bnd_some e with ⟨o, μ1, e1, e2⟩ | ⟨x, μ1, e1, e2⟩
  · refine ho w ρ μ σ c vr hn _ e1 _ fun w1 x p1 r1 => ?_
    rcases Ro.bnd_some e2 with ⟨i, μ2, e3, e4⟩ | ⟨x, μ2, e3, e4⟩
    · refine hi w1 ρ μ1 σ p1.mc (vr.mono p1.ex) (p1.nn hn) _ e3 _ fun w2 y p2 r2 => ?_
      have p12 := p1.trans p2
      split at e4 <;> try cases e4
      rename_i q k n hk
      split at e4 <;> try cases e4
      rename_i kvs hm
      split at e4 <;> rename_i hp <;> cases e4
      rw [Bool.and_eq_true, decide_eq_true_eq, Option.isNone_iff_eq_none] at hp
      obtain ⟨a, rfl, ha⟩ := r1.mono p2.ex
      obtain ⟨bb, rfl, ko, ef⟩ := keyN_fr r2 hk
      obtain ⟨xs, gg, e, rr⟩ := dng_of p2.mc hm ha hp.1
      have fr : v = .int n := fr
      subst fr
      have pp := dn_put (n0 := n0) (i := n) p2.mc hm ha e rr ef
      exact ⟨a, bb, xs, k, n, rfl, rfl, rfl, gg, ko, by rw [lkN_look, e]; exact hp.2, fin (w2.wr a _) σ (p12.trans pp) ((vr.mono p12.ex).mono pp.ex)⟩
    · subst e4
      exact hi w1 ρ μ1 σ p1.mc (vr.mono p1.ex) (p1.nn hn) _ e3 _ fun w2 cls dx p2 x => fin w2 cls dx (p1.trans p2) x
  · subst e2
    exact ho w ρ μ σ c vr hn _ e1 _ fun w1 cls dx p1 x => fin w1 cls dx p1 x
/-! {k: i} -/
def dn1b (q : Nat) (kd : D) (vd : D) (μ : Mu) : Ro D := match keyN kd, vd, μ[q]? with
  | some k, .int i, some (some (.dN [])) => some (.ok (.cell q) (μ.set q (some (.dN [(k, i)]))))
  | _, _, _ => none
def dn1a (q : Nat) (r : Ro D) (k : Mu → Ro D) : Ro D := r.bnd fun kd μ1 => (k μ1).bnd fun vd μ2 => dn1b q kd vd μ2
def eDN1 (f g : Ev D) : Ev D := fun ρ μ => dn1a μ.length (f ρ (μ ++ [some (.dN [])])) (g ρ)
theorem de_dn1 {tk tv : TE} {f g : Ev D} (hw : G.C.wld = wd) (h : DE G n0 W tk f) (k : DE G n0 W tv g) : DE G n0 W (tDN1 wd tk tv) (eDN1 f g) := by
  intro w ρ μ σ c vr hn r e Q fin
  subst hw
  intro p hp
  have x0 : Ex w (w.mk' p (DNx G.C.wld p [])) := .mk' c hp
  have c0 : Mc G (w.mk' p (DNx G.C.wld p [])) (μ ++ [some (.dN [])]) := .mk' c hp ⟨[], upd_same, rfl, fun x hx => nomatch hx⟩
  have hA : (w.mk' p (DNx G.C.wld p [])).A[μ.length]? = some p := by show (w.A ++ [p])[μ.length]? = some p; rw [← c.len]; simp
  have p0 : Post G n0 w μ (w.mk' p (DNx G.C.wld p [])) (μ ++ [some (.dN [])]) := ⟨x0, c0, .push hn _⟩
  have vr0 := vr.mono x0
  have hn0 : n0 ≤ (μ ++ [some (M.dN [])]).length := p0.nn hn
  unfold eDN1 dn1a at e
  rcases Ro.bnd_some e with ⟨kd, μ1, e1, e2⟩ | ⟨x, μ1, e1, e2⟩
  · refine h _ ρ _ σ c0 vr0 hn0 _ e1 _ fun w1 y p1 r1 => ?_
    rcases Ro.bnd_some e2 with ⟨vd, μ2, e3, e4⟩ | ⟨x, μ2, e3, e4⟩
    · refine k w1 ρ μ1 σ p1.mc (vr0.mono p1.ex) (p1.nn hn0) _ e3 _ fun w2 z p2 r2 => ?_
      unfold dn1b at e4
      split at e4 <;> cases e4
      rename_i k i hk hm
      have ha : w2.A[μ.length]? = some p := p2.ex.pre _ _ (p1.ex.pre _ _ hA)
      obtain ⟨bb, rfl, ko, ef⟩ := keyN_fr (r1.mono p2.ex) hk
      obtain ⟨xs, gg, e, rr⟩ := dng_of p2.mc hm ha (Nat.zero_le _)
      have hx : xs = [] := by simpa using e
      subst hx
      have r2 : z = .int i := r2
      subst r2
      have pp := dn_put (n0 := n0) (i := i) p2.mc hm ha e rr ef
      refine ⟨bb, k, i, rfl, rfl, gg.at_, ko, ?_⟩
      exact fin (w2.wr p _) (.ref p) ((p0.trans p1).trans (p2.trans pp)) ⟨p, rfl, pp.ex.pre _ _ ha⟩
    · subst e4
      exact k w1 ρ μ1 σ p1.mc (vr0.mono p1.ex) (p1.nn hn0) _ e3 _ fun w2 cls dx p2 x => fin w2 cls dx ((p0.trans p1).trans p2) x
  · subst e2
    exact h _ ρ _ σ c0 vr0 hn0 _ e1 _ fun w1 cls dx p1 x => fin w1 cls dx (p0.trans p1) x
/-! d.setdefault(k, i) -/
def dnsd2 (c : Nat) (kd vd : D) (μ : Mu) : Ro D := match keyN kd, vd, μ[c]? with
  | some k, .int i, some (some (.dN kvs)) => if kvs.length ≤ 1000000 then (match lkN kvs k with
    | some j => some (.ok (.int j) μ)
    | none => some (.ok (.int i) (μ.set c (some (.dN (kvs ++ [(k, i)])))))) else none
  | _, _, _ => none
def dnsd1 (r : Ro D) (g h : Mu → Ro D) : Ro D := r.bnd fun o μ1 => match o with
  | .cell c => (match μ1[c]? with
    | some (some (.dN kvs)) => if kvs.length ≤ 1000000 then (g μ1).bnd fun kd μ2 => (h μ2).bnd fun vd μ3 => dnsd2 c kd vd μ3 else none
    | _ => none)
  | _ => none
def eDNSd (f g h : Ev D) : Ev D := fun ρ μ => dnsd1 (f ρ μ) (g ρ) (h ρ)
theorem de_dnSd {td ty tx : TE} {f g h : Ev D} (hw : G.C.wld = wd) (hf : DE G n0 W td f) (hg : DE G n0 W ty g) (hh : DE G n0 W tx h) : DE G n0 W (tDNSd wd td ty tx) (eDNSd f g h) := by
  intro w ρ μ σ c vr hn
  subst hw
  refine (hf w ρ μ σ c vr hn).bnd (uu := fun x H1 (Q : VK) => (∃ (a : Addr) (xs : List Ent), x = .ref a ∧ DNg G.C.wld H1 a xs) ∧ ty σ H1 fun y H2 => tx σ H2 fun z H3 => ∃ (a b : Addr) (xs : List Ent) (k : NestedKey) (i : Int), x = .ref a ∧ y = .ref b ∧ z = .int i ∧ DNg G.C.wld H3 a xs ∧ KeyO H3 k b ∧
    (∀ j, lookN xs k = some j → Q (.int j) H3) ∧ (lookN xs k = none → Q (.int i) (upd H3 a (DNx G.C.wld a (xs ++ [(k, b, i)]))))) fun w1 μ1 o x p1 r1 => ?_
  intro q e Q fin
  split at e <;> try cases e
  rename_i c1
  split at e <;> try cases e
  rename_i kvs hm
  split at e <;> rename_i hl <;> try cases e
  obtain ⟨a, rfl, ha⟩ := r1
  obtain ⟨xs, gg, _, _⟩ := dng_of p1.mc hm ha hl
  refine ⟨⟨a, xs, rfl, gg⟩, ?_⟩
  rcases Ro.bnd_some e with ⟨kd, μ2, e1, e2⟩ | ⟨x, μ2, e1, e2⟩
  · refine hg w1 ρ μ1 σ p1.mc (vr.mono p1.ex) (p1.nn hn) _ e1 _ fun w2 y p2 r2 => ?_
    rcases Ro.bnd_some e2 with ⟨vd, μ3, e3, e4⟩ | ⟨x, μ3, e3, e4⟩
    · refine hh w2 ρ μ2 σ p2.mc ((vr.mono p1.ex).mono p2.ex) (p2.nn (p1.nn hn)) _ e3 _ fun w3 z p3 r3 => ?_
      unfold dnsd2 at e4
      split at e4 <;> try cases e4
      rename_i k i kvs3 hk hm3
      split at e4 <;> rename_i hl3 <;> try cases e4
      have ha3 := p3.ex.pre _ _ (p2.ex.pre _ _ ha)
      obtain ⟨bb, rfl, ko, ef⟩ := keyN_fr (r2.mono p3.ex) hk
      obtain ⟨xs3, g3, e3', rr⟩ := dng_of p3.mc hm3 ha3 hl3
      have r3 : z = .int i := r3
      subst r3
      refine ⟨a, bb, xs3, k, i, rfl, rfl, rfl, g3, ko, fun j hj => ?_, fun hj => ?_⟩
      · rw [lkN_look, e3'] at hj
        rw [hj] at e4
        cases e4
        exact fin w3 _ (p2.trans p3) rfl
      · rw [lkN_look, e3'] at hj
        rw [hj] at e4
        cases e4
        have pp := dn_put (n0 := n0) (i := i) p3.mc hm3 ha3 e3' rr ef
        exact fin (w3.wr a _) _ ((p2.trans p3).trans pp) rfl
    · subst e4
      exact hh w2 ρ μ2 σ p2.mc ((vr.mono p1.ex).mono p2.ex) (p2.nn (p1.nn hn)) _ e3 _ fun w3 cls dx p3 x => fin w3 cls dx (p2.trans p3) x
  · subst e2
    exact hg w1 ρ μ1 σ p1.mc (vr.mono p1.ex) (p1.nn hn) _ e1 _ fun w2 cls dx p2 x => fin w2 cls dx p2 x
/-! len(d) -/
def lenN (d : D) (μ : Mu) : Ro D := match d with
  | .cell c => (match μ[c]? with
    | some (some (.dN kvs)) => if kvs.length ≤ 1000000 then some (.ok (.int kvs.length) μ) else none
    | _ => none)
  | _ => none
def eLenN (f : Ev D) : Ev D := fun ρ μ => (f ρ μ).bnd lenN
theorem de_lenN {t : TE} {f : Ev D} (hw : G.C.wld = wd) (h : DE G n0 W t f) : DE G n0 W (tCB (rLenDN wd) (tCons t tNil)) (eLenN f) := fun w ρ μ σ c vr hn =>
  (h w ρ μ σ c vr hn).bnd (uu := fun x H1 (Q : VK) => rLenDN wd [x] H1 Q) fun w1 μ1 d x p1 r1 => by
    intro q e Q fin
    subst hw
    unfold lenN at e
    split at e <;> try cases e
    rename_i k
    split at e <;> try cases e
    rename_i kvs hm
    split at e <;> rename_i hl <;> cases e
    obtain ⟨a, rfl, ha⟩ := r1
    obtain ⟨xs, g, e, _⟩ := dng_of p1.mc hm ha hl
    exact ⟨a, xs, rfl, g, fin w1 _ (.refl p1.mc) (by rw [← e, List.length_map]; simp [Fr])⟩
/-! evaluation -/
variable {ρ : Env} {μ μ1 μ2 : Mu}
@[simp] theorem eNewN_ap : eNewN ρ μ = some (.ok (.cell μ.length) (μ ++ [some (.dN [])])) := rfl
@[simp] theorem eDN1_ap (f g : Ev D) : eDN1 f g ρ μ = dn1a μ.length (f ρ (μ ++ [some (.dN [])])) (g ρ) := rfl
theorem dn1a_ok {q : Nat} {k : Mu → Ro D} {kd : D} {nk : NestedKey} {i : Int} (e : k μ = some (.ok (.int i) μ1)) (hk : keyN kd = some nk) (h : μ1[q]? = some (some (.dN []))) : dn1a q (some (.ok kd μ)) k = some (.ok (.cell q) (μ1.set q (some (.dN [(nk, i)])))) := by
  simp [dn1a, e, dn1b, hk, h]
theorem oDNIn_ok {c : Nat} {kvs : List (NestedKey × Int)} {d : D} {k : NestedKey} (neg : Bool) (hk : keyN d = some k) (h : μ[c]? = some (some (.dN kvs))) (hl : kvs.length ≤ 1000000) : oDNIn neg d (.cell c) μ = some (.ok (.bl (neg ^^ (lkN kvs k).isSome)) μ) := by
  simp [oDNIn, hk, h, hl]
theorem dnget_ok {c : Nat} {kvs : List (NestedKey × Int)} {d : D} {k : NestedKey} {i : Int} (hk : keyN d = some k) (h : μ[c]? = some (some (.dN kvs))) (hl : kvs.length ≤ 1000000) (hi : lkN kvs k = some i) : dnget (.cell c) d μ = some (.ok (.int i) μ) := by
  simp [dnget, hk, h, hl, hi]
theorem tSubN_ok {f g : Ev D} {c : Nat} {kvs : List (NestedKey × Int)} {d : D} {k : NestedKey} {i : Int} (h1 : f ρ μ = some (.ok (.cell c) μ1)) (h2 : g ρ μ1 = some (.ok d μ2)) (hk : keyN d = some k) (h : μ2[c]? = some (some (.dN kvs))) (hl : kvs.length ≤ 1000000) (hn : lkN kvs k = none) :
    tSubN f g (.int i) ρ μ = some (.ok ρ (μ2.set c (some (.dN (kvs ++ [(k, i)]))))) := by
  simp [tSubN, h1, h2, hk, h, hl, hn]
@[simp] theorem eDNSd_ap (f g h : Ev D) : eDNSd f g h ρ μ = dnsd1 (f ρ μ) (g ρ) (h ρ) := rfl
theorem dnsd1_ok {c : Nat} {g h : Mu → Ro D} {kvs kvs3 : List (NestedKey × Int)} {d : D} {k : NestedKey} {i : Int} (h0 : μ[c]? = some (some (.dN kvs))) (hl : kvs.length ≤ 1000000) (e1 : g μ = some (.ok d μ1)) (e2 : h μ1 = some (.ok (.int i) μ2)) (hk : keyN d = some k) (h3 : μ2[c]? = some (some (.dN kvs3))) (hl3 : kvs3.length ≤ 1000000) :
    dnsd1 (some (.ok (.cell c) μ)) g h = match lkN kvs3 k with
      | some j => some (.ok (.int j) μ2)
      | none => some (.ok (.int i) (μ2.set c (some (.dN (kvs3 ++ [(k, i)]))))) := by
  simp [dnsd1, h0, hl, e1, e2, dnsd2, hk, h3, hl3]
@[simp] theorem eLenN_ap (f : Ev D) : eLenN f ρ μ = Ro.bnd (f ρ μ) lenN := rfl
theorem lenN_ok {c : Nat} {kvs : List (NestedKey × Int)} (h : μ[c]? = some (some (.dN kvs))) (hl : kvs.length ≤ 1000000) : lenN (.cell c) μ = some (.ok (.int kvs.length) μ) := by
  simp [lenN, h, hl]
end
end G4

/-! G36: a < b of lists of whole numbers. -/
namespace G4
open PySem PySem.Spec PyProof.Rows L2
section
theorem dep_ints (xs : List Int) : (PyData.list (xs.map PyData.int)).depth ≤ 1 := by
  have : ∀ xs : List Int, PyData.depthAll (xs.map PyData.int) = 0 := by
    intro xs
    induction xs with
    | nil => rfl
    | cons x xs ih =>
      show max (PyData.depth (.int x)) (PyData.depthAll (xs.map PyData.int)) = 0
      rw [ih]
      rfl
  show PyData.depthAll _ + 1 ≤ 1
  rw [this]
  exact Nat.le_refl _
theorem alike_ints (xs ys : List Int) : PySem.W.alike (.list (xs.map .int)) (.list (ys.map .int)) = true := by
  show PySem.W.alikeAll _ _ = true
  induction xs generalizing ys with
  | nil => rfl
  | cons x xs ih => cases ys with
    | nil => rfl
    | cons y ys => exact ih ys
theorem lt_ints (xs ys : List Int) : PySem.W.dataLt (.list (xs.map .int)) (.list (ys.map .int)) = HT.lexLt xs ys := by
  rw [PySem.W.dataLt_list]
  induction xs generalizing ys with
  | nil => cases ys with
    | nil => exact PyProof.Rows.lex_irrefl _
    | cons y ys =>
      show PyProof.Rows.lexLt itemOrd [Sum.inl 0] (Sum.inl 1 :: _) = true
      rw [PySem.W.lex_atom (by simp), PySem.W.lex_one]
      rfl
  | cons x xs ih => cases ys with
    | nil =>
      show PyProof.Rows.lexLt itemOrd (Sum.inl 1 :: _) [Sum.inl 0] = false
      rw [PySem.W.lex_atom (by simp), PySem.W.lex_one]
      rfl
    | cons y ys =>
      rw [List.map_cons, List.map_cons, HT.lexLt_cons]
      by_cases h : x = y
      · rw [if_pos h, PySem.W.dataLt_all_yes rfl (by show (x == y) = true; simp [h])]
        exact ih ys
      · rw [if_neg h, PySem.W.dataLt_all_no rfl (by show (x == y) = false; simp [h])]
        exact PySem.W.dataLt_int x y
def rLtL (K : PySem.W.Frag) : R2 := fun x y H Q => ∃ is js : List Int, Dp K H x (.list (is.map .int)) ∧ Dp K H y (.list (js.map .int)) ∧ Q (.bl (HT.lexLt is js)) H
def rLtA (K : PySem.W.Frag) : R2 := fun x y H Q => rI0 (fun i j => .bl (decide (i < j))) x y H Q ∨ rLtL K x y H Q
theorem op_ltL {X : Cx} (hu : X.A.units + 64 < cLine) : OpR X (compareOp .Lt) (rLtL X.K) := by
  intro pins s σ H x y v u Q I rx ry h
  obtain ⟨is, js, hd, he, q⟩ := h
  obtain ⟨as, r1⟩ := Dp.reads I _ x v hd rx
  obtain ⟨bs, r2⟩ := Dp.reads I _ y u he ry
  refine PySem.W.lt_data r1 r2 (alike_ints is js) (by simp) ?_ ?_
  · have := dep_ints is
    omega
  · rw [lt_ints]
    exact ⟨.bl _, H, I, rfl, q⟩
theorem op_ltA {X : Cx} (hu : X.A.units + 65 < cLine) : OpR X (compareOp .Lt) (rLtA X.K) := opR_or op_lt (op_ltL (by omega))
end
section
variable {G : Gx} {n0 : Nat} {W : WX}
def intsOf : List D → Option (List Int)
  | [] => some []
  | .int i :: ds => (intsOf ds).map fun is => i :: is
  | _ :: _ => none
theorem intsOf_eq : ∀ {ds : List D} {is : List Int}, intsOf ds = some is → ds = is.map D.int
  | [], is, h => by cases h; rfl
  | .int i :: ds, is, h => by
    obtain ⟨js, h1, rfl⟩ := Option.map_eq_some_iff.mp h
    rw [intsOf_eq h1]
    rfl
theorem intsOf_ints (is : List Int) : intsOf (is.map D.int) = some is := by
  induction is with
  | nil => rfl
  | cons x is ih =>
    show (intsOf (is.map D.int)).map _ = _
    rw [ih]
    rfl
def oLtA (a b : D) (μ : Mu) : Ro D := match a, b with
  | .int i, .int j => some (.ok (.bl (decide (i < j))) μ)
  | a, b => match val μ a, val μ b with
    | .lst xs, .lst ys => match intsOf xs, intsOf ys with
      | some is, some js => some (.ok (.bl (HT.lexLt is js)) μ)
      | _, _ => none
    | _, _ => none
theorem py_ints (is : List Int) : (D.lst (is.map D.int)).py = .list (is.map .int) := by
  show PyData.list (pys (is.map D.int)) = _
  congr 1
  rw [pys_map, List.map_map]
  rfl
theorem dr_ltA : DR2 G n0 W (rLtA G.K) oLtA := by
  intro w μ σ a x b y c hn ra rb q e Q f
  unfold oLtA at e
  split at e
  · cases e
    rename_i i j
    obtain rfl : x = .int i := ra
    obtain rfl : y = .int j := rb
    exact .inl ⟨i, j, rfl, rfl, f w _ (.refl c) rfl⟩
  · split at e
    · rename_i xs ys h1 h2
      split at e <;> cases e
      rename_i is js e1 e2
      rw [intsOf_eq e1] at h1
      rw [intsOf_eq e2] at h2
      have d1 := val_dp c ra (by rw [h1]; exact nices_ints 59 is)
      have d2 := val_dp c rb (by rw [h2]; exact nices_ints 59 js)
      rw [h1, py_ints] at d1
      rw [h2, py_ints] at d2
      exact .inr ⟨is, js, d1, d2, f w _ (.refl c) rfl⟩
    · cases e
variable {μ : Mu}
@[simp] theorem oLtA_int (i j : Int) : oLtA (.int i) (.int j) μ = some (.ok (.bl (decide (i < j))) μ) := rfl
theorem oLtA_lst (is js : List Int) : oLtA (.lst (is.map D.int)) (.lst (js.map D.int)) μ = some (.ok (.bl (HT.lexLt is js)) μ) := by
  unfold oLtA
  simp only [valS_lst, intsOf_ints]
end
end G4

/-! G37: xs[b], xs a list, b a truth value. -/
namespace G4
open PySem PySem.Spec PyProof.Rows L2
section
variable {prog : Program} {w : World} {A : Around} {s : Shared} {E : Value → Shared → Prop}
def b01 (b : Bool) : Int := if b = true then 1 else 0
theorem ls_bool {b : Bool} {Q : Option Int → Shared → Prop} (h : Q (some (b01 b)) s) : wpAny (model prog w) A (Builtin.List.listSubscript? (.bool b)) Q E s := by
  unfold Builtin.List.listSubscript?
  refine wpAny_bind (wpAny_specialOf (T := "bool") rfl PySem.F.slot_bool_index.lookup ?_)
  show wpAny _ A (asIndex (.bool b) >>= _) Q E s
  refine wpAny_bind (wpAny_of_eq (a := b01 b) (by cases b <;> rfl) ?_)
  show wpAny _ A (if (!Builtin.List.listFitsIndex (b01 b)) = true then _ else _) Q E s
  rw [if_neg (by cases b <;> decide)]
  exact wpAny_pure h
theorem getItem_listB {l : Addr} {items : Array Value} {b : Bool} {x : Value} {Q : Value → Shared → Prop} (hl : s.heap.IsList l items)
    (hx : items[(b01 b).toNat]? = some x) (h : Q x s) : wpAny (model prog w) A (getItem (.ref l) (.bool b)) Q E s := by
  obtain ⟨o, ho, hc, ne, hd⟩ := id hl
  unfold getItem
  try with_reducible refine wpAny_holding ?_
  first | refine wpAny_bind (wpAny_pure ?_) | skip
  refine wpAny_bind (wpAny_sequenceKey hl.typeIs (by decide) ?_)
  refine wpAny_bind (wpAny_callSpecial?_slot (name := Str.ofString "__getitem__") hl.typeIs slot_list_getitem
    (wpAny_call_entry slot_list_getitem hl.typeIs entry_list_getitem ?_ (args_list_getitem _ _)))
  show wpAny _ _ (Builtin.List.listSubscript? (.bool b) >>= _) _ _ s
  refine wpAny_bind (ls_bool ?_)
  obtain ⟨j, hj⟩ : ∃ j : Nat, b01 b = Int.ofNat j := by cases b; exact ⟨0, rfl⟩; exact ⟨1, rfl⟩
  rw [hj] at hx ⊢
  have hx' : items[j]? = some x := hx
  show wpAny _ _ ((seqItemAt l j >>= fun r => pure (r.map (j, ·))) >>= _) _ _ s
  refine wpAny_bind (wpAny_bind (wpAny_seqItemAt ho hd (wpAny_pure ?_)))
  rw [hx']
  first
    | exact wpAny_bind (wpAny_pure (wpAny_pure ⟨x, rfl, wpAny_pure h⟩))
    | exact wpAny_pure ⟨x, rfl, wpAny_pure h⟩
end
section
variable {X : Cx}
def rIxB (K : PySem.W.Frag) : R2 := fun x y H Q => ∃ p xs b v, x = .ref p ∧ y = .bl b ∧ SqL K H p xs ∧ xs[(b01 b).toNat]? = some v ∧ Q v H
theorem ix_listB : IxR X (rIxB X.K) := by
  intro value slice pins s σ H x y v u Q I rx ry h hs
  obtain ⟨p, xs, b, z, rfl, rfl, hq, he, q⟩ := h
  cases rx
  obtain rfl : u = .bool b := ry
  obtain ⟨its, r, pl, hz⟩ := I.list hq
  obtain ⟨w, ew, rw'⟩ := r.get he
  have fin : EP X pins σ Q w s := ⟨z, H, I, rw', q⟩
  exact subscriptTail_builtinR (x := w) pl.isList.typeIs slot_list_getitem.lookup
    (getItem_listB (Q := fun r s' => r = w ∧ EP X pins σ Q r s') pl.isList (by simpa using ew) ⟨rfl, fin⟩) hs
def rIxA (K : PySem.W.Frag) : R2 := fun x y H Q => rIx K x y H Q ∨ rIxB K x y H Q
theorem ix_seqA : IxR X (rIxA X.K) := ix_seq.or ix_listB
end
section
variable {G : Gx} {n0 : Nat} {W : WX}
def oIxA (a b : D) (μ : Mu) : Ro D := match b with
  | .bl b => match viewL μ a with
    | some xs => match xs[(b01 b).toNat]? with
      | some d => some (.ok d μ)
      | none => none
    | none => none
  | b => oIx a b μ
theorem dr_ixA : DR2 G n0 W (rIxA G.K) oIxA := by
  intro w μ σ a x b y c hn ra rb q e Q f
  unfold oIxA at e
  split at e
  · rename_i b
    split at e <;> try cases e
    rename_i xs hx
    split at e <;> cases e
    rename_i d hd
    obtain rfl : y = .bl b := rb
    obtain ⟨p, vs, rfl, s, rs⟩ := view_L c ra hx
    obtain ⟨v, hv, fr⟩ := rs.get hd
    exact .inr ⟨p, vs, b, v, rfl, rfl, s, hv, f w _ (.refl c) fr⟩
  · exact .inl (dr_ix w μ σ a x _ y c hn ra rb q e Q f)
variable {μ : Mu}
@[simp] theorem oIxA_int (a : D) (i : Int) : oIxA a (.int i) μ = oIx a (.int i) μ := rfl
theorem oIxA_01 (a b : D) (k : Bool) : oIxA (.lst [a, b]) (.bl k) μ = some (.ok (if k = true then b else a) μ) := by
  cases k <;> rfl
end
end G4

/-! G62: sets of nested tuples (set(), set(list), add, in); list comprehensions with two fors. -/
namespace G4
open PySem PySem.Spec PyProof.Rows L2
section
variable {G : Gx} {n0 : Nat} {W : WX} {wd : World}
/-! set() of this kind -/
def eNewH : Ev D := fun _ μ => some (.ok (.cell μ.length) (μ ++ [some (.hs [])]))
theorem de_newH (hw : G.C.wld = wd) : DE G n0 W (tCB (rHS0 wd) tNil) eNewH := by
  intro w ρ μ σ c vr hn r e Q f
  cases e
  subst hw
  exact ⟨rfl, fun p hp => fin_mk (m := .hs []) c hn hp ⟨[], upd_same, fun k => by simp, Nat.le_refl _, fun x hx => nomatch hx⟩ f⟩
/-! set(list) -/
def keysN : List D → Option (List NestedKey)
  | [] => some []
  | d :: ds => match keyN d, keysN ds with
    | some k, some ks => some (k :: ks)
    | _, _ => none
def hsL (d : D) (μ : Mu) : Ro D := match viewL μ d with
  | some xs => match keysN xs with
    | some ks => if ks.length ≤ 1200 then some (.ok (.cell μ.length) (μ ++ [some (.hs ks)])) else none
    | none => none
  | none => none
def oHSL : List D → Mu → Ro D
  | [d], μ => hsL d μ
  | _, _ => none
theorem keysN_fr {K : PySem.W.Frag} {w : Hw} : ∀ {ds : List D} {vs : List V} {ks : List NestedKey}, Frs K w ds vs → keysN ds = some ks →
    ∃ L : List Ky, vs = L.map (fun p => V.ref p.2) ∧ L.map (·.1) = ks ∧ ∀ p ∈ L, KeyO w.H p.1 p.2 ∧ EntF K w (p.1, p.2, 0)
  | [], vs, ks, r, e => by
    cases e
    have r : vs = [] := r
    subst r
    exact ⟨[], rfl, rfl, fun p hp => nomatch hp⟩
  | d :: ds, vs, ks, r, e => by
    obtain ⟨v, rest, rfl, h, t⟩ := r
    simp only [keysN] at e
    split at e <;> cases e
    rename_i k ks' hk hks
    obtain ⟨L, rfl, rfl, al⟩ := keysN_fr t hks
    obtain ⟨b, rfl, ko, en⟩ := keyN_fr h hk
    refine ⟨(k, b) :: L, rfl, rfl, fun p hp => ?_⟩
    rcases List.mem_cons.mp hp with z | z
    · subst z; exact ⟨ko, en⟩
    · exact al p z
theorem entF_key {K : PySem.W.Frag} {w : Hw} {p : Ky} (h : EntF K w (p.1, p.2, 0)) : KeyO w.H p.1 p.2 := by
  obtain ⟨d, h1, h2, h3⟩ := h
  exact ⟨fr_key h3 h1, h2⟩
theorem drn_hsL (hw : G.C.wld = wd) : DRn G n0 W (rHSL G.K wd) oHSL := by
  intro w μ σ as xs c hn r q e Q fin
  subst hw
  unfold oHSL at e
  split at e <;> try cases e
  rename_i d
  unfold hsL at e
  split at e <;> try cases e
  rename_i ds hv
  split at e <;> try cases e
  rename_i ks hks
  split at e <;> rename_i hl <;> cases e
  obtain ⟨v, rfl, h⟩ := frs1 r
  obtain ⟨a, vs, rfl, hs, rs⟩ := view_L c h hv
  obtain ⟨L, rfl, e2, al⟩ := keysN_fr rs hks
  have ll : L.length = ks.length := by rw [← e2, List.length_map]
  refine ⟨a, L, rfl, hs, fun p hp => (al p hp).1, by omega, fun p L' hp m1 m2 m3 => ?_⟩
  have x0 : Ex w (w.mk' p (HSx G.C.wld p L')) := .mk' c hp
  refine fin_mk (m := .hs ks) c hn hp ⟨L', upd_same, fun k => ?_, by omega, fun x hx => ?_⟩ fin
  · rw [← e2]
    constructor
    · intro z
      obtain ⟨y, hy, rfl⟩ := List.mem_map.mp z
      exact List.mem_map.mpr ⟨y, m1 y hy, rfl⟩
    · intro z
      obtain ⟨y, hy, rfl⟩ := List.mem_map.mp z
      exact m2 y hy
  · obtain ⟨d, h1, h2, h3⟩ := (al x (m1 x hx)).2
    exact ⟨d, h1, h2, h3.mono x0⟩
/-! k in s -/
def oHIn (neg : Bool) (a b : D) (μ : Mu) : Ro D := match keyN a, b with
  | some k, .cell c => (match μ[c]? with
    | some (some (.hs ks)) => some (.ok (.bl (neg ^^ decide (k ∈ ks))) μ)
    | _ => none)
  | _, _ => none
theorem dr_hIn (neg : Bool) (hw : G.C.wld = wd) : DR2 G n0 W (rHIn wd neg) (oHIn neg) := by
  intro w μ σ a x b y c hn ra rb r e Q fin
  subst hw
  unfold oHIn at e
  split at e <;> try cases e
  rename_i k q hk
  split at e <;> try cases e
  rename_i ks hm
  obtain ⟨p, rfl, ha⟩ := rb
  obtain ⟨bb, rfl, ko, _⟩ := keyN_fr ra hk
  obtain ⟨⟨L, h1, h2, h3, h4⟩, _⟩ := c.cell q _ p hm ha
  exact ⟨p, bb, L, k, rfl, rfl, h1, fun x hx => entF_key (h4 x hx), ko, fin w _ (.refl c) (by rw [show decide (k ∈ L.map (·.1)) = decide (k ∈ ks) from decide_eq_decide.2 (h2 k)]; simp [Fr])⟩
/-! s.add(k) -/
def hadd2 (c : Nat) (as : List D) (μ : Mu) : Ro D := match as with
  | [d] => match keyN d, μ[c]? with
    | some k, some (some (.hs ks)) => if ks.length < 1200 then some (.ok .non (μ.set c (some (.hs (ks ++ [k]))))) else none
    | _, _ => none
  | _ => none
def hadd1 (r : Ro D) (k : Mu → Ro (List D)) : Ro D := r.bnd fun o μ1 => match o with
  | .cell c => (match μ1[c]? with
    | some (some (.hs _)) => (k μ1).bnd (hadd2 c)
    | _ => none)
  | _ => none
def eHAdd (f : Ev D) (g : Ev (List D)) : Ev D := fun ρ μ => hadd1 (f ρ μ) (g ρ)
theorem de_hadd {to : TE} {t : TA} {f : Ev D} {g : Ev (List D)} (hw : G.C.wld = wd) (h : DE G n0 W to f) (k : DA G n0 W t g) : DE G n0 W (tHAdd wd to t) (eHAdd f g) := by
  intro w ρ μ σ c vr hn
  subst hw
  refine (h w ρ μ σ c vr hn).bnd (uu := fun x H1 (Q : VK) => (∃ a L, x = V.ref a ∧ H1 a = some (HSx G.C.wld a L)) ∧ t σ H1 fun xs H2 => rHAdd G.C.wld x xs H2 Q) fun w1 μ1 o x p1 r1 => ?_
  intro q e Q fin
  split at e <;> try cases e
  rename_i k'
  split at e <;> try cases e
  rename_i ys hm
  obtain ⟨a, rfl, ha⟩ := r1
  obtain ⟨⟨L, h1, _⟩, _⟩ := p1.mc.cell k' _ a hm ha
  refine ⟨⟨a, L, rfl, h1⟩, ?_⟩
  have := (k w1 ρ μ1 σ p1.mc (vr.mono p1.ex) (p1.nn hn)).bnd (R' := Fr G.K) (uu := fun xs H2 (Q : VK) => rHAdd G.C.wld (.ref a) xs H2 Q) (g := hadd2 k') fun w2 μ2 as us p2 r2 => ?_
  · exact this q e Q fin
  · intro q e Q fin
    unfold hadd2 at e
    split at e <;> try cases e
    rename_i d
    split at e <;> try cases e
    rename_i kk ks hk hm2
    split at e <;> rename_i hl <;> cases e
    have ha2 := p2.ex.pre _ _ ha
    obtain ⟨⟨L2, g1, g2, g3, g4⟩, _⟩ := p2.mc.cell k' _ a hm2 ha2
    obtain ⟨v, rfl, fr⟩ := frs1 r2
    obtain ⟨b, rfl, ko, en⟩ := keyN_fr fr hk
    refine ⟨a, b, kk, L2, rfl, rfl, g1, fun x hx => entF_key (g4 x hx), ko, by omega, ?_⟩
    refine fin (w2.wr a _) .non ⟨Ex.wr p2.mc hm2 ha2, Mc.wr (m' := .hs (ks ++ [kk])) p2.mc hm2 ha2 ⟨_, upd_same, fun j => ?_, ?_, fun x hx => ?_⟩, Kp.wr fun _ _ _ _ => rfl⟩ rfl
    · unfold addL
      rw [List.mem_append, ← g2 j, List.mem_singleton]
      split
      · rename_i z
        exact ⟨fun y => .inl y, fun y => y.elim id fun e => e ▸ z⟩
      · rw [List.map_append, List.mem_append, List.map_cons, List.map_nil, List.mem_singleton]
    · unfold addL
      rw [List.length_append, List.length_singleton]
      split
      · omega
      · rw [List.length_append, List.length_singleton]; omega
    · have x0 : Ex w2 (w2.wr a (HSx G.C.wld a (addL L2 kk b))) := Ex.wr p2.mc hm2 ha2
      have old : ∀ x ∈ L2, EntF G.K (w2.wr a (HSx G.C.wld a (addL L2 kk b))) (x.1, x.2, 0) := fun x hx => by
        obtain ⟨d, h1, h2, h3⟩ := g4 x hx
        exact ⟨d, h1, h2, h3.mono x0⟩
      unfold addL at hx
      split at hx
      · exact old x hx
      · rcases List.mem_append.mp hx with z | z
        · exact old x z
        · rw [List.mem_singleton.mp z]
          obtain ⟨d, h1, h2, h3⟩ := en
          exact ⟨d, h1, h2, h3.mono x0⟩
/-! ### two fors -/
def stepC2 (tg : Tv) (tt : Ev Bool) (fi : Ev Src) (tg1 : Tv) (tt1 : Ev Bool) (te : Ev D) (vs1 : List Nat) (ρ : Env) (d : D) (μ : Mu) (rest : Mu → Ro (List D)) : Ro (List D) := match tg d ρ μ with
  | some (.ok ρ1 μ1) => match tt ρ1 μ1 with
    | some (.ok true μ2) => match fi ρ1 μ2 with
      | some (.ok (.its ds) μ3) => match compL tg1 tt1 te (wipeE ρ1 vs1) ds μ3 with
        | some (.ok ys1 μ4) => match rest μ4 with
          | some (.ok ys μ5) => some (.ok (ys1 ++ ys) μ5)
          | _ => none
        | _ => none
      | _ => none
    | some (.ok false μ2) => rest μ2
    | _ => none
  | _ => none
def compL2 (tg : Tv) (tt : Ev Bool) (fi : Ev Src) (tg1 : Tv) (tt1 : Ev Bool) (te : Ev D) (vs1 : List Nat) (ρ : Env) : List D → Mu → Ro (List D)
  | [] => fun μ => some (.ok [] μ)
  | d :: ds => fun μ => stepC2 tg tt fi tg1 tt1 te vs1 ρ d μ (compL2 tg tt fi tg1 tt1 te vs1 ρ ds)
def eComp2 (f : Ev Src) (tg : Tv) (tt : Ev Bool) (fi : Ev Src) (tg1 : Tv) (tt1 : Ev Bool) (te : Ev D) (vs vs1 : List Nat) : Ev D := fun ρ μ => (f ρ μ).bnd fun src μ1 => match src with
  | .its ds => (match compL2 tg tt fi tg1 tt1 te vs1 (wipeE ρ vs) ds μ1 with
    | some (.ok ys μ2) => newL ys μ2
    | _ => none)
  | .cel _ => none
theorem turns2 {w0 w : Hw} {ρ : Env} {μ0 μ μf : Mu} {σ : L2.St} {g : TG} {t : TT} {te : TE} {tg : Tv} {ft : Ev Bool} {fe : Ev D} {ds : List D} {J : It} {vs : List Nat} {acc ys : List D} {av : List V} {p : Addr} {Fin : Hp → Prop}
    (hg : DG G n0 W0 g tg) (ho : Own g vs) (hm : Mono g) (ht : DT G n0 W0 t ft) (he : DE G n0 W0 te fe) (c0 : Mc G w0 μ0) (hp : w0.H p = none) (x0 : Ex w0 w) (c : Mc G w μ) (vr : Vr G.K w ρ σ) (hn : n0 ≤ μ.length)
    (h : Hid w p (.lst av)) (r : Frs G.K w acc av) (y : Yl G w (.its ds) J) (e : compL tg ft fe (wipeE ρ vs) ds μ = some (.ok ys μf)) (hs : acc.length + ys.length ≤ 16777216)
    (fin : ∀ w' av', Ex w0 w' → Ex0 w w' → Mc G w' μf → Kp n0 μ μf → Hid w' p (.lst av') → Frs G.K w' (acc ++ ys) av' → Fin w'.H) :
    ∃ W1 : Nat → Nat → Hp → Prop, (∃ m, W1 0 m w.H) ∧ ∀ j k H, W1 j k H → (J.stop j H ∧ Fin H) ∨ (J.go j H ∧ ∃ Nx1 : Hp → Prop, (∀ H', Nx1 H' → ∃ k', k' < k ∧ W1 (j + 1) k' H') ∧ ∀ x H', J.yld j H x H' → g x (wipe σ vs) H' fun σ3 H5 => wipe σ3 vs = wipe σ vs ∧ t σ3 H5 fun b H6 =>
      if b = true then te σ3 H6 fun y H7 => ∃ acc, H7 p = some (.lst acc) ∧ acc.length < sizeLine ∧ Nx1 (upd H7 p (.lst (acc ++ [y]))) else Nx1 H6) := by
  refine ⟨fun i m H => ∃ w' μ' ac a2 zs, w'.H = H ∧ m = (ds.drop i).length ∧ Ex w0 w' ∧ Ex0 w w' ∧ Mc G w' μ' ∧ Kp n0 μ μ' ∧ Hid w' p (.lst a2) ∧ Frs G.K w' ac a2 ∧ ac ++ zs = acc ++ ys ∧ compL tg ft fe (wipeE ρ vs) (ds.drop i) μ' = some (.ok zs μf), ?_, ?_⟩
  · exact ⟨_, w, μ, acc, av, ys, rfl, rfl, x0, ⟨fun _ z => z, fun _ _ z => z, fun _ _ => rfl⟩, c, .refl _ _, h, r, rfl, e⟩
  · rintro i m H ⟨w', μ', ac, a2, zs, rfl, rfl, x, xx, c', kp, h', r', e1, e2⟩
    obtain ⟨y1, y2⟩ := y w' μ' xx c' ds rfl i
    cases hd : ds[i]? with
    | none =>
      have hle : ds.length ≤ i := by simpa using hd
      rw [List.drop_eq_nil_of_le hle] at e2
      cases e2
      rw [List.append_nil] at e1
      subst e1
      exact .inl ⟨y2 hle, fin w' a2 x xx c' kp h' r'⟩
    | some d =>
      have hil := (List.getElem?_eq_some_iff.mp hd).1
      have hdr : ds.drop i = d :: ds.drop (i + 1) := by
        rw [List.drop_eq_getElem_cons hil]
        congr 1
        rw [List.getElem?_eq_getElem hil] at hd
        exact Option.some.inj hd
      obtain ⟨go, yl⟩ := y1 d hd
      refine .inr ⟨go, fun H => ∃ w' μ' ac a2 zs, w'.H = H ∧ Ex w0 w' ∧ Ex0 w w' ∧ Mc G w' μ' ∧ Kp n0 μ μ' ∧ Hid w' p (.lst a2) ∧ Frs G.K w' ac a2 ∧ ac ++ zs = acc ++ ys ∧ compL tg ft fe (wipeE ρ vs) (ds.drop (i + 1)) μ' = some (.ok zs μf), fun H' ⟨w', μ', ac, a2, zs, q1, q⟩ => ⟨_, by rw [hdr]; exact Nat.lt_succ_self _, w', μ', ac, a2, zs, q1, rfl, q⟩, fun u H' hy => ?_⟩
      obtain ⟨w2, rfl, x2, c2, fr⟩ := yl u H' hy
      have hn2 : n0 ≤ μ'.length := Nat.le_trans hn kp.len
      have xx2 := xx.trans x2.e0
      rw [hdr] at e2
      simp only [compL] at e2
      unfold stepC at e2
      split at e2 <;> try cases e2
      rename_i ρ1 μ1 h1
      refine hm _ _ _ _ _ (fun σ2 H2 ⟨a, b⟩ => ⟨a.trans (wipe_wipe σ vs), b⟩) (ho _ _ _ _ (hg w2 (wipeE ρ vs) μ' (wipe σ vs) d u c2 ((vr.mono0 xx2).wipe vs) hn2 fr _ h1 _ fun w3 σ3 p3 v3 => ?_))
      have hn3 := p3.nn hn2
      have kp3 := kp.trans p3.kp
      split at e2
      · rename_i μ2 h2
        refine ht w3 ρ1 μ1 σ3 p3.mc v3 hn3 _ h2 _ fun w4 b p4 r4 => ?_
        have r4 : b = true := r4
        subst r4
        rw [if_pos rfl]
        have hn4 := p4.nn hn3
        split at e2 <;> try cases e2
        rename_i y' μ3 h3
        split at e2 <;> cases e2
        rename_i ys' h4
        refine he w4 ρ1 μ2 σ3 p4.mc (v3.mono p4.ex) hn4 _ h3 _ fun w5 v5 p5 r5 => ?_
        have x25 := (x2.trans p3.ex).trans (p4.ex.trans p5.ex)
        have h5 := h'.ex x25
        have rl := r'.length
        have hl : ac.length + (1 + ys'.length) = acc.length + ys.length := by
          have := congrArg List.length e1
          simp at this
          omega
        refine ⟨a2, h5.at_, by rw [sizeLine_eq, rl]; omega, ?_⟩
        obtain ⟨x6, c6, h6, f6⟩ := Hid.wr (o' := .lst (a2 ++ [v5])) c0 hp (x.trans x25) h5 p5.mc
        exact ⟨w5.wr p (.lst (a2 ++ [v5])), μ3, ac ++ [y'], a2 ++ [v5], ys', rfl, x6, (xx.trans x25.e0).trans h5.e0, c6, (kp3.trans p4.kp).trans p5.kp, h6, f6 ((r'.mono x25).append (Frs.one r5)), by rw [← e1]; simp, h4⟩
      · rename_i μ2 h2
        refine ht w3 ρ1 μ1 σ3 p3.mc v3 hn3 _ h2 _ fun w4 b p4 r4 => ?_
        have r4 : b = false := r4
        subst r4
        rw [if_neg Bool.false_ne_true]
        have x24 := (x2.trans p3.ex).trans p4.ex
        exact ⟨w4, μ2, ac, a2, zs, rfl, x.trans x24, xx.trans x24.e0, p4.mc, kp3.trans p4.kp, h'.ex x24, r'.mono x24, e1, e2⟩
      · cases e2
theorem de_comp2 {wi wi1 : TI} {g g1 : TG} {t t1 : TT} {te : TE} {f fi : Ev Src} {tg tg1 : Tv} {ft ft1 : Ev Bool} {fe : Ev D} {vs vs1 : List Nat} (hi : DI G n0 W wi f) (hg : DG G n0 W0 g tg) (ho : Own g vs) (hm : Mono g) (ht : DT G n0 W0 t ft)
    (hi1 : DI G n0 W0 wi1 fi) (hg1 : DG G n0 W0 g1 tg1) (ho1 : Own g1 vs1) (hm1 : Mono g1) (ht1 : DT G n0 W0 t1 ft1) (he : DE G n0 W0 te fe) :
    DE G n0 W (tLc2 wi g t wi1 g1 t1 te vs vs1) (eComp2 f tg ft fi tg1 ft1 fe vs vs1) := by
  intro w ρ μ σ c vr hn r e Q fin
  rcases Ro.bnd_some e with ⟨src, μ1, e1, e2⟩ | ⟨x, μ1, e1, e2⟩
  · refine hi w ρ μ σ c vr hn _ e1 _ fun w1 J p1 y => ?_
    intro p hp
    split at e2 <;> try cases e2
    rename_i ds
    split at e2 <;> try cases e2
    rename_i all μf h2
    unfold newL at e2
    split at e2 <;> rename_i hs <;> cases e2
    have hs : all.length ≤ 16777216 := by simpa [small] using hs
    have vr1 := vr.mono p1.ex
    have hn1 := p1.nn hn
    refine ⟨fun i m H => ∃ w' μ' ac a2 zs, w'.H = H ∧ m = (ds.drop i).length ∧ Ex w1 w' ∧ Mc G w' μ' ∧ Kp n0 μ1 μ' ∧ Hid w' p (.lst a2) ∧ Frs G.K w' ac a2 ∧ ac ++ zs = all ∧ compL2 tg ft fi tg1 ft1 fe vs1 (wipeE ρ vs) (ds.drop i) μ' = some (.ok zs μf), ?_, ?_⟩
    · obtain ⟨x1, c1, h1⟩ := Hid.new (o := .lst []) p1.mc hp
      exact ⟨_, w1.wr p (.lst []), μ1, [], [], all, rfl, rfl, x1, c1, .refl _ _, h1, rfl, rfl, h2⟩
    · rintro i m H ⟨w', μ', ac, a2, zs, rfl, rfl, x, c', kp, h', r', e3, e4⟩
      obtain ⟨y1, y2⟩ := y w' μ' x.e0 c' ds rfl i
      cases hd : ds[i]? with
      | none =>
        have hle : ds.length ≤ i := by simpa using hd
        rw [List.drop_eq_nil_of_le hle] at e4
        cases e4
        rw [List.append_nil] at e3
        subst e3
        obtain ⟨x3, c3, f3⟩ := h'.stays hp x c'
        exact .inl ⟨y2 hle, fin (w'.kill p) (.ref p) (p1.trans ⟨x3, c3, kp⟩) ⟨p, a2, rfl, .inr rfl, h'.at_, f3 r'⟩⟩
      | some d =>
        have hil := (List.getElem?_eq_some_iff.mp hd).1
        have hdr : ds.drop i = d :: ds.drop (i + 1) := by
          rw [List.drop_eq_getElem_cons hil]
          congr 1
          rw [List.getElem?_eq_getElem hil] at hd
          exact Option.some.inj hd
        obtain ⟨go, yl⟩ := y1 d hd
        refine .inr ⟨go, fun H => ∃ w' μ' ac a2 zs, w'.H = H ∧ Ex w1 w' ∧ Mc G w' μ' ∧ Kp n0 μ1 μ' ∧ Hid w' p (.lst a2) ∧ Frs G.K w' ac a2 ∧ ac ++ zs = all ∧ compL2 tg ft fi tg1 ft1 fe vs1 (wipeE ρ vs) (ds.drop (i + 1)) μ' = some (.ok zs μf), fun H' ⟨w', μ', ac, a2, zs, q1, q⟩ => ⟨_, by rw [hdr]; exact Nat.lt_succ_self _, w', μ', ac, a2, zs, q1, rfl, q⟩, fun u H' hy => ?_⟩
        obtain ⟨w2, rfl, x2, c2, fr⟩ := yl u H' hy
        have hn2 : n0 ≤ μ'.length := Nat.le_trans hn1 kp.len
        have xx2 := x.trans x2
        rw [hdr] at e4
        simp only [compL2] at e4
        unfold stepC2 at e4
        split at e4 <;> try cases e4
        rename_i ρ1 μ2 h1
        refine hm _ _ _ _ _ (fun σ2 H2 ⟨a, b⟩ => ⟨a.trans (wipe_wipe σ vs), b⟩) (ho _ _ _ _ (hg w2 (wipeE ρ vs) μ' (wipe σ vs) d u c2 ((vr1.mono xx2).wipe vs) hn2 fr _ h1 _ fun w3 σ3 p3 v3 => ?_))
        have hn3 := p3.nn hn2
        have kp3 := kp.trans p3.kp
        split at e4
        · rename_i μ3 h3
          refine ht w3 ρ1 μ2 σ3 p3.mc v3 hn3 _ h3 _ fun w4 b p4 r4 => ?_
          have r4 : b = true := r4
          subst r4
          rw [if_pos rfl]
          have hn4 := p4.nn hn3
          split at e4 <;> try cases e4
          rename_i ds1 μ4 h4
          split at e4 <;> try cases e4
          rename_i ys1 μ5 h5
          split at e4 <;> cases e4
          rename_i ys' h6
          refine hi1 w4 ρ1 μ3 σ3 p4.mc (v3.mono p4.ex) hn4 _ h4 _ fun w5 J1 p5 y5 => ?_
          have x25 := (x2.trans p3.ex).trans (p4.ex.trans p5.ex)
          have hl : ac.length + (ys1.length + ys'.length) = all.length := by
            rw [← e3]
            simp only [List.length_append]
          refine turns2 hg1 ho1 hm1 ht1 he p1.mc hp (x.trans x25) p5.mc ((v3.mono p4.ex).mono p5.ex) (p5.nn hn4) (h'.ex x25) (r'.mono x25) y5 h5 (by omega) fun w6 av6 x6 xx6 c6 k6 h6' r6 => ?_
          exact ⟨w6, μ5, ac ++ ys1, av6, ys', rfl, x6, c6, ((kp3.trans p4.kp).trans p5.kp).trans k6, h6', r6, by rw [← e3]; simp, h6⟩
        · rename_i μ3 h3
          refine ht w3 ρ1 μ2 σ3 p3.mc v3 hn3 _ h3 _ fun w4 b p4 r4 => ?_
          have r4 : b = false := r4
          subst r4
          rw [if_neg Bool.false_ne_true]
          have x24 := (x2.trans p3.ex).trans p4.ex
          exact ⟨w4, μ3, ac, a2, zs, rfl, x.trans x24, p4.mc, kp3.trans p4.kp, h'.ex x24, r'.mono x24, e3, e4⟩
        · cases e4
  · subst e2
    exact hi w ρ μ σ c vr hn _ e1 _ fun w1 cls dx p x => fin w1 cls dx p x
end
end G4

/-! G63: raise of a class without own __init__ with any text; f'words {int} words'. -/
namespace G4
open PySem PySem.Spec PyProof.Rows L2
section
variable {X : Cx} {W : WX} {C : Ct} {x : Str} {a : Addr} {p pos pos2 : Pos} {e : Expr} {te : TE}
theorem pmk_ownE {c : Addr} {B newId initId : String} {bmB : List Value} (F : ExcBaseFacts B newId initId bmB) (q : PySem.W.excIn X.K c bmB newId = true) (gC : X.mg x = some (.ref c)) (kC : PySem.W.keepIn X.K (.ref c) = true) (r : Raises X (.ref c)) (hg : Gl X x) (he : PE X e te)
    (hdb : (x == ("__debug__" : Str)) = false := by decide)
    (hst : starEach [e] X.env = (false, eval e X.env) :: starEach [] X.env := by rfl) (hpl : (backTo pos (starEach [] X.env)).any (·.1) = false := by rfl) :
    PMk X (.Call (.Name x p) [e] [] pos) (fun σ H Q => te σ H fun x H1 => (∃ v, [x] = [v]) ∧ Q (.ref c) none H1) := by
  intro pins s σ H Q I h
  refine wpAny_Call_Name_kw (ld_glob I hg gC ?_ hdb)
  have ha : PA X [e] (tCons te tNil) := pa_cons he pa_nil (hs := hst)
  refine PySem.W.callWith_K (h₀ := X.base) I.ok.mod.kin kC (thn (ha.run pos pins s σ H (fun vs H1 => (∃ v, vs = [v]) ∧ Q (.ref c) none H1) I h) fun us s1 hh => ?_) hst hpl
  obtain ⟨vs, H1, I1, r1, ⟨v, ev⟩, qq⟩ := hh
  subst ev
  refine ⟨I1.kIn, ?_⟩
  cases r1 with
  | cons ru rn =>
    rename_i u us'
    cases rn
    show wpAny _ _ (call (.ref c) [u]) _ _ _
    obtain ⟨bm, N, nm, qn, bs, hdct, sn, sub, ab, col, dd, k0, k1, k2, k3, k5, mN, hC, hN, hni, T⟩ := exc_obj I1.kIn q
    refine wpAny_call_exc_subT F T hC hN hni (fun h' b hm => ?_) (by show 1 ≤ sizeLine; rw [sizeLine_eq]; omega)
    exact mk_of I1 hm r qq (I1.hok.gone hm.new)
/-- raise c(e) -/
def tRE (W : WX) (v : Value) (te : TE) : TS := fun _ σ H => te σ H fun x H1 => (∃ v, [x] = [v]) ∧ W v none σ H1
theorem ps_raiseE (hc : X.calm = true) (tk : Takes X W) (T : ExT X.K X.mg C x a) (hg : Gl X x) (he : PE X e te) (hdb : (x == ("__debug__" : Str)) = false := by decide)
    (hst : starEach [e] X.env = (false, eval e X.env) :: starEach [] X.env := by rfl) (hpl : (backTo pos (starEach [] X.env)).any (·.1) = false := by rfl) :
    PS X (.Raise (some (.Call (.Name x p) [e] [] pos)) none pos2) (tRE W (C.cls x) te) := by
  rw [T.cls]
  exact ps_raise hc tk (pmk_ownE PySem.F.excBase_ValueError T.x T.g T.k (raises_own T.b T.t) hg he hdb hst hpl)
end
section
variable {G : Gx} {n0 : Nat} {W : WX}
def sRaiseE (c : Str) (f : Ev D) : Sv := fun ρ μ => (f ρ μ).thn ρ fun _ μ1 => some (.ex ⟨c, []⟩ ρ μ1)
theorem ds_raiseE {c : Str} {te : TE} {f : Ev D} (h : DE G n0 W te f) : DS G n0 W (tRE W (G.C.cls c) te) (sRaiseE c f) := by
  intro w ρ μ σ cc vr hn fl e E fin
  show te σ w.H _
  unfold sRaiseE at e
  refine thn_run h cc vr hn e fin fun w1 μ1 d v p r e2 fin1 => ?_
  cases e2
  exact ⟨⟨_, rfl⟩, fin1 w1 σ (G.C.cls c) none (.refl p.mc) (vr.mono p.ex) ⟨rfl, rfl⟩⟩
@[simp] theorem sRaiseE_ap {ρ : Env} {μ : Mu} (c : Str) (f : Ev D) : sRaiseE c f ρ μ = (f ρ μ).thn ρ fun _ μ1 => some (.ex ⟨c, []⟩ ρ μ1) := rfl
/-! f'words {int} words' -/
abbrev tFs3 (m : Str) (t : TE) (m2 : Str) : TE := fun σ H Q => tJs [tC (.str m), tFmt t, tC (.str m2)] Str.empty σ H fun out H1 => Q (.str out) H1
def fs3 (m m2 : Str) (d : D) (μ : Mu) : Ro D := match d with
  | .int i => if i.natAbs.log2 < 1000 ∧ m.length ≤ 1000 ∧ m2.length ≤ 1000 then some (.ok (.str (m ++ toString i ++ m2)) μ) else none
  | _ => none
def eFs3 (m : Str) (f : Ev D) (m2 : Str) : Ev D := fun ρ μ => (f ρ μ).bnd (fs3 m m2)
theorem empty_app3 (m : Str) : Str.empty ++ m = m := by
  show Str.append Str.empty m = m
  unfold Str.append Str.empty
  simp
theorem de_fs3 {m m2 : Str} {t : TE} {f : Ev D} (hm : m.length ≤ 1000) (h : DE G n0 W t f) : DE G n0 W (tFs3 m t m2) (eFs3 m f m2) := by
  intro w ρ μ σ c vr hn q e Q fin
  have hz := sizeLine_eq
  refine ⟨m, rfl, by rw [empty_app3, hz]; omega, ?_⟩
  rw [empty_app3]
  exact (h w ρ μ σ c vr hn).bnd (uu := fun x H1 (Q : VK) => (∃ y : Str, x = .str y ∧ y.length ≤ sizeLine ∧ ∃ y2 : Str, V.str y = .str y2 ∧ (m ++ y2).length ≤ sizeLine ∧ ∃ y3 : Str, V.str m2 = .str y3 ∧ (m ++ y2 ++ y3).length ≤ sizeLine ∧ Q (.str (m ++ y2 ++ y3)) H1) ∨
      ∃ i : Int, x = .int i ∧ i.natAbs.log2 < 1920 ∧ ∃ y2 : Str, V.str (toString i) = .str y2 ∧ (m ++ y2).length ≤ sizeLine ∧ ∃ y3 : Str, V.str m2 = .str y3 ∧ (m ++ y2 ++ y3).length ≤ sizeLine ∧ Q (.str (m ++ y2 ++ y3)) H1) (g := fun d => fs3 m m2 d) (fun w1 μ1 d x p1 r1 => by
    intro q e Q fin
    unfold fs3 at e
    split at e <;> try cases e
    rename_i i
    split at e <;> cases e
    rename_i hl
    obtain rfl : x = .int i := r1
    have hl2 := int_text_len_1921 (i := i) (by omega)
    exact .inr ⟨i, rfl, by omega, _, rfl, by (simp only [PySem.Str.length_append]; omega), _, rfl, by (simp only [PySem.Str.length_append]; omega), fin w1 _ (.refl p1.mc) rfl⟩) q e Q fin
variable {ρ : Env} {μ : Mu}
@[simp] theorem eFs3_ap (m m2 : Str) (f : Ev D) : eFs3 m f m2 ρ μ = Ro.bnd (f ρ μ) (fs3 m m2) := rfl
theorem fs3_ok {m m2 : Str} {i : Int} (h1 : i.natAbs.log2 < 1000) (h2 : m.length ≤ 1000) (h3 : m2.length ≤ 1000) : fs3 m m2 (.int i) μ = some (.ok (.str (m ++ toString i ++ m2)) μ) := if_pos ⟨h1, h2, h3⟩
end
end G4

namespace Law
open PySem PySem.Spec PyProof.Rows L2 G4
def topS (i : Nat) : Stmt := PySem.Challenge.pw_partfilter_k39_whole_beginnings_and_ends.main.body.getD i (.Pass ⟨0, 0, 0, 0⟩)
def fuel : Nat := 100000
/-- what stands for itself -/
structure Zs (mg : Str → Option Value) : Prop where
  all_ : mg "all" = none
  any_ : mg "any" = none
  enumerate_ : mg "enumerate" = none
  int_ : mg "int" = none
  isinstance_ : mg "isinstance" = none
  len_ : mg "len" = none
  list_ : mg "list" = none
  max_ : mg "max" = none
  min_ : mg "min" = none
  range_ : mg "range" = none
  set_ : mg "set" = none
  tuple_ : mg "tuple" = none
  y_MOST_LETTERS : ∃ u, mg "MOST_LETTERS" = some u ∧ RelV (.int 3) u
  y_MOST_VALUES : ∃ u, mg "MOST_VALUES" = some u ∧ RelV (.int 4) u
section
variable {P : Program} {w : World} {K : PySem.W.Frag} {mg : Str → Option Value} {base : Heap} {C : Ct}
/-- the classes of exceptions -/
structure Es (P : Program) (w : World) (K : PySem.W.Frag) (mg : Str → Option Value) (base : Heap) (C : Ct) (a_NoLength a_FilterError : Addr) : Prop where
  t_NoLength : ExT K mg C "NoLength" a_NoLength
  g_FilterError : mg "FilterError" = some (.ref a_FilterError)
  c_FilterError : PySem.W.isClsIn K a_FilterError = true ∧ PySem.W.typeIn K (.ref a_FilterError) = some (.type "type")
  s_NoLength_NoLength : PySem.W.subIn K (.ref a_NoLength) (.ref a_NoLength) = some true
  k_NoLength_FilterError : PySem.W.kitOne K (.ref a_NoLength) (.ref a_FilterError) = some true
abbrev s__law_draws : Stmt := topS 25
noncomputable def b__law_draws (n0 : Nat) : Sv :=
    (sSeq (sSet 3 (eVar 0))
    (sSeq (sIf (eTest (eOp oLt (eVar 3) (eC (.int 0)))) (sSet 3 (eOp oSub (eC (.int 0)) (eVar 3))) sNil)
    (sSeq (sSet 4 (eLstC aNil))
    (sSeq (sIf (eTest (eOp oGe (eVar 3) (eOp oPow (eC (.int 10)) (eC (.int 18))))) (sSeq (sFor (iRg1 (aCons (eVar 2) aNil)) (tName 5) (sSeq (sDrop (eMt (oAppend n0) (eVar 4) (aCons (eOp oMod (eB oInt (aCons (eVar 3) aNil)) (eVar 1)) aNil)))
    (sSet 3 (eOp oDiv (eVar 3) (eVar 1)))))
    (sRet (eFrz (eVar 4)))) sNil)
    (sSeq (sFor (iRg1 (aCons (eVar 2) aNil)) (tName 5) (sSeq (sSet 6 (eOp oMod (eB oInt (aCons (eOp oMul (eOp oPlus (eOp oPlus (eVar 3) (eOp oMul (eC (.int 7)) (eVar 5))) (eC (.int 1))) (eC (.int 48271))) aNil)) (eC (.int 2147483647))))
    (sSeq (sSet 6 (eOp oMod (eB oInt (aCons (eOp oPlus (eOp oMul (eVar 6) (eC (.int 69621))) (eOp oMul (eC (.int 31)) (eVar 5))) aNil)) (eC (.int 2147483629))))
    (sDrop (eMt (oAppend n0) (eVar 4) (aCons (eOp oMod (eB oInt (aCons (eOp oDiv (eVar 6) (eC (.int 7))) aNil)) (eVar 1)) aNil))))))
    (sRet (eFrz (eVar 4))))))))
noncomputable def m__law_draws : Fd := runD 7 b__law_draws
theorem sc__law_draws : FnScope ["_law_cell", "_law_modulus", "_law_count", "_law_number", "_law_row", "_law_k", "_law_mixed"] ["_law_cell", "_law_modulus", "_law_count"] (defScope s__law_draws) := ⟨rfl, rfl, rfl, by decide +kernel, rfl, by decide +kernel, by decide +kernel⟩
theorem df__law_draws (Z : Zs mg) (T : DefAt K mg "_law_draws" s__law_draws ["_law_cell", "_law_modulus", "_law_count"]) : Df P w K mg base C 1 "_law_draws" 3 m__law_draws := by
  refine df_of (N := ["_law_cell", "_law_modulus", "_law_count", "_law_number", "_law_row", "_law_k", "_law_mixed"]) (ps := ["_law_cell", "_law_modulus", "_law_count"]) (n := 3) (k := 0) (body := b__law_draws) T sc__law_draws rfl (by decide) fun X f A s H E outer cdv hX hr => ?_
  subst hX
  have nd := sc__law_draws.nd
  exact ⟨_, (pss_cons (ps_set (i := 3) nd rfl (Or.inl rfl) (pv 0))
      (pss_cons (ps_if (pt_cmpR op_lt (pv 3) pe_int (nomark _)) (pss_one (ps_set (i := 3) nd rfl (Or.inl rfl) (pe_op op_sub pe_int (pv 3)))) pss_nil)
      (pss_cons (ps_set (i := 4) nd rfl (Or.inl rfl) (pe_lst pa_nil))
      (pss_cons (ps_if (pt_cmpR op_ge (pv 3) (pe_op op_pow pe_int pe_int) (nomark _)) (pss_cons (ps_for PassesOwn.never rfl (pi_range1 (by rfl) Z.range_ (pa_cons (pv 2) pa_nil)) (pg_name (i := 5) nd rfl (by first | exact Or.inl rfl | exact Or.inr rfl)) (pss_cons (ps_expr (pe_bm PySem.F.plainAttrs_list PySem.F.slot_list_append PySem.F.type_list_append mt_append (pv 4) (pa_cons (pe_op op_mod (pe_callTy call_int1 (by rfl) Z.int_ (by decide +kernel) (pa_cons (pv 3) pa_nil)) (pv 1)) pa_nil)))
      (pss_one (ps_set (i := 3) nd rfl (Or.inl rfl) (pe_op op_fdiv (pv 3) (pv 1))))))
      (pss_one (ps_ret (pv 4)))) pss_nil)
      (pss_cons (ps_for PassesOwn.never rfl (pi_range1 (by rfl) Z.range_ (pa_cons (pv 2) pa_nil)) (pg_name (i := 5) nd rfl (by first | exact Or.inl rfl | exact Or.inr rfl)) (pss_cons (ps_set (i := 6) nd rfl (Or.inl rfl) (pe_op op_mod (pe_callTy call_int1 (by rfl) Z.int_ (by decide +kernel) (pa_cons (pe_op op_mul (pe_op op_plus (pe_op op_plus (pv 3) (pe_op op_mul pe_int (pv 5))) pe_int) pe_int) pa_nil)) pe_int))
      (pss_cons (ps_set (i := 6) nd rfl (Or.inl rfl) (pe_op op_mod (pe_callTy call_int1 (by rfl) Z.int_ (by decide +kernel) (pa_cons (pe_op op_plus (pe_op op_mul (pv 6) pe_int) (pe_op op_mul pe_int (pv 5))) pa_nil)) pe_int))
      (pss_one (ps_expr (pe_bm PySem.F.plainAttrs_list PySem.F.slot_list_append PySem.F.type_list_append mt_append (pv 4) (pa_cons (pe_op op_mod (pe_callTy call_int1 (by rfl) Z.int_ (by decide +kernel) (pa_cons (pe_op op_fdiv (pv 6) pe_int) pa_nil)) (pv 1)) pa_nil)))))))
      (pss_one (ps_ret (pv 4)))))))),
    fun n0 => (ds_seq (ds_set (i := 3) (de_var (i := 0)))
      (ds_seq (ds_if (dt_test (de_op dr_lt (de_var (i := 3)) (de_c (d := .int 0) (v := .int 0) (fun _ => rfl)))) (ds_set (i := 3) (de_op dr_sub (de_c (d := .int 0) (v := .int 0) (fun _ => rfl)) (de_var (i := 3)))) ds_next)
      (ds_seq (ds_set (i := 4) (de_lstC da_nil))
      (ds_seq (ds_if (dt_test (de_op dr_ge (de_var (i := 3)) (de_op dr_pow (de_c (d := .int 10) (v := .int 10) (fun _ => rfl)) (de_c (d := .int 18) (v := .int 18) (fun _ => rfl))))) (ds_seq (ds_for (di_rg1 (da_cons (de_var (i := 2)) da_nil)) dg_name (ds_seq (ds_drop (de_mt dm_append (de_var (i := 4)) (da_cons (de_op dr_mod (de_b drn_int (da_cons (de_var (i := 3)) da_nil)) (de_var (i := 1))) da_nil)))
      (ds_set (i := 3) (de_op dr_div (de_var (i := 3)) (de_var (i := 1))))))
      (ds_ret (de_frz (de_var (i := 4))))) ds_next)
      (ds_seq (ds_for (di_rg1 (da_cons (de_var (i := 2)) da_nil)) dg_name (ds_seq (ds_set (i := 6) (de_op dr_mod (de_b drn_int (da_cons (de_op dr_mul (de_op dr_plus (de_op dr_plus (de_var (i := 3)) (de_op dr_mul (de_c (d := .int 7) (v := .int 7) (fun _ => rfl)) (de_var (i := 5)))) (de_c (d := .int 1) (v := .int 1) (fun _ => rfl))) (de_c (d := .int 48271) (v := .int 48271) (fun _ => rfl))) da_nil)) (de_c (d := .int 2147483647) (v := .int 2147483647) (fun _ => rfl))))
      (ds_seq (ds_set (i := 6) (de_op dr_mod (de_b drn_int (da_cons (de_op dr_plus (de_op dr_mul (de_var (i := 6)) (de_c (d := .int 69621) (v := .int 69621) (fun _ => rfl))) (de_op dr_mul (de_c (d := .int 31) (v := .int 31) (fun _ => rfl)) (de_var (i := 5)))) da_nil)) (de_c (d := .int 2147483629) (v := .int 2147483629) (fun _ => rfl))))
      (ds_drop (de_mt dm_append (de_var (i := 4)) (da_cons (de_op dr_mod (de_b drn_int (da_cons (de_op dr_div (de_var (i := 6)) (de_c (d := .int 7) (v := .int 7) (fun _ => rfl))) da_nil)) (de_var (i := 1))) da_nil))))))
      (ds_ret (de_frz (de_var (i := 4)))))))))⟩
abbrev s__law_box : Stmt := topS 26
noncomputable def b__law_box (n0 : Nat) : Sv :=
    (sSeq (sSet 1 (eLst aNil))
    (sSeq (sFor (iAnyD (eVar 0)) (tName 2) (sSet 1 (eOp oPlus (eVar 1) (eCall m__law_draws (aCons (eVar 2) (aCons (eC (.int 1000003)) (aCons (eC (.int 6)) aNil)))))))
    (sSeq (sIf (eTest (eOp oEq (eB oLen (aCons (eVar 1) aNil)) (eC (.int 0)))) (sSet 1 (eLst (aCons (eC (.int 11)) (aCons (eC (.int 5)) (aCons (eC (.int 2)) (aCons (eC (.int 7)) (aCons (eC (.int 31)) (aCons (eC (.int 101)) (aCons (eC (.int 997)) aNil))))))))) sNil)
    (sRet (eDisp [((eC (.str "row")), (eVar 1)), ((eC (.str "at")), (eC (.int 0)))])))))
noncomputable def m__law_box : Fd := runD 3 b__law_box
theorem sc__law_box : FnScope ["_law_script", "_law_row", "_law_cell"] ["_law_script"] (defScope s__law_box) := ⟨rfl, rfl, rfl, by decide +kernel, rfl, by decide +kernel, by decide +kernel⟩
theorem df__law_box (Z : Zs mg) (T : DefAt K mg "_law_box" s__law_box ["_law_script"]) (D__law_draws : Df P w K mg base C 1 "_law_draws" 3 m__law_draws) : Df P w K mg base C 2 "_law_box" 1 m__law_box := by
  obtain ⟨f__law_draws, fd__law_draws, ps__law_draws, F__law_draws, g__law_draws, k__law_draws, b__law_draws⟩ := D__law_draws.ex
  refine df_of (N := ["_law_script", "_law_row", "_law_cell"]) (ps := ["_law_script"]) (n := 1) (k := 1) (body := b__law_box) T sc__law_box rfl (by decide) fun X f A s H E outer cdv hX hr => ?_
  subst hX
  have nd := sc__law_box.nd
  exact ⟨_, (pss_cons (ps_set (i := 1) nd rfl (Or.inl rfl) (pe_lst pa_nil))
      (pss_cons (ps_for PassesOwn.never rfl (pi_any (pv 0)) (pg_name (i := 2) nd rfl (by first | exact Or.inl rfl | exact Or.inr rfl)) (pss_one (ps_set (i := 1) nd rfl (Or.inl rfl) (pe_op op_plus (pv 1) (pe_call F__law_draws (hr.mono (by decide)) (by rfl) g__law_draws k__law_draws b__law_draws .nil pass0 (pa_cons (pv 2) (pa_cons pe_int (pa_cons pe_int pa_nil))))))))
      (pss_cons (ps_if (pt_cmpR (op_eqD hr.units) (pe_callB call_lenA (by rfl) Z.len_ (by decide +kernel) (pa_cons (pv 1) pa_nil)) pe_int (nomark _)) (pss_one (ps_set (i := 1) nd rfl (Or.inl rfl) (pe_lst (pa_cons pe_int (pa_cons pe_int (pa_cons pe_int (pa_cons pe_int (pa_cons pe_int (pa_cons pe_int (pa_cons pe_int pa_nil)))))))))) pss_nil)
      (pss_one (ps_ret (pe_disp (pps_cons pe_str (pv 1) (pps_cons pe_str pe_int pps_nil)) (by rfl) (by rfl) (fun z => by cases z) (by decide))))))),
    fun n0 => (ds_seq (ds_set (i := 1) (de_lst da_nil))
      (ds_seq (ds_for (di_any (de_var (i := 0))) dg_name (ds_set (i := 1) (de_op dr_plus (de_var (i := 1)) (de_call (n := 3) (m := m__law_draws) (da_cons (de_var (i := 2)) (da_cons (de_c (d := .int 1000003) (v := .int 1000003) (fun _ => rfl)) (da_cons (de_c (d := .int 6) (v := .int 6) (fun _ => rfl)) da_nil))) (argN_cons (argN_cons (argN_cons argN_nil)))))))
      (ds_seq (ds_if (dt_test (de_op dr_eq (de_b drn_len (da_cons (de_var (i := 1)) da_nil)) (de_c (d := .int 0) (v := .int 0) (fun _ => rfl)))) (ds_set (i := 1) (de_lst (da_cons (de_c (d := .int 11) (v := .int 11) (fun _ => rfl)) (da_cons (de_c (d := .int 5) (v := .int 5) (fun _ => rfl)) (da_cons (de_c (d := .int 2) (v := .int 2) (fun _ => rfl)) (da_cons (de_c (d := .int 7) (v := .int 7) (fun _ => rfl)) (da_cons (de_c (d := .int 31) (v := .int 31) (fun _ => rfl)) (da_cons (de_c (d := .int 101) (v := .int 101) (fun _ => rfl)) (da_cons (de_c (d := .int 997) (v := .int 997) (fun _ => rfl)) da_nil))))))))) ds_next)
      (ds_ret (de_disp (DPs.cons (de_c (d := .str "row") (v := .str "row") (fun _ => rfl)) (de_var (i := 1)) (DPs.cons (de_c (d := .str "at") (v := .str "at") (fun _ => rfl)) (de_c (d := .int 0) (v := .int 0) (fun _ => rfl)) DPs.nil)))))))⟩
abbrev s__law_next : Stmt := topS 27
noncomputable def b__law_next (n0 : Nat) : Sv :=
    (sSeq (sSet 2 (eGet (eVar 0) (eC (.str "at"))))
    (sSeq (sPut n0 (eVar 0) (eC (.str "at")) (eOp oPlus (eVar 2) (eC (.int 1))))
    (sSeq (sSet 3 (eOp oIx (eGet (eVar 0) (eC (.str "row"))) (eOp oMod (eVar 2) (eB oLen (aCons (eGet (eVar 0) (eC (.str "row"))) aNil)))))
    (sRet (eOp oMod (eB oInt (aCons (eOp oPlus (eVar 3) (eOp oMul (eC (.int 7919)) (eOp oDiv (eVar 2) (eB oLen (aCons (eGet (eVar 0) (eC (.str "row"))) aNil))))) aNil)) (eVar 1))))))
noncomputable def m__law_next : Fd := runD 4 b__law_next
theorem sc__law_next : FnScope ["_law_box_here", "_law_modulus", "_law_at", "_law_number"] ["_law_box_here", "_law_modulus"] (defScope s__law_next) := ⟨rfl, rfl, rfl, by decide +kernel, rfl, by decide +kernel, by decide +kernel⟩
theorem df__law_next (Z : Zs mg) (T : DefAt K mg "_law_next" s__law_next ["_law_box_here", "_law_modulus"]) : Df P w K mg base C 1 "_law_next" 2 m__law_next := by
  refine df_of (N := ["_law_box_here", "_law_modulus", "_law_at", "_law_number"]) (ps := ["_law_box_here", "_law_modulus"]) (n := 2) (k := 0) (body := b__law_next) T sc__law_next rfl (by decide) fun X f A s H E outer cdv hX hr => ?_
  subst hX
  have nd := sc__law_next.nd
  exact ⟨_, (pss_cons (ps_set (i := 2) nd rfl (Or.inl rfl) (pe_dget (hu_of hr) (pv 0) pe_str (fun _ _ => rfl)))
      (pss_cons (ps_dput (hu_of hr) (pv 0) pe_str (pe_op op_plus (pv 2) pe_int) rfl)
      (pss_cons (ps_set (i := 3) nd rfl (Or.inl rfl) (pe_ix ix_seq (pe_dget (hu_of hr) (pv 0) pe_str (fun _ _ => rfl)) (pe_op op_mod (pv 2) (pe_callB call_lenA (by rfl) Z.len_ (by decide +kernel) (pa_cons (pe_dget (hu_of hr) (pv 0) pe_str (fun _ _ => rfl)) pa_nil))) (fun _ _ => rfl)))
      (pss_one (ps_ret (pe_op op_mod (pe_callTy call_int1 (by rfl) Z.int_ (by decide +kernel) (pa_cons (pe_op op_plus (pv 3) (pe_op op_mul pe_int (pe_op op_fdiv (pv 2) (pe_callB call_lenA (by rfl) Z.len_ (by decide +kernel) (pa_cons (pe_dget (hu_of hr) (pv 0) pe_str (fun _ _ => rfl)) pa_nil))))) pa_nil)) (pv 1))))))),
    fun n0 => (ds_seq (ds_set (i := 2) (de_get (de_var (i := 0)) (de_c (d := .str "at") (v := .str "at") (fun _ => rfl))))
      (ds_seq (ds_put (de_var (i := 0)) (de_c (d := .str "at") (v := .str "at") (fun _ => rfl)) (de_op dr_plus (de_var (i := 2)) (de_c (d := .int 1) (v := .int 1) (fun _ => rfl))))
      (ds_seq (ds_set (i := 3) (de_op dr_ix (de_get (de_var (i := 0)) (de_c (d := .str "row") (v := .str "row") (fun _ => rfl))) (de_op dr_mod (de_var (i := 2)) (de_b drn_len (da_cons (de_get (de_var (i := 0)) (de_c (d := .str "row") (v := .str "row") (fun _ => rfl))) da_nil)))))
      (ds_ret (de_op dr_mod (de_b drn_int (da_cons (de_op dr_plus (de_var (i := 3)) (de_op dr_mul (de_c (d := .int 7919) (v := .int 7919) (fun _ => rfl)) (de_op dr_div (de_var (i := 2)) (de_b drn_len (da_cons (de_get (de_var (i := 0)) (de_c (d := .str "row") (v := .str "row") (fun _ => rfl))) da_nil))))) da_nil)) (de_var (i := 1)))))))⟩
abbrev s__law_associative : Stmt := topS 29
noncomputable def b__law_associative (n0 : Nat) : Sv :=
    (sSeq (sSet 1 (eB oLen (aCons (eVar 0) aNil)))
    (sSeq (sFor (iRg1 (aCons (eVar 1) aNil)) (tName 2) (sFor (iRg1 (aCons (eVar 1) aNil)) (tName 3) (sFor (iRg1 (aCons (eVar 1) aNil)) (tName 4) (sIf (eTest (eOp oNe (eOp oIx (eOp oIx (eVar 0) (eOp oIx (eOp oIx (eVar 0) (eVar 2)) (eVar 3))) (eVar 4)) (eOp oIx (eOp oIx (eVar 0) (eVar 2)) (eOp oIx (eOp oIx (eVar 0) (eVar 3)) (eVar 4))))) (sRet (eC (.bl false))) sNil))))
    (sRet (eC (.bl true)))))
noncomputable def m__law_associative : Fd := runD 5 b__law_associative
theorem sc__law_associative : FnScope ["_law_table_here", "_law_size", "_law_a", "_law_b", "_law_c"] ["_law_table_here"] (defScope s__law_associative) := ⟨rfl, rfl, rfl, by decide +kernel, rfl, by decide +kernel, by decide +kernel⟩
theorem df__law_associative (Z : Zs mg) (T : DefAt K mg "_law_associative" s__law_associative ["_law_table_here"]) : Df P w K mg base C 1 "_law_associative" 1 m__law_associative := by
  refine df_of (N := ["_law_table_here", "_law_size", "_law_a", "_law_b", "_law_c"]) (ps := ["_law_table_here"]) (n := 1) (k := 0) (body := b__law_associative) T sc__law_associative rfl (by decide) fun X f A s H E outer cdv hX hr => ?_
  subst hX
  have nd := sc__law_associative.nd
  exact ⟨_, (pss_cons (ps_set (i := 1) nd rfl (Or.inl rfl) (pe_callB call_lenA (by rfl) Z.len_ (by decide +kernel) (pa_cons (pv 0) pa_nil)))
      (pss_cons (ps_for PassesOwn.never rfl (pi_range1 (by rfl) Z.range_ (pa_cons (pv 1) pa_nil)) (pg_name (i := 2) nd rfl (by first | exact Or.inl rfl | exact Or.inr rfl)) (pss_one (ps_for PassesOwn.never rfl (pi_range1 (by rfl) Z.range_ (pa_cons (pv 1) pa_nil)) (pg_name (i := 3) nd rfl (by first | exact Or.inl rfl | exact Or.inr rfl)) (pss_one (ps_for PassesOwn.never rfl (pi_range1 (by rfl) Z.range_ (pa_cons (pv 1) pa_nil)) (pg_name (i := 4) nd rfl (by first | exact Or.inl rfl | exact Or.inr rfl)) (pss_one (ps_if (pt_cmpR (op_neD hr.units) (pe_ix ix_seq (pe_ix ix_seq (pv 0) (pe_ix ix_seq (pe_ix ix_seq (pv 0) (pv 2) (fun _ _ => rfl)) (pv 3) (fun _ _ => rfl)) (fun _ _ => rfl)) (pv 4) (fun _ _ => rfl)) (pe_ix ix_seq (pe_ix ix_seq (pv 0) (pv 2) (fun _ _ => rfl)) (pe_ix ix_seq (pe_ix ix_seq (pv 0) (pv 3) (fun _ _ => rfl)) (pv 4) (fun _ _ => rfl)) (fun _ _ => rfl)) (nomark _)) (pss_one (ps_ret pe_bl)) pss_nil)))))))
      (pss_one (ps_ret pe_bl)))),
    fun n0 => (ds_seq (ds_set (i := 1) (de_b drn_len (da_cons (de_var (i := 0)) da_nil)))
      (ds_seq (ds_for (di_rg1 (da_cons (de_var (i := 1)) da_nil)) dg_name (ds_for (di_rg1 (da_cons (de_var (i := 1)) da_nil)) dg_name (ds_for (di_rg1 (da_cons (de_var (i := 1)) da_nil)) dg_name (ds_if (dt_test (de_op dr_ne (de_op dr_ix (de_op dr_ix (de_var (i := 0)) (de_op dr_ix (de_op dr_ix (de_var (i := 0)) (de_var (i := 2))) (de_var (i := 3)))) (de_var (i := 4))) (de_op dr_ix (de_op dr_ix (de_var (i := 0)) (de_var (i := 2))) (de_op dr_ix (de_op dr_ix (de_var (i := 0)) (de_var (i := 3))) (de_var (i := 4)))))) (ds_ret (de_c (d := .bl false) (v := .bl false) (fun _ => rfl))) ds_next))))
      (ds_ret (de_c (d := .bl true) (v := .bl true) (fun _ => rfl)))))⟩
abbrev s__law_simple : Stmt := topS 28
noncomputable def b__law_simple (n0 : Nat) : Sv :=
    (sSeq (sIf (eTest (eOp oEq (eVar 0) (eC (.int 0)))) (sRet (eB oMax2 (aCons (eVar 2) (aCons (eVar 3) aNil)))) sNil)
    (sSeq (sIf (eTest (eOp oEq (eVar 0) (eC (.int 1)))) (sRet (eOp oMod (eB oInt (aCons (eOp oPlus (eVar 2) (eVar 3)) aNil)) (eVar 1))) sNil)
    (sSeq (sIf (eTest (eOp oEq (eVar 0) (eC (.int 2)))) (sRet (eVar 2)) sNil)
    (sSeq (sIf (eTest (eOp oEq (eVar 0) (eC (.int 3)))) (sRet (eVar 3)) sNil)
    (sSeq (sIf (eTest (eOp oEq (eVar 0) (eC (.int 4)))) (sRet (eB oMin2 (aCons (eOp oPlus (eOp oPlus (eVar 2) (eVar 3)) (eC (.int 1))) (aCons (eOp oSub (eVar 1) (eC (.int 1))) aNil)))) sNil)
    (sSeq (sIf (eTest (eOp oEq (eVar 0) (eC (.int 5)))) (sRet (eOp oMod (eB oInt (aCons (eOp oMul (eVar 2) (eVar 3)) aNil)) (eVar 1))) sNil)
    (sSeq (sIf (eAnd (eTest (eOp oEq (eVar 0) (eC (.int 6)))) (eTest (eOp oEq (eVar 2) (eVar 3)))) (sRet (eVar 2)) sNil)
    (sRet (eC (.int 0))))))))))
noncomputable def m__law_simple : Fd := runD 4 b__law_simple
theorem sc__law_simple : FnScope ["_law_kind", "_law_size", "_law_a", "_law_b"] ["_law_kind", "_law_size", "_law_a", "_law_b"] (defScope s__law_simple) := ⟨rfl, rfl, rfl, by decide +kernel, rfl, by decide +kernel, by decide +kernel⟩
theorem df__law_simple (Z : Zs mg) (T : DefAt K mg "_law_simple" s__law_simple ["_law_kind", "_law_size", "_law_a", "_law_b"]) : Df P w K mg base C 1 "_law_simple" 4 m__law_simple := by
  refine df_of (N := ["_law_kind", "_law_size", "_law_a", "_law_b"]) (ps := ["_law_kind", "_law_size", "_law_a", "_law_b"]) (n := 4) (k := 0) (body := b__law_simple) T sc__law_simple rfl (by decide) fun X f A s H E outer cdv hX hr => ?_
  subst hX
  have nd := sc__law_simple.nd
  exact ⟨_, (pss_cons (ps_if (pt_cmpR (op_eqD hr.units) (pv 0) pe_int (nomark _)) (pss_one (ps_ret (pe_callB (call_max2 rfl) (by rfl) Z.max_ (by decide +kernel) (pa_cons (pv 2) (pa_cons (pv 3) pa_nil))))) pss_nil)
      (pss_cons (ps_if (pt_cmpR (op_eqD hr.units) (pv 0) pe_int (nomark _)) (pss_one (ps_ret (pe_op op_mod (pe_callTy call_int1 (by rfl) Z.int_ (by decide +kernel) (pa_cons (pe_op op_plus (pv 2) (pv 3)) pa_nil)) (pv 1)))) pss_nil)
      (pss_cons (ps_if (pt_cmpR (op_eqD hr.units) (pv 0) pe_int (nomark _)) (pss_one (ps_ret (pv 2))) pss_nil)
      (pss_cons (ps_if (pt_cmpR (op_eqD hr.units) (pv 0) pe_int (nomark _)) (pss_one (ps_ret (pv 3))) pss_nil)
      (pss_cons (ps_if (pt_cmpR (op_eqD hr.units) (pv 0) pe_int (nomark _)) (pss_one (ps_ret (pe_callB (call_min2 rfl) (by rfl) Z.min_ (by decide +kernel) (pa_cons (pe_op op_plus (pe_op op_plus (pv 2) (pv 3)) pe_int) (pa_cons (pe_op op_sub (pv 1) pe_int) pa_nil))))) pss_nil)
      (pss_cons (ps_if (pt_cmpR (op_eqD hr.units) (pv 0) pe_int (nomark _)) (pss_one (ps_ret (pe_op op_mod (pe_callTy call_int1 (by rfl) Z.int_ (by decide +kernel) (pa_cons (pe_op op_mul (pv 2) (pv 3)) pa_nil)) (pv 1)))) pss_nil)
      (pss_cons (ps_if (PW.pt (pw_and (pt_cmpR (op_eqD hr.units) (pv 0) pe_int (nomark _)) (pw_and1 (pt_cmpR (op_eqD hr.units) (pv 2) (pv 3) (nomark _))))) (pss_one (ps_ret (pv 2))) pss_nil)
      (pss_one (ps_ret pe_int))))))))),
    fun n0 => (ds_seq (ds_if (dt_test (de_op dr_eq (de_var (i := 0)) (de_c (d := .int 0) (v := .int 0) (fun _ => rfl)))) (ds_ret (de_b drn_max2 (da_cons (de_var (i := 2)) (da_cons (de_var (i := 3)) da_nil)))) ds_next)
      (ds_seq (ds_if (dt_test (de_op dr_eq (de_var (i := 0)) (de_c (d := .int 1) (v := .int 1) (fun _ => rfl)))) (ds_ret (de_op dr_mod (de_b drn_int (da_cons (de_op dr_plus (de_var (i := 2)) (de_var (i := 3))) da_nil)) (de_var (i := 1)))) ds_next)
      (ds_seq (ds_if (dt_test (de_op dr_eq (de_var (i := 0)) (de_c (d := .int 2) (v := .int 2) (fun _ => rfl)))) (ds_ret (de_var (i := 2))) ds_next)
      (ds_seq (ds_if (dt_test (de_op dr_eq (de_var (i := 0)) (de_c (d := .int 3) (v := .int 3) (fun _ => rfl)))) (ds_ret (de_var (i := 3))) ds_next)
      (ds_seq (ds_if (dt_test (de_op dr_eq (de_var (i := 0)) (de_c (d := .int 4) (v := .int 4) (fun _ => rfl)))) (ds_ret (de_b drn_min2 (da_cons (de_op dr_plus (de_op dr_plus (de_var (i := 2)) (de_var (i := 3))) (de_c (d := .int 1) (v := .int 1) (fun _ => rfl))) (da_cons (de_op dr_sub (de_var (i := 1)) (de_c (d := .int 1) (v := .int 1) (fun _ => rfl))) da_nil)))) ds_next)
      (ds_seq (ds_if (dt_test (de_op dr_eq (de_var (i := 0)) (de_c (d := .int 5) (v := .int 5) (fun _ => rfl)))) (ds_ret (de_op dr_mod (de_b drn_int (da_cons (de_op dr_mul (de_var (i := 2)) (de_var (i := 3))) da_nil)) (de_var (i := 1)))) ds_next)
      (ds_seq (ds_if (dt_and (dt_test (de_op dr_eq (de_var (i := 0)) (de_c (d := .int 6) (v := .int 6) (fun _ => rfl)))) (dt_test (de_op dr_eq (de_var (i := 2)) (de_var (i := 3))))) (ds_ret (de_var (i := 2))) ds_next)
      (ds_ret (de_c (d := .int 0) (v := .int 0) (fun _ => rfl))))))))))⟩
abbrev s__law_table : Stmt := topS 30
noncomputable def b__law_table (n0 : Nat) : Sv :=
    (sSeq (sIf (eTest (eOp oEq (eCall m__law_next (aCons (eVar 0) (aCons (eC (.int 3)) aNil))) (eC (.int 0)))) (sSeq (sSet 7 (eComp (iRg1 (aCons (eVar 1) aNil)) (tName 6) eYes (eComp (iRg1 (aCons (eVar 1) aNil)) (tName 10) eYes (eCall m__law_next (aCons (eVar 0) (aCons (eVar 1) aNil))) [10]) [6]))
    (sIf (eTest (eCall m__law_associative (aCons (eVar 7) aNil))) (sRet (eB oTuple (aCons (eComp (iAnyD (eVar 7)) (tName 11) eYes (eB oTuple (aCons (eVar 11) aNil)) [11]) aNil))) sNil)) sNil)
    (sSeq (sSet 2 (eCall m__law_next (aCons (eVar 0) (aCons (eC (.int 8)) aNil))))
    (sSeq (sSet 3 (eCompC (iRg1 (aCons (eVar 1) aNil)) (tName 4) eYes (eVar 4) [4]))
    (sSeq (sFor (iRg1 (aCons (eOp oSub (eVar 1) (eC (.int 1))) aNil)) (tName 4) (sSeq (sSet 8 (eOp oPlus (eVar 4) (eCall m__law_next (aCons (eVar 0) (aCons (eOp oSub (eVar 1) (eVar 4)) aNil)))))
    (sSeq (sSet 9 (eOp oIx (eVar 3) (eVar 4)))
    (sSeq (sAsg (eOp oIx (eVar 3) (eVar 8)) (tSub n0 (eVar 3) (eVar 4)))
    (sAsg (eVar 9) (tSub n0 (eVar 3) (eVar 8)))))))
    (sSeq (sSet 5 (eCompC (iRg1 (aCons (eVar 1) aNil)) (tName 6) eYes (eCompC (iRg1 (aCons (eVar 1) aNil)) (tName 10) eYes (eC (.int 0)) [10]) [6]))
    (sSeq (sFor (iRg1 (aCons (eVar 1) aNil)) (tName 6) (sFor (iRg1 (aCons (eVar 1) aNil)) (tName 10) (sAsg (eOp oIx (eVar 3) (eCall m__law_simple (aCons (eVar 2) (aCons (eVar 1) (aCons (eVar 6) (aCons (eVar 10) aNil)))))) (tSub n0 (eOp oIx (eVar 5) (eOp oIx (eVar 3) (eVar 6))) (eOp oIx (eVar 3) (eVar 10))))))
    (sRet (eB oTuple (aCons (eComp (iAnyD (eVar 5)) (tName 11) eYes (eB oTuple (aCons (eVar 11) aNil)) [11]) aNil)))))))))
noncomputable def m__law_table : Fd := runD 12 b__law_table
theorem sc__law_table : FnScope ["_law_box_here", "_law_size", "_law_kind", "_law_names", "_law_k", "_law_rows", "_law_a", "_law_drawn", "_law_other", "_law_kept", "_law_b", "_law_row"] ["_law_box_here", "_law_size"] (defScope s__law_table) := ⟨rfl, rfl, rfl, by decide +kernel, rfl, by decide +kernel, by decide +kernel⟩
theorem df__law_table (Z : Zs mg) (T : DefAt K mg "_law_table" s__law_table ["_law_box_here", "_law_size"]) (D__law_next : Df P w K mg base C 1 "_law_next" 2 m__law_next) (D__law_associative : Df P w K mg base C 1 "_law_associative" 1 m__law_associative) (D__law_simple : Df P w K mg base C 1 "_law_simple" 4 m__law_simple) : Df P w K mg base C 2 "_law_table" 2 m__law_table := by
  obtain ⟨f__law_next, fd__law_next, ps__law_next, F__law_next, g__law_next, k__law_next, b__law_next⟩ := D__law_next.ex
  obtain ⟨f__law_associative, fd__law_associative, ps__law_associative, F__law_associative, g__law_associative, k__law_associative, b__law_associative⟩ := D__law_associative.ex
  obtain ⟨f__law_simple, fd__law_simple, ps__law_simple, F__law_simple, g__law_simple, k__law_simple, b__law_simple⟩ := D__law_simple.ex
  refine df_of (N := ["_law_box_here", "_law_size", "_law_kind", "_law_names", "_law_k", "_law_rows", "_law_a", "_law_drawn", "_law_other", "_law_kept", "_law_b", "_law_row"]) (ps := ["_law_box_here", "_law_size"]) (n := 2) (k := 1) (body := b__law_table) T sc__law_table rfl (by decide) fun X f A s H E outer cdv hX hr => ?_
  subst hX
  have nd := sc__law_table.nd
  exact ⟨_, (pss_cons (ps_if (pt_cmpR (op_eqD hr.units) (pe_call F__law_next (hr.mono (by decide)) (by rfl) g__law_next k__law_next b__law_next .nil pass0 (pa_cons (pv 0) (pa_cons pe_int pa_nil))) pe_int (nomark _)) (pss_cons (ps_setLc (i := 7) (own := ([("_law_a", 6)] : List (Str × Nat))) (g := (gName 6)) (tt := tYes) (te := (tLc (iRng1 (tCons (tVar 1) tNil)) (gName 10) tYes (tCall (spD ⟨K, C⟩ 2 m__law_next) [] E0 (tCons (tVar 0) (tCons (tVar 1) tNil))) [10])) rfl nd rfl rfl (sw_true rfl rfl rfl (by decide +kernel)) (pi_range1 (by rfl) Z.range_ (pa_cons (pv 1) pa_nil)) (blkOk_by (by first | decide +kernel | rfl)) (fun _ _ _ _ _ => (pg_name (i := 6) nd rfl (by first | exact Or.inl rfl | exact Or.inr rfl))) (fun _ _ _ _ _ => pts_nil) (fun _ _ _ _ _ => (pe_lc (own := ([("_law_b", 10)] : List (Str × Nat))) (g := (gName 10)) (tt := tYes) (te := (tCall (spD ⟨K, C⟩ 2 m__law_next) [] E0 (tCons (tVar 0) (tCons (tVar 1) tNil)))) rfl nd (pi_range1 (by rfl) Z.range_ (pa_cons (pv 1) pa_nil)) (blkOk_by (by first | decide +kernel | rfl)) (fun _ _ _ _ _ => (pg_name (i := 10) nd rfl (by first | exact Or.inl rfl | exact Or.inr rfl))) (fun _ _ _ _ _ => pts_nil) (fun _ _ _ _ _ => (pe_call F__law_next (hr.mono (by decide)) (by rfl) g__law_next k__law_next b__law_next .nil pass0 (pa_cons (pv 0) (pa_cons (pv 1) pa_nil)))))))
      (pss_one (ps_if (pt_val (pe_call F__law_associative (hr.mono (by decide)) (by rfl) g__law_associative k__law_associative b__law_associative .nil pass0 (pa_cons (pv 7) pa_nil))) (pss_one (ps_ret (pe_callTy call_tuple_of (by rfl) Z.tuple_ (by decide +kernel) (pa_cons (pe_lc (own := ([("_law_row", 11)] : List (Str × Nat))) (g := (gName 11)) (tt := tYes) (te := (tCB (rTuple K) (tCons (tVar 11) tNil))) rfl nd (pi_any (pv 7)) (blkOk_by (by first | decide +kernel | rfl)) (fun _ _ _ _ _ => (pg_name (i := 11) nd rfl (by first | exact Or.inl rfl | exact Or.inr rfl))) (fun _ _ _ _ _ => pts_nil) (fun _ _ _ _ _ => (pe_callTy call_tuple_of (by rfl) Z.tuple_ (by decide +kernel) (pa_cons (pv 11) pa_nil)))) pa_nil)))) pss_nil))) pss_nil)
      (pss_cons (ps_set (i := 2) nd rfl (Or.inl rfl) (pe_call F__law_next (hr.mono (by decide)) (by rfl) g__law_next k__law_next b__law_next .nil pass0 (pa_cons (pv 0) (pa_cons pe_int pa_nil))))
      (pss_cons (ps_setLc (i := 3) (own := ([("_law_k", 4)] : List (Str × Nat))) (g := (gName 4)) (tt := tYes) (te := (tVar 4)) rfl nd rfl rfl (sw_true rfl rfl rfl (by decide +kernel)) (pi_range1 (by rfl) Z.range_ (pa_cons (pv 1) pa_nil)) (blkOk_by (by first | decide +kernel | rfl)) (fun _ _ _ _ _ => (pg_name (i := 4) nd rfl (by first | exact Or.inl rfl | exact Or.inr rfl))) (fun _ _ _ _ _ => pts_nil) (fun _ _ _ _ _ => (pv 4)))
      (pss_cons (ps_for PassesOwn.never rfl (pi_range1 (by rfl) Z.range_ (pa_cons (pe_op op_sub (pv 1) pe_int) pa_nil)) (pg_name (i := 4) nd rfl (by first | exact Or.inl rfl | exact Or.inr rfl)) (pss_cons (ps_set (i := 8) nd rfl (Or.inl rfl) (pe_op op_plus (pv 4) (pe_call F__law_next (hr.mono (by decide)) (by rfl) g__law_next k__law_next b__law_next .nil pass0 (pa_cons (pv 0) (pa_cons (pe_op op_sub (pv 1) (pv 4)) pa_nil)))))
      (pss_cons (ps_set (i := 9) nd rfl (Or.inl rfl) (pe_ix ix_seq (pv 3) (pv 4) (fun _ _ => rfl)))
      (pss_cons (ps_asg (pe_ix ix_seq (pv 3) (pv 8) (fun _ _ => rfl)) (pg_sub (pv 3) (pv 4) set_list))
      (pss_one (ps_asg (pv 9) (pg_sub (pv 3) (pv 8) set_list)))))))
      (pss_cons (ps_setLc (i := 5) (own := ([("_law_a", 6)] : List (Str × Nat))) (g := (gName 6)) (tt := tYes) (te := (tLc (iRng1 (tCons (tVar 1) tNil)) (gName 10) tYes (tC (.int 0)) [10])) rfl nd rfl rfl (sw_true rfl rfl rfl (by decide +kernel)) (pi_range1 (by rfl) Z.range_ (pa_cons (pv 1) pa_nil)) (blkOk_by (by first | decide +kernel | rfl)) (fun _ _ _ _ _ => (pg_name (i := 6) nd rfl (by first | exact Or.inl rfl | exact Or.inr rfl))) (fun _ _ _ _ _ => pts_nil) (fun _ _ _ _ _ => (pe_lc (own := ([("_law_b", 10)] : List (Str × Nat))) (g := (gName 10)) (tt := tYes) (te := (tC (.int 0))) rfl nd (pi_range1 (by rfl) Z.range_ (pa_cons (pv 1) pa_nil)) (blkOk_by (by first | decide +kernel | rfl)) (fun _ _ _ _ _ => (pg_name (i := 10) nd rfl (by first | exact Or.inl rfl | exact Or.inr rfl))) (fun _ _ _ _ _ => pts_nil) (fun _ _ _ _ _ => pe_int))))
      (pss_cons (ps_for PassesOwn.never rfl (pi_range1 (by rfl) Z.range_ (pa_cons (pv 1) pa_nil)) (pg_name (i := 6) nd rfl (by first | exact Or.inl rfl | exact Or.inr rfl)) (pss_one (ps_for PassesOwn.never rfl (pi_range1 (by rfl) Z.range_ (pa_cons (pv 1) pa_nil)) (pg_name (i := 10) nd rfl (by first | exact Or.inl rfl | exact Or.inr rfl)) (pss_one (ps_asg (pe_ix ix_seq (pv 3) (pe_call F__law_simple (hr.mono (by decide)) (by rfl) g__law_simple k__law_simple b__law_simple .nil pass0 (pa_cons (pv 2) (pa_cons (pv 1) (pa_cons (pv 6) (pa_cons (pv 10) pa_nil))))) (fun _ _ => rfl)) (pg_sub (pe_ix ix_seq (pv 5) (pe_ix ix_seq (pv 3) (pv 6) (fun _ _ => rfl)) (fun _ _ => rfl)) (pe_ix ix_seq (pv 3) (pv 10) (fun _ _ => rfl)) set_list))))))
      (pss_one (ps_ret (pe_callTy call_tuple_of (by rfl) Z.tuple_ (by decide +kernel) (pa_cons (pe_lc (own := ([("_law_row", 11)] : List (Str × Nat))) (g := (gName 11)) (tt := tYes) (te := (tCB (rTuple K) (tCons (tVar 11) tNil))) rfl nd (pi_any (pv 5)) (blkOk_by (by first | decide +kernel | rfl)) (fun _ _ _ _ _ => (pg_name (i := 11) nd rfl (by first | exact Or.inl rfl | exact Or.inr rfl))) (fun _ _ _ _ _ => pts_nil) (fun _ _ _ _ _ => (pe_callTy call_tuple_of (by rfl) Z.tuple_ (by decide +kernel) (pa_cons (pv 11) pa_nil)))) pa_nil)))))))))),
    fun n0 => (ds_seq (ds_if (dt_test (de_op dr_eq (de_call (n := 2) (m := m__law_next) (da_cons (de_var (i := 0)) (da_cons (de_c (d := .int 3) (v := .int 3) (fun _ => rfl)) da_nil)) (argN_cons (argN_cons argN_nil))) (de_c (d := .int 0) (v := .int 0) (fun _ => rfl)))) (ds_seq (ds_set (i := 7) (de_comp (di_rg1 (da_cons (de_var (i := 1)) da_nil)) dg_name own_name mono_name dt_yes (de_comp (di_rg1 (da_cons (de_var (i := 1)) da_nil)) dg_name own_name mono_name dt_yes (de_call (n := 2) (m := m__law_next) (da_cons (de_var (i := 0)) (da_cons (de_var (i := 1)) da_nil)) (argN_cons (argN_cons argN_nil))))))
      (ds_if (dt_val (de_call (n := 1) (m := m__law_associative) (da_cons (de_var (i := 7)) da_nil) (argN_cons argN_nil))) (ds_ret (de_b drn_tuple (da_cons (de_comp (di_any (de_var (i := 7))) dg_name own_name mono_name dt_yes (de_b drn_tuple (da_cons (de_var (i := 11)) da_nil))) da_nil))) ds_next)) ds_next)
      (ds_seq (ds_set (i := 2) (de_call (n := 2) (m := m__law_next) (da_cons (de_var (i := 0)) (da_cons (de_c (d := .int 8) (v := .int 8) (fun _ => rfl)) da_nil)) (argN_cons (argN_cons argN_nil))))
      (ds_seq (ds_set (i := 3) (de_compC (di_rg1 (da_cons (de_var (i := 1)) da_nil)) dg_name own_name mono_name dt_yes (de_var (i := 4))))
      (ds_seq (ds_for (di_rg1 (da_cons (de_op dr_sub (de_var (i := 1)) (de_c (d := .int 1) (v := .int 1) (fun _ => rfl))) da_nil)) dg_name (ds_seq (ds_set (i := 8) (de_op dr_plus (de_var (i := 4)) (de_call (n := 2) (m := m__law_next) (da_cons (de_var (i := 0)) (da_cons (de_op dr_sub (de_var (i := 1)) (de_var (i := 4))) da_nil)) (argN_cons (argN_cons argN_nil)))))
      (ds_seq (ds_set (i := 9) (de_op dr_ix (de_var (i := 3)) (de_var (i := 4))))
      (ds_seq (ds_asg (de_op dr_ix (de_var (i := 3)) (de_var (i := 8))) (dg_sub (de_var (i := 3)) (de_var (i := 4))))
      (ds_asg (de_var (i := 9)) (dg_sub (de_var (i := 3)) (de_var (i := 8))))))))
      (ds_seq (ds_set (i := 5) (de_compC (di_rg1 (da_cons (de_var (i := 1)) da_nil)) dg_name own_name mono_name dt_yes (de_compC (di_rg1 (da_cons (de_var (i := 1)) da_nil)) dg_name own_name mono_name dt_yes (de_c (d := .int 0) (v := .int 0) (fun _ => rfl)))))
      (ds_seq (ds_for (di_rg1 (da_cons (de_var (i := 1)) da_nil)) dg_name (ds_for (di_rg1 (da_cons (de_var (i := 1)) da_nil)) dg_name (ds_asg (de_op dr_ix (de_var (i := 3)) (de_call (n := 4) (m := m__law_simple) (da_cons (de_var (i := 2)) (da_cons (de_var (i := 1)) (da_cons (de_var (i := 6)) (da_cons (de_var (i := 10)) da_nil)))) (argN_cons (argN_cons (argN_cons (argN_cons argN_nil)))))) (dg_sub (de_op dr_ix (de_var (i := 5)) (de_op dr_ix (de_var (i := 3)) (de_var (i := 6)))) (de_op dr_ix (de_var (i := 3)) (de_var (i := 10)))))))
      (ds_ret (de_b drn_tuple (da_cons (de_comp (di_any (de_var (i := 5))) dg_name own_name mono_name dt_yes (de_b drn_tuple (da_cons (de_var (i := 11)) da_nil))) da_nil)))))))))⟩
abbrev s__law_semigroup : Stmt := topS 31
noncomputable def b__law_semigroup (n0 : Nat) : Sv :=
    (sSeq (sSet 2 (eOp oPlus (eC (.int 1)) (eCall m__law_next (aCons (eVar 0) (aCons (eVar 1) aNil)))))
    (sSeq (sSet 3 (eCall m__law_table (aCons (eVar 0) (aCons (eVar 2) aNil))))
    (sSeq (sSet 4 (eB oTuple (aCons (eComp (iRg1 (aCons (eOp oPlus (eC (.int 1)) (eCall m__law_next (aCons (eVar 0) (aCons (eC (.int 3)) aNil)))) aNil)) (tName 5) eYes (eCall m__law_next (aCons (eVar 0) (aCons (eVar 2) aNil))) [5]) aNil)))
    (sRet (eTup (aCons (eVar 3) (aCons (eVar 4) aNil)))))))
noncomputable def m__law_semigroup : Fd := runD 6 b__law_semigroup
theorem sc__law_semigroup : FnScope ["_law_box_here", "_law_most", "_law_size", "_law_table_here", "_law_letters", "_law_k"] ["_law_box_here", "_law_most"] (defScope s__law_semigroup) := ⟨rfl, rfl, rfl, by decide +kernel, rfl, by decide +kernel, by decide +kernel⟩
theorem df__law_semigroup (Z : Zs mg) (T : DefAt K mg "_law_semigroup" s__law_semigroup ["_law_box_here", "_law_most"]) (D__law_next : Df P w K mg base C 1 "_law_next" 2 m__law_next) (D__law_table : Df P w K mg base C 2 "_law_table" 2 m__law_table) : Df P w K mg base C 3 "_law_semigroup" 2 m__law_semigroup := by
  obtain ⟨f__law_next, fd__law_next, ps__law_next, F__law_next, g__law_next, k__law_next, b__law_next⟩ := D__law_next.ex
  obtain ⟨f__law_table, fd__law_table, ps__law_table, F__law_table, g__law_table, k__law_table, b__law_table⟩ := D__law_table.ex
  refine df_of (N := ["_law_box_here", "_law_most", "_law_size", "_law_table_here", "_law_letters", "_law_k"]) (ps := ["_law_box_here", "_law_most"]) (n := 2) (k := 2) (body := b__law_semigroup) T sc__law_semigroup rfl (by decide) fun X f A s H E outer cdv hX hr => ?_
  subst hX
  have nd := sc__law_semigroup.nd
  exact ⟨_, (pss_cons (ps_set (i := 2) nd rfl (Or.inr rfl) (pe_op op_plus pe_int (pe_call F__law_next (hr.mono (by decide)) (by rfl) g__law_next k__law_next b__law_next .nil pass0 (pa_cons (pv 0) (pa_cons (pv 1) pa_nil)))))
      (pss_cons (ps_set (i := 3) nd rfl (Or.inl rfl) (pe_call F__law_table (hr.mono (by decide)) (by rfl) g__law_table k__law_table b__law_table .nil pass0 (pa_cons (pv 0) (pa_cons (pv 2) pa_nil))))
      (pss_cons (ps_set (i := 4) nd rfl (Or.inl rfl) (pe_callTy call_tuple_of (by rfl) Z.tuple_ (by decide +kernel) (pa_cons (pe_lc (own := ([("_law_k", 5)] : List (Str × Nat))) (g := (gName 5)) (tt := tYes) (te := (tCall (spD ⟨K, C⟩ 2 m__law_next) [] E0 (tCons (tVar 0) (tCons (tVar 2) tNil)))) rfl nd (pi_range1 (by rfl) Z.range_ (pa_cons (pe_op op_plus pe_int (pe_call F__law_next (hr.mono (by decide)) (by rfl) g__law_next k__law_next b__law_next .nil pass0 (pa_cons (pv 0) (pa_cons pe_int pa_nil)))) pa_nil)) (blkOk_by (by first | decide +kernel | rfl)) (fun _ _ _ _ _ => (pg_name (i := 5) nd rfl (by first | exact Or.inl rfl | exact Or.inr rfl))) (fun _ _ _ _ _ => pts_nil) (fun _ _ _ _ _ => (pe_call F__law_next (hr.mono (by decide)) (by rfl) g__law_next k__law_next b__law_next .nil pass0 (pa_cons (pv 0) (pa_cons (pv 2) pa_nil))))) pa_nil)))
      (pss_one (ps_ret (pe_tup (pa_cons (pv 3) (pa_cons (pv 4) pa_nil)))))))),
    fun n0 => (ds_seq (ds_set (i := 2) (de_op dr_plus (de_c (d := .int 1) (v := .int 1) (fun _ => rfl)) (de_call (n := 2) (m := m__law_next) (da_cons (de_var (i := 0)) (da_cons (de_var (i := 1)) da_nil)) (argN_cons (argN_cons argN_nil)))))
      (ds_seq (ds_set (i := 3) (de_call (n := 2) (m := m__law_table) (da_cons (de_var (i := 0)) (da_cons (de_var (i := 2)) da_nil)) (argN_cons (argN_cons argN_nil))))
      (ds_seq (ds_set (i := 4) (de_b drn_tuple (da_cons (de_comp (di_rg1 (da_cons (de_op dr_plus (de_c (d := .int 1) (v := .int 1) (fun _ => rfl)) (de_call (n := 2) (m := m__law_next) (da_cons (de_var (i := 0)) (da_cons (de_c (d := .int 3) (v := .int 3) (fun _ => rfl)) da_nil)) (argN_cons (argN_cons argN_nil)))) da_nil)) dg_name own_name mono_name dt_yes (de_call (n := 2) (m := m__law_next) (da_cons (de_var (i := 0)) (da_cons (de_var (i := 2)) da_nil)) (argN_cons (argN_cons argN_nil)))) da_nil)))
      (ds_ret (de_tup (da_cons (de_var (i := 3)) (da_cons (de_var (i := 4)) da_nil)))))))⟩
abbrev s__law_subset : Stmt := topS 32
noncomputable def b__law_subset (n0 : Nat) : Sv :=
    (sRet (eB oTuple (aCons (eComp (iRg1 (aCons (eVar 1) aNil)) (tName 2) (eTest (eOp oEq (eCall m__law_next (aCons (eVar 0) (aCons (eC (.int 2)) aNil))) (eC (.int 1)))) (eVar 2) [2]) aNil)))
noncomputable def m__law_subset : Fd := runD 3 b__law_subset
theorem sc__law_subset : FnScope ["_law_box_here", "_law_size", "_law_k"] ["_law_box_here", "_law_size"] (defScope s__law_subset) := ⟨rfl, rfl, rfl, by decide +kernel, rfl, by decide +kernel, by decide +kernel⟩
theorem df__law_subset (Z : Zs mg) (T : DefAt K mg "_law_subset" s__law_subset ["_law_box_here", "_law_size"]) (D__law_next : Df P w K mg base C 1 "_law_next" 2 m__law_next) : Df P w K mg base C 2 "_law_subset" 2 m__law_subset := by
  obtain ⟨f__law_next, fd__law_next, ps__law_next, F__law_next, g__law_next, k__law_next, b__law_next⟩ := D__law_next.ex
  refine df_of (N := ["_law_box_here", "_law_size", "_law_k"]) (ps := ["_law_box_here", "_law_size"]) (n := 2) (k := 1) (body := b__law_subset) T sc__law_subset rfl (by decide) fun X f A s H E outer cdv hX hr => ?_
  subst hX
  have nd := sc__law_subset.nd
  exact ⟨_, (pss_one (ps_ret (pe_callTy call_tuple_of (by rfl) Z.tuple_ (by decide +kernel) (pa_cons (pe_lc (own := ([("_law_k", 2)] : List (Str × Nat))) (g := (gName 2)) (tt := (tTest (tOp (rEqD K) (tCall (spD ⟨K, C⟩ 2 m__law_next) [] E0 (tCons (tVar 0) (tCons (tC (.int 2)) tNil))) (tC (.int 1))))) (te := (tVar 2)) rfl nd (pi_range1 (by rfl) Z.range_ (pa_cons (pv 1) pa_nil)) (blkOk_by (by first | decide +kernel | rfl)) (fun _ _ _ _ _ => (pg_name (i := 2) nd rfl (by first | exact Or.inl rfl | exact Or.inr rfl))) (fun _ _ _ _ _ => (pts_one (pt_cmpR (op_eqD hr.units) (pe_call F__law_next (hr.mono (by decide)) (by rfl) g__law_next k__law_next b__law_next .nil pass0 (pa_cons (pv 0) (pa_cons pe_int pa_nil))) pe_int (nomark _)))) (fun _ _ _ _ _ => (pv 2))) pa_nil)))),
    fun n0 => (ds_ret (de_b drn_tuple (da_cons (de_comp (di_rg1 (da_cons (de_var (i := 1)) da_nil)) dg_name own_name mono_name (dt_test (de_op dr_eq (de_call (n := 2) (m := m__law_next) (da_cons (de_var (i := 0)) (da_cons (de_c (d := .int 2) (v := .int 2) (fun _ => rfl)) da_nil)) (argN_cons (argN_cons argN_nil))) (de_c (d := .int 1) (v := .int 1) (fun _ => rfl)))) (de_var (i := 2))) da_nil)))⟩
abbrev s_is_associative : Stmt := topS 8
noncomputable def b_is_associative (n0 : Nat) : Sv :=
    (sSeq (sSet 1 (eLrg (eB oLen (aCons (eVar 0) aNil))))
    (sRet (eGen (iAnyD (eVar 1)) (tName 2) eYes (bFor (iAnyD (eVar 1)) (tName 3) eYes (bFor (iAnyD (eVar 1)) (tName 4) eYes (bY false (eOp oEq (eOp oIx (eOp oIx (eVar 0) (eOp oIx (eOp oIx (eVar 0) (eVar 2)) (eVar 3))) (eVar 4)) (eOp oIx (eOp oIx (eVar 0) (eVar 2)) (eOp oIx (eOp oIx (eVar 0) (eVar 3)) (eVar 4))))) [4]) [3, 4]) [2, 3, 4] false)))
noncomputable def m_is_associative : Fd := runD 5 b_is_associative
theorem sc_is_associative : FnScope ["table", "values", "a", "b", "c"] ["table"] (defScope s_is_associative) := ⟨rfl, rfl, rfl, by decide +kernel, rfl, by decide +kernel, by decide +kernel⟩
theorem df_is_associative {cT PT : Addr} (Z : Zs mg) (T : DefAtC K mg "is_associative" s_is_associative ["table"] cT) (TB : GxR.TabB base mg cT PT) (hP : C.tabs PT) : Df P w K mg base C 2 "is_associative" 1 m_is_associative := by
  refine df_ofC (N := ["table", "values", "a", "b", "c"]) (ps := ["table"]) (n := 1) (k := 1) (body := b_is_associative) T sc_is_associative rfl (by decide) fun X f A s H E outer cdv hX hr => ?_
  subst hX
  have nd := sc_is_associative.nd
  exact ⟨_, (pss_cons (ps_set (i := 1) nd rfl (Or.inr rfl) (pe_listRg rfl (by rfl) Z.list_ (prg_1 (by rfl) Z.range_ (pe_callB call_lenA (by rfl) Z.len_ (by decide +kernel) (pa_cons (pv 0) pa_nil)))))
      (pss_one (ps_ret (pe_allG (k := 0) (own := ([("a", 2), ("b", 3), ("c", 4)] : List (Str × Nat))) (g := (gName 2)) (tt := tYes) (by rfl) Z.all_ (fun _ _ => gt3a ..) (hr.mono (by decide)) rfl nd TB rfl rfl (by rfl) (pi_any (pv 1)) (blkOk_by (by first | decide +kernel | rfl)) (fun _ _ _ _ _ _ hr => (pg_name (i := 2) nd rfl (by first | exact Or.inl rfl | exact Or.inr rfl))) (fun _ _ _ _ _ _ hr => pts_nil) (ga_3 rfl rfl (fun _ _ _ _ _ _ hr => (pi_any (pv 1))) (fun _ _ _ _ _ _ hr => (pg_name (i := 3) nd rfl (by first | exact Or.inl rfl | exact Or.inr rfl))) (fun _ _ _ _ _ _ hr => pts_nil) (fun _ _ _ _ _ _ hr => (pi_any (pv 1))) (fun _ _ _ _ _ _ hr => (pg_name (i := 4) nd rfl (by first | exact Or.inl rfl | exact Or.inr rfl))) (fun _ _ _ _ _ _ hr => pts_nil) (fun _ _ _ _ _ _ hr => (pe_cmpR (op_eqD hr.units) (pe_ix ix_seq (pe_ix ix_seq (pv 0) (pe_ix ix_seq (pe_ix ix_seq (pv 0) (pv 2) (fun _ _ => rfl)) (pv 3) (fun _ _ => rfl)) (fun _ _ => rfl)) (pv 4) (fun _ _ => rfl)) (pe_ix ix_seq (pe_ix ix_seq (pv 0) (pv 2) (fun _ _ => rfl)) (pe_ix ix_seq (pe_ix ix_seq (pv 0) (pv 3) (fun _ _ => rfl)) (pv 4) (fun _ _ => rfl)) (fun _ _ => rfl)) (nomark _))) (fun _ _ _ _ _ _ _ _ => rfl) (fun _ _ _ _ _ _ _ _ => rfl)) (fun _ => rfl))))),
    fun n0 => (ds_seq (ds_set (i := 1) (de_lrg (de_b drn_len (da_cons (de_var (i := 0)) da_nil))))
      (ds_ret (de_gen hP (di_any (de_var (i := 1))) dg_name own_name mono_name dt_yes ((dga_For (vs := [3, 4]) (di_any (de_var (i := 1))) dg_name own_name mono_name dt_yes ((dga_For (vs := [4]) (di_any (de_var (i := 1))) dg_name own_name mono_name dt_yes (dga_Y (de_op dr_eq (de_op dr_ix (de_op dr_ix (de_var (i := 0)) (de_op dr_ix (de_op dr_ix (de_var (i := 0)) (de_var (i := 2))) (de_var (i := 3)))) (de_var (i := 4))) (de_op dr_ix (de_op dr_ix (de_var (i := 0)) (de_var (i := 2))) (de_op dr_ix (de_op dr_ix (de_var (i := 0)) (de_var (i := 3))) (de_var (i := 4))))))).wide)).wide))))⟩
abbrev s_fault_of : Stmt := topS 9
noncomputable def b_fault_of (n0 : Nat) : Sv :=
    (sSeq (sAsg (eVar 0) (tTupT 2 (tConss (tName 2) (tConss (tName 3) tNils))))
    (sSeq (sSet 1 (eB oLen (aCons (eVar 2) aNil)))
    (sSeq (sIf (eOr (eNot (eTest (eChain oLe oLe (eC (.int 1)) (eVar 1) (eC (.int 4))))) (eTest (eGen (iAnyD (eVar 2)) (tName 4) eYes (bY true (eOp oNe (eB oLen (aCons (eVar 4) aNil)) (eVar 1))) [4] true))) (sRet (eC (.str "table"))) sNil)
    (sSeq (sIf (eTest (eGen (iAnyD (eVar 2)) (tName 4) eYes (bFor (iAnyD (eVar 4)) (tName 5) eYes (bY true (eNotV (eChain oLe oLt (eC (.int 0)) (eVar 5) (eVar 1)))) [5]) [4, 5] true)) (sRet (eC (.str "table"))) sNil)
    (sSeq (sIf (eOr (eNot (eTest (eChain oLe oLe (eC (.int 1)) (eB oLen (aCons (eVar 3) aNil)) (eC (.int 3))))) (eTest (eGen (iAnyD (eVar 3)) (tName 5) eYes (bY true (eNotV (eChain oLe oLt (eC (.int 0)) (eVar 5) (eVar 1)))) [5] true))) (sRet (eC (.str "letters"))) sNil)
    (sSeq (sIf (eNot (eTest (eCall m_is_associative (aCons (eVar 2) aNil)))) (sRet (eC (.str "associative"))) sNil)
    (sRet (eC .non))))))))
noncomputable def m_fault_of : Fd := runD 6 b_fault_of
theorem sc_fault_of : FnScope ["semigroup", "size", "table", "letters", "row", "value"] ["semigroup"] (defScope s_fault_of) := ⟨rfl, rfl, rfl, by decide +kernel, rfl, by decide +kernel, by decide +kernel⟩
theorem df_fault_of {cT PT : Addr} (Z : Zs mg) (T : DefAtC K mg "fault_of" s_fault_of ["semigroup"] cT) (TB : GxR.TabB base mg cT PT) (hP : C.tabs PT) (D_is_associative : Df P w K mg base C 2 "is_associative" 1 m_is_associative) : Df P w K mg base C 3 "fault_of" 1 m_fault_of := by
  obtain ⟨f_is_associative, fd_is_associative, ps_is_associative, F_is_associative, g_is_associative, k_is_associative, b_is_associative⟩ := D_is_associative.ex
  refine df_ofC (N := ["semigroup", "size", "table", "letters", "row", "value"]) (ps := ["semigroup"]) (n := 1) (k := 2) (body := b_fault_of) T sc_fault_of rfl (by decide) fun X f A s H E outer cdv hX hr => ?_
  subst hX
  have nd := sc_fault_of.nd
  exact ⟨_, (pss_cons (ps_asg (pv 0) (pg_tup rfl (pgs_cons (pg_name (i := 2) nd rfl (by first | exact Or.inl rfl | exact Or.inr rfl)) (pgs_cons (pg_name (i := 3) nd rfl (by first | exact Or.inl rfl | exact Or.inr rfl)) pgs_nil))))
      (pss_cons (ps_set (i := 1) nd rfl (Or.inr rfl) (pe_callB call_lenA (by rfl) Z.len_ (by decide +kernel) (pa_cons (pv 2) pa_nil)))
      (pss_cons (ps_if (PW.pt (pw_or (pt_not (pt_chain op_le op_le pe_int (pv 1) (pe_gD (v := .int 4) (by rfl) Z.y_MOST_VALUES))) (pw_or1 (pt_val (pe_anyG (k := 0) (own := ([("row", 4)] : List (Str × Nat))) (g := (gName 4)) (tt := tYes) (by rfl) Z.any_ (fun _ _ => gt1 ..) (hr.mono (by decide)) rfl nd TB rfl rfl (by rfl) (pi_any (pv 2)) (blkOk_by (by first | decide +kernel | rfl)) (fun _ _ _ _ _ _ hr => (pg_name (i := 4) nd rfl (by first | exact Or.inl rfl | exact Or.inr rfl))) (fun _ _ _ _ _ _ hr => pts_nil) (ga_1 rfl (fun _ _ _ _ _ _ hr => (pe_cmpR (op_neD hr.units) (pe_callB call_lenA (by rfl) Z.len_ (by decide +kernel) (pa_cons (pv 4) pa_nil)) (pv 1) (nomark _)))) (fun _ => rfl)))))) (pss_one (ps_ret pe_str)) pss_nil)
      (pss_cons (ps_if (pt_val (pe_anyG (k := 0) (own := ([("row", 4), ("value", 5)] : List (Str × Nat))) (g := (gName 4)) (tt := tYes) (by rfl) Z.any_ (fun _ _ => gt2a ..) (hr.mono (by decide)) rfl nd TB rfl rfl (by rfl) (pi_any (pv 2)) (blkOk_by (by first | decide +kernel | rfl)) (fun _ _ _ _ _ _ hr => (pg_name (i := 4) nd rfl (by first | exact Or.inl rfl | exact Or.inr rfl))) (fun _ _ _ _ _ _ hr => pts_nil) (ga_2 rfl rfl (fun _ _ _ _ _ _ hr => (pi_any (pv 4))) (fun _ _ _ _ _ _ hr => (pg_name (i := 5) nd rfl (by first | exact Or.inl rfl | exact Or.inr rfl))) (fun _ _ _ _ _ _ hr => pts_nil) (fun _ _ _ _ _ _ hr => (pe_not (pe_chain op_le op_lt pe_int (pv 5) (pv 1)))) (fun _ _ _ _ _ _ _ _ => rfl)) (fun _ => rfl))) (pss_one (ps_ret pe_str)) pss_nil)
      (pss_cons (ps_if (PW.pt (pw_or (pt_not (pt_chain op_le op_le pe_int (pe_callB call_lenA (by rfl) Z.len_ (by decide +kernel) (pa_cons (pv 3) pa_nil)) (pe_gD (v := .int 3) (by rfl) Z.y_MOST_LETTERS))) (pw_or1 (pt_val (pe_anyG (k := 0) (own := ([("value", 5)] : List (Str × Nat))) (g := (gName 5)) (tt := tYes) (by rfl) Z.any_ (fun _ _ => gt1 ..) (hr.mono (by decide)) rfl nd TB rfl rfl (by rfl) (pi_any (pv 3)) (blkOk_by (by first | decide +kernel | rfl)) (fun _ _ _ _ _ _ hr => (pg_name (i := 5) nd rfl (by first | exact Or.inl rfl | exact Or.inr rfl))) (fun _ _ _ _ _ _ hr => pts_nil) (ga_1 rfl (fun _ _ _ _ _ _ hr => (pe_not (pe_chain op_le op_lt pe_int (pv 5) (pv 1))))) (fun _ => rfl)))))) (pss_one (ps_ret pe_str)) pss_nil)
      (pss_cons (ps_if (pt_not (pt_val (pe_call F_is_associative (hr.mono (by decide)) (by rfl) g_is_associative k_is_associative b_is_associative .nil pass0 (pa_cons (pv 2) pa_nil)))) (pss_one (ps_ret pe_str)) pss_nil)
      (pss_one (ps_ret pe_non)))))))),
    fun n0 => (ds_seq (ds_asg (de_var (i := 0)) (dg_tup (n := 2) (dgs_cons dg_name (dgs_cons dg_name dgs_nil))))
      (ds_seq (ds_set (i := 1) (de_b drn_len (da_cons (de_var (i := 2)) da_nil)))
      (ds_seq (ds_if (dt_or (dt_not (dt_test (de_chain dr_le dr_le (de_c (d := .int 1) (v := .int 1) (fun _ => rfl)) (de_var (i := 1)) (de_c (d := .int 4) (v := .int 4) (fun _ => rfl))))) (dt_val (de_gen hP (di_any (de_var (i := 2))) dg_name own_name mono_name dt_yes (dga_Y (de_op dr_ne (de_b drn_len (da_cons (de_var (i := 4)) da_nil)) (de_var (i := 1))))))) (ds_ret (de_c (d := .str "table") (v := .str "table") (fun _ => rfl))) ds_next)
      (ds_seq (ds_if (dt_val (de_gen hP (di_any (de_var (i := 2))) dg_name own_name mono_name dt_yes ((dga_For (vs := [5]) (di_any (de_var (i := 4))) dg_name own_name mono_name dt_yes (dga_Y (de_notV (de_chain dr_le dr_lt (de_c (d := .int 0) (v := .int 0) (fun _ => rfl)) (de_var (i := 5)) (de_var (i := 1)))))).wide))) (ds_ret (de_c (d := .str "table") (v := .str "table") (fun _ => rfl))) ds_next)
      (ds_seq (ds_if (dt_or (dt_not (dt_test (de_chain dr_le dr_le (de_c (d := .int 1) (v := .int 1) (fun _ => rfl)) (de_b drn_len (da_cons (de_var (i := 3)) da_nil)) (de_c (d := .int 3) (v := .int 3) (fun _ => rfl))))) (dt_val (de_gen hP (di_any (de_var (i := 3))) dg_name own_name mono_name dt_yes (dga_Y (de_notV (de_chain dr_le dr_lt (de_c (d := .int 0) (v := .int 0) (fun _ => rfl)) (de_var (i := 5)) (de_var (i := 1)))))))) (ds_ret (de_c (d := .str "letters") (v := .str "letters") (fun _ => rfl))) ds_next)
      (ds_seq (ds_if (dt_not (dt_val (de_call (n := 1) (m := m_is_associative) (da_cons (de_var (i := 2)) da_nil) (argN_cons argN_nil)))) (ds_ret (de_c (d := .str "associative") (v := .str "associative") (fun _ => rfl))) ds_next)
      (ds_ret (de_c (d := .non) (v := .non) (fun _ => rfl)))))))))⟩
abbrev s_check : Stmt := topS 10
noncomputable def b_check (n0 : Nat) : Sv :=
    (sSeq (sSet 1 (eCall m_fault_of (aCons (eVar 0) aNil)))
    (sIf (eTest (eOp oNotN (eVar 1) (eC .non))) sNever sNil))
noncomputable def m_check : Fd := runD 2 b_check
theorem sc_check : FnScope ["semigroup", "fault"] ["semigroup"] (defScope s_check) := ⟨rfl, rfl, rfl, by decide +kernel, rfl, by decide +kernel, by decide +kernel⟩
theorem df_check (Z : Zs mg) (T : DefAt K mg "check" s_check ["semigroup"]) (D_fault_of : Df P w K mg base C 3 "fault_of" 1 m_fault_of) : Df P w K mg base C 4 "check" 1 m_check := by
  obtain ⟨f_fault_of, fd_fault_of, ps_fault_of, F_fault_of, g_fault_of, k_fault_of, b_fault_of⟩ := D_fault_of.ex
  refine df_of (N := ["semigroup", "fault"]) (ps := ["semigroup"]) (n := 1) (k := 3) (body := b_check) T sc_check rfl (by decide) fun X f A s H E outer cdv hX hr => ?_
  subst hX
  have nd := sc_check.nd
  exact ⟨_, (pss_cons (ps_set (i := 1) nd rfl (Or.inl rfl) (pe_call F_fault_of (hr.mono (by decide)) (by rfl) g_fault_of k_fault_of b_fault_of .nil pass0 (pa_cons (pv 0) pa_nil)))
      (pss_one (ps_if (pt_cmpR op_notN (pv 1) pe_non (nomark _)) (pss_one ps_never) pss_nil))),
    fun n0 => (ds_seq (ds_set (i := 1) (de_call (n := 1) (m := m_fault_of) (da_cons (de_var (i := 0)) da_nil) (argN_cons argN_nil)))
      (ds_if (dt_test (de_op dr_notN (de_var (i := 1)) (de_c (d := .non) (v := .non) (fun _ => rfl)))) ds_never ds_next))⟩
abbrev s_is_value_set : Stmt := topS 12
noncomputable def b_is_value_set (n0 : Nat) : Sv :=
    (sSeq (sIf (eTest (eGen (iAnyD (eVar 1)) (tName 2) eYes (bY true (eNotV (eChain oLe oLt (eC (.int 0)) (eVar 2) (eVar 0)))) [2] true)) (sRet (eC (.bl false))) sNil)
    (sRet (eGen (iRg1 (aCons (eOp oSub (eB oLen (aCons (eVar 1) aNil)) (eC (.int 1))) aNil)) (tName 3) eYes (bY false (eOp oLt (eOp oIx (eVar 1) (eVar 3)) (eOp oIx (eVar 1) (eOp oPlus (eVar 3) (eC (.int 1)))))) [3] false)))
noncomputable def m_is_value_set : Fd := runD 4 b_is_value_set
theorem sc_is_value_set : FnScope ["size", "values", "value", "k"] ["size", "values"] (defScope s_is_value_set) := ⟨rfl, rfl, rfl, by decide +kernel, rfl, by decide +kernel, by decide +kernel⟩
theorem df_is_value_set {cT PT : Addr} (Z : Zs mg) (T : DefAtC K mg "is_value_set" s_is_value_set ["size", "values"] cT) (TB : GxR.TabB base mg cT PT) (hP : C.tabs PT) : Df P w K mg base C 2 "is_value_set" 2 m_is_value_set := by
  refine df_ofC (N := ["size", "values", "value", "k"]) (ps := ["size", "values"]) (n := 2) (k := 1) (body := b_is_value_set) T sc_is_value_set rfl (by decide) fun X f A s H E outer cdv hX hr => ?_
  subst hX
  have nd := sc_is_value_set.nd
  exact ⟨_, (pss_cons (ps_if (pt_val (pe_anyG (k := 0) (own := ([("value", 2)] : List (Str × Nat))) (g := (gName 2)) (tt := tYes) (by rfl) Z.any_ (fun _ _ => gt1 ..) (hr.mono (by decide)) rfl nd TB rfl rfl (by rfl) (pi_any (pv 1)) (blkOk_by (by first | decide +kernel | rfl)) (fun _ _ _ _ _ _ hr => (pg_name (i := 2) nd rfl (by first | exact Or.inl rfl | exact Or.inr rfl))) (fun _ _ _ _ _ _ hr => pts_nil) (ga_1 rfl (fun _ _ _ _ _ _ hr => (pe_not (pe_chain op_le op_lt pe_int (pv 2) (pv 0))))) (fun _ => rfl))) (pss_one (ps_ret pe_bl)) pss_nil)
      (pss_one (ps_ret (pe_allG (k := 0) (own := ([("k", 3)] : List (Str × Nat))) (g := (gName 3)) (tt := tYes) (by rfl) Z.all_ (fun _ _ => gt1 ..) (hr.mono (by decide)) rfl nd TB rfl rfl (by rfl) (pi_range1 (by rfl) Z.range_ (pa_cons (pe_op op_sub (pe_callB call_lenA (by rfl) Z.len_ (by decide +kernel) (pa_cons (pv 1) pa_nil)) pe_int) pa_nil)) (blkOk_by (by first | decide +kernel | rfl)) (fun _ _ _ _ _ _ hr => (pg_name (i := 3) nd rfl (by first | exact Or.inl rfl | exact Or.inr rfl))) (fun _ _ _ _ _ _ hr => pts_nil) (ga_1 rfl (fun _ _ _ _ _ _ hr => (pe_cmpR op_lt (pe_ix ix_seq (pv 1) (pv 3) (fun _ _ => rfl)) (pe_ix ix_seq (pv 1) (pe_op op_plus (pv 3) pe_int) (fun _ _ => rfl)) (nomark _)))) (fun _ => rfl))))),
    fun n0 => (ds_seq (ds_if (dt_val (de_gen hP (di_any (de_var (i := 1))) dg_name own_name mono_name dt_yes (dga_Y (de_notV (de_chain dr_le dr_lt (de_c (d := .int 0) (v := .int 0) (fun _ => rfl)) (de_var (i := 2)) (de_var (i := 0))))))) (ds_ret (de_c (d := .bl false) (v := .bl false) (fun _ => rfl))) ds_next)
      (ds_ret (de_gen hP (di_rg1 (da_cons (de_op dr_sub (de_b drn_len (da_cons (de_var (i := 1)) da_nil)) (de_c (d := .int 1) (v := .int 1) (fun _ => rfl))) da_nil)) dg_name own_name mono_name dt_yes (dga_Y (de_op dr_lt (de_op dr_ix (de_var (i := 1)) (de_var (i := 3))) (de_op dr_ix (de_var (i := 1)) (de_op dr_plus (de_var (i := 3)) (de_c (d := .int 1) (v := .int 1) (fun _ => rfl)))))))))⟩
abbrev s_check_sets : Stmt := topS 15
noncomputable def b_check_sets (n0 : Nat) : Sv :=
    (sSeq (sDrop (eCall m_check (aCons (eVar 0) aNil)))
    (sIf (eTest (eGen (iAnyD (eVar 1)) (tName 2) eYes (bY true (eNotV (eCall m_is_value_set (aCons (eB oLen (aCons (eOp oIx (eVar 0) (eC (.int 0))) aNil)) (aCons (eVar 2) aNil))))) [2] true)) sNever sNil))
noncomputable def m_check_sets : Fd := runD 3 b_check_sets
theorem sc_check_sets : FnScope ["semigroup", "sets", "one"] ["semigroup", "sets"] (defScope s_check_sets) := ⟨rfl, rfl, rfl, by decide +kernel, rfl, by decide +kernel, by decide +kernel⟩
theorem df_check_sets {cT PT : Addr} (Z : Zs mg) (T : DefAtC K mg "check_sets" s_check_sets ["semigroup", "sets"] cT) (TB : GxR.TabB base mg cT PT) (hP : C.tabs PT) (D_check : Df P w K mg base C 4 "check" 1 m_check) (D_is_value_set : Df P w K mg base C 2 "is_value_set" 2 m_is_value_set) : Df P w K mg base C 5 "check_sets" 2 m_check_sets := by
  obtain ⟨f_check, fd_check, ps_check, F_check, g_check, k_check, b_check⟩ := D_check.ex
  obtain ⟨f_is_value_set, fd_is_value_set, ps_is_value_set, F_is_value_set, g_is_value_set, k_is_value_set, b_is_value_set⟩ := D_is_value_set.ex
  refine df_ofC (N := ["semigroup", "sets", "one"]) (ps := ["semigroup", "sets"]) (n := 2) (k := 4) (body := b_check_sets) T sc_check_sets rfl (by decide) fun X f A s H E outer cdv hX hr => ?_
  subst hX
  have nd := sc_check_sets.nd
  exact ⟨_, (pss_cons (ps_expr (pe_call F_check (hr.mono (by decide)) (by rfl) g_check k_check b_check .nil pass0 (pa_cons (pv 0) pa_nil)))
      (pss_one (ps_if (pt_val (pe_anyG (k := 2) (own := ([("one", 2)] : List (Str × Nat))) (g := (gName 2)) (tt := tYes) (by rfl) Z.any_ (fun _ _ => gt1 ..) (hr.mono (by decide)) rfl nd TB rfl rfl (by rfl) (pi_any (pv 1)) (blkOk_by (by first | decide +kernel | rfl)) (fun _ _ _ _ _ _ hr => (pg_name (i := 2) nd rfl (by first | exact Or.inl rfl | exact Or.inr rfl))) (fun _ _ _ _ _ _ hr => pts_nil) (ga_1 rfl (fun _ _ _ _ _ _ hr => (pe_not (pe_call F_is_value_set (hr.mono (by decide)) (by rfl) g_is_value_set k_is_value_set b_is_value_set .nil pass0 (pa_cons (pe_callB call_lenA (by rfl) Z.len_ (by decide +kernel) (pa_cons (pe_ix ix_seq (pv 0) pe_int (fun _ _ => rfl)) pa_nil)) (pa_cons (pv 2) pa_nil)))))) (fun _ => rfl))) (pss_one ps_never) pss_nil))),
    fun n0 => (ds_seq (ds_drop (de_call (n := 1) (m := m_check) (da_cons (de_var (i := 0)) da_nil) (argN_cons argN_nil)))
      (ds_if (dt_val (de_gen hP (di_any (de_var (i := 1))) dg_name own_name mono_name dt_yes (dga_Y (de_notV (de_call (n := 2) (m := m_is_value_set) (da_cons (de_b drn_len (da_cons (de_op dr_ix (de_var (i := 0)) (de_c (d := .int 0) (v := .int 0) (fun _ => rfl))) da_nil)) (da_cons (de_var (i := 2)) da_nil)) (argN_cons (argN_cons argN_nil))))))) ds_never ds_next))⟩
abbrev s_first_words : Stmt := topS 13
noncomputable def b_first_words (n0 : Nat) : Sv :=
    (sSeq (sAsg (eVar 0) (tTupT 2 (tConss (tName 4) (tConss (tName 5) tNils))))
    (sSeq (sSet 1 (eLstC aNil))
    (sSeq (sSet 2 eNewS)
    (sSeq (sFor (iEnD (aCons (eVar 5) aNil)) (tTupT 2 (tConss (tName 6) (tConss (tName 7) tNils))) (sIf (eTest (eOp (oSIn true) (eVar 7) (eVar 2))) (sSeq (sDrop (eSAdd (eVar 2) (aCons (eVar 7) aNil)))
    (sDrop (eMt (oAppend n0) (eVar 1) (aCons (eTup (aCons (eVar 7) (aCons (eLst (aCons (eVar 6) aNil)) aNil))) aNil)))) sNil))
    (sSeq (sSet 3 (eC (.int 0)))
    (sSeq (loopW (eTest (eOp oLt (eVar 3) (eB oLen (aCons (eVar 1) aNil)))) (sSeq (sAsg (eOp oIx (eVar 1) (eVar 3)) (tTupT 2 (tConss (tName 7) (tConss (tName 8) tNils))))
    (sSeq (sAug 3 oAdd (eC (.int 1)))
    (sFor (iEnD (aCons (eVar 5) aNil)) (tTupT 2 (tConss (tName 6) (tConss (tName 9) tNils))) (sSeq (sSet 10 (eOp oIx (eOp oIx (eVar 4) (eVar 7)) (eVar 9)))
    (sIf (eTest (eOp (oSIn true) (eVar 10) (eVar 2))) (sSeq (sDrop (eSAdd (eVar 2) (aCons (eVar 10) aNil)))
    (sDrop (eMt (oAppend n0) (eVar 1) (aCons (eTup (aCons (eVar 10) (aCons (eOp oPlus (eVar 8) (eLst (aCons (eVar 6) aNil))) aNil))) aNil)))) sNil))))) fuel)
    (sRet (eFrz (eVar 1)))))))))
noncomputable def m_first_words : Fd := runD 11 b_first_words
theorem sc_first_words : FnScope ["semigroup", "found", "seen", "at", "table", "letters", "letter", "value", "word", "behind", "product"] ["semigroup"] (defScope s_first_words) := ⟨rfl, rfl, rfl, by decide +kernel, rfl, by decide +kernel, by decide +kernel⟩
theorem df_first_words (Z : Zs mg) (T : DefAt K mg "first_words" s_first_words ["semigroup"]) (hW : C.wld = w) : Df P w K mg base C 1 "first_words" 1 m_first_words := by
  refine df_of (N := ["semigroup", "found", "seen", "at", "table", "letters", "letter", "value", "word", "behind", "product"]) (ps := ["semigroup"]) (n := 1) (k := 0) (body := b_first_words) T sc_first_words rfl (by decide) fun X f A s H E outer cdv hX hr => ?_
  subst hX
  have nd := sc_first_words.nd
  exact ⟨_, (pss_cons (ps_asg (pv 0) (pg_tup rfl (pgs_cons (pg_name (i := 4) nd rfl (by first | exact Or.inl rfl | exact Or.inr rfl)) (pgs_cons (pg_name (i := 5) nd rfl (by first | exact Or.inl rfl | exact Or.inr rfl)) pgs_nil))))
      (pss_cons (ps_set (i := 1) nd rfl (Or.inl rfl) (pe_lst pa_nil))
      (pss_cons (ps_set (i := 2) nd rfl (Or.inl rfl) (pe_callTy0 cr_set0 (by rfl) Z.set_ (by decide +kernel)))
      (pss_cons (ps_for PassesOwn.never rfl (pi_enA (by rfl) Z.enumerate_ (pa_cons (pv 5) pa_nil)) (pg_tup rfl (pgs_cons (pg_name (i := 6) nd rfl (by first | exact Or.inl rfl | exact Or.inr rfl)) (pgs_cons (pg_name (i := 7) nd rfl (by first | exact Or.inl rfl | exact Or.inr rfl)) pgs_nil))) (pss_one (ps_if (pt_cmpR or_snotin (pv 7) (pv 2) (by rfl)) (pss_cons (ps_expr (pe_sadd (pv 2) (pa_cons (pv 7) pa_nil)))
      (pss_one (ps_expr (pe_bm PySem.F.plainAttrs_list PySem.F.slot_list_append PySem.F.type_list_append mt_append (pv 1) (pa_cons (pe_tup (pa_cons (pv 7) (pa_cons (pe_lst (pa_cons (pv 6) pa_nil)) pa_nil))) pa_nil))))) pss_nil)))
      (pss_cons (ps_set (i := 3) nd rfl (Or.inl rfl) pe_int)
      (pss_cons (ps_while PassesOwn.never (pt_cmpR op_lt (pv 3) (pe_callB call_lenA (by rfl) Z.len_ (by decide +kernel) (pa_cons (pv 1) pa_nil)) (nomark _)) (pss_cons (ps_asg (pe_ix ix_seq (pv 1) (pv 3) (fun _ _ => rfl)) (pg_tup rfl (pgs_cons (pg_name (i := 7) nd rfl (by first | exact Or.inl rfl | exact Or.inr rfl)) (pgs_cons (pg_name (i := 8) nd rfl (by first | exact Or.inl rfl | exact Or.inr rfl)) pgs_nil))))
      (pss_cons (ps_aug (i := 3) nd rfl (Or.inl rfl) pe_int ip_add)
      (pss_one (ps_for PassesOwn.never rfl (pi_enA (by rfl) Z.enumerate_ (pa_cons (pv 5) pa_nil)) (pg_tup rfl (pgs_cons (pg_name (i := 6) nd rfl (by first | exact Or.inl rfl | exact Or.inr rfl)) (pgs_cons (pg_name (i := 9) nd rfl (by first | exact Or.inl rfl | exact Or.inr rfl)) pgs_nil))) (pss_cons (ps_set (i := 10) nd rfl (Or.inl rfl) (pe_ix ix_seq (pe_ix ix_seq (pv 4) (pv 7) (fun _ _ => rfl)) (pv 9) (fun _ _ => rfl)))
      (pss_one (ps_if (pt_cmpR or_snotin (pv 10) (pv 2) (by rfl)) (pss_cons (ps_expr (pe_sadd (pv 2) (pa_cons (pv 10) pa_nil)))
      (pss_one (ps_expr (pe_bm PySem.F.plainAttrs_list PySem.F.slot_list_append PySem.F.type_list_append mt_append (pv 1) (pa_cons (pe_tup (pa_cons (pv 10) (pa_cons (pe_op op_plus (pv 8) (pe_lst (pa_cons (pv 6) pa_nil))) pa_nil))) pa_nil))))) pss_nil))))))))
      (pss_one (ps_ret (pv 1))))))))),
    fun n0 => (ds_seq (ds_asg (de_var (i := 0)) (dg_tup (n := 2) (dgs_cons dg_name (dgs_cons dg_name dgs_nil))))
      (ds_seq (ds_set (i := 1) (de_lstC da_nil))
      (ds_seq (ds_set (i := 2) (de_newS hW))
      (ds_seq (ds_for (di_enA (da_cons (de_var (i := 5)) da_nil)) (dg_tup (n := 2) (dgs_cons dg_name (dgs_cons dg_name dgs_nil))) (ds_if (dt_test (de_op (dr_snotin hW) (de_var (i := 7)) (de_var (i := 2)))) (ds_seq (ds_drop (de_sadd hW (de_var (i := 2)) (da_cons (de_var (i := 7)) da_nil)))
      (ds_drop (de_mt dm_append (de_var (i := 1)) (da_cons (de_tup (da_cons (de_var (i := 7)) (da_cons (de_lst (da_cons (de_var (i := 6)) da_nil)) da_nil))) da_nil)))) ds_next))
      (ds_seq (ds_set (i := 3) (de_c (d := .int 0) (v := .int 0) (fun _ => rfl)))
      (ds_seq (ds_while fuel (dt_test (de_op dr_lt (de_var (i := 3)) (de_b drn_len (da_cons (de_var (i := 1)) da_nil)))) (ds_seq (ds_asg (de_op dr_ix (de_var (i := 1)) (de_var (i := 3))) (dg_tup (n := 2) (dgs_cons dg_name (dgs_cons dg_name dgs_nil))))
      (ds_seq (ds_aug (i := 3) (de_c (d := .int 1) (v := .int 1) (fun _ => rfl)) dip_add)
      (ds_for (di_enA (da_cons (de_var (i := 5)) da_nil)) (dg_tup (n := 2) (dgs_cons dg_name (dgs_cons dg_name dgs_nil))) (ds_seq (ds_set (i := 10) (de_op dr_ix (de_op dr_ix (de_var (i := 4)) (de_var (i := 7))) (de_var (i := 9))))
      (ds_if (dt_test (de_op (dr_snotin hW) (de_var (i := 10)) (de_var (i := 2)))) (ds_seq (ds_drop (de_sadd hW (de_var (i := 2)) (da_cons (de_var (i := 10)) da_nil)))
      (ds_drop (de_mt dm_append (de_var (i := 1)) (da_cons (de_tup (da_cons (de_var (i := 10)) (da_cons (de_op dr_plus (de_var (i := 8)) (de_lst (da_cons (de_var (i := 6)) da_nil))) da_nil))) da_nil)))) ds_next))))))
      (ds_ret (de_frz (de_var (i := 1))))))))))⟩
abbrev s_stayers : Stmt := topS 20
noncomputable def b_stayers (n0 : Nat) : Sv :=
    (sSeq (sSet 2 (eOp oIx (eVar 0) (eC (.int 0))))
    (sSeq (sSet 3 (eCall m_first_words (aCons (eVar 0) aNil)))
    (sSeq (sSet 4 (eLstC aNil))
    (sSeq (sFor (iAnyD (eVar 3)) (tTupT 2 (tConss (tName 5) (tConss (tName 6) tNils))) (sFor (iAnyD (eVar 3)) (tTupT 2 (tConss (tName 7) (tConss (tName 8) tNils))) (sSeq (sSet 9 (eIf (eTru (eVar 1)) (eOp oIx (eOp oIx (eVar 2) (eVar 7)) (eVar 5)) (eOp oIx (eOp oIx (eVar 2) (eVar 5)) (eVar 7))))
    (sIf (eTest (eOp oEq (eVar 9) (eVar 5))) (sSeq (sDrop (eMt (oAppend n0) (eVar 4) (aCons (eTup (aCons (eVar 5) (aCons (eVar 6) (aCons (eVar 8) aNil)))) aNil)))
    sBrk) sNil))))
    (sRet (eFrz (eVar 4)))))))
noncomputable def m_stayers : Fd := runD 10 b_stayers
theorem sc_stayers : FnScope ["semigroup", "ahead", "table", "words", "found", "value", "word", "other", "loop", "product"] ["semigroup", "ahead"] (defScope s_stayers) := ⟨rfl, rfl, rfl, by decide +kernel, rfl, by decide +kernel, by decide +kernel⟩
theorem df_stayers (Z : Zs mg) (T : DefAt K mg "stayers" s_stayers ["semigroup", "ahead"]) (D_first_words : Df P w K mg base C 1 "first_words" 1 m_first_words) : Df P w K mg base C 2 "stayers" 2 m_stayers := by
  obtain ⟨f_first_words, fd_first_words, ps_first_words, F_first_words, g_first_words, k_first_words, b_first_words⟩ := D_first_words.ex
  refine df_of (N := ["semigroup", "ahead", "table", "words", "found", "value", "word", "other", "loop", "product"]) (ps := ["semigroup", "ahead"]) (n := 2) (k := 1) (body := b_stayers) T sc_stayers rfl (by decide) fun X f A s H E outer cdv hX hr => ?_
  subst hX
  have nd := sc_stayers.nd
  exact ⟨_, (pss_cons (ps_set (i := 2) nd rfl (Or.inl rfl) (pe_ix ix_seq (pv 0) pe_int (fun _ _ => rfl)))
      (pss_cons (ps_set (i := 3) nd rfl (Or.inl rfl) (pe_call F_first_words (hr.mono (by decide)) (by rfl) g_first_words k_first_words b_first_words .nil pass0 (pa_cons (pv 0) pa_nil)))
      (pss_cons (ps_set (i := 4) nd rfl (Or.inl rfl) (pe_lst pa_nil))
      (pss_cons (ps_for PassesOwn.never rfl (pi_any (pv 3)) (pg_tup rfl (pgs_cons (pg_name (i := 5) nd rfl (by first | exact Or.inl rfl | exact Or.inr rfl)) (pgs_cons (pg_name (i := 6) nd rfl (by first | exact Or.inl rfl | exact Or.inr rfl)) pgs_nil))) (pss_one (ps_for PassesOwn.never rfl (pi_any (pv 3)) (pg_tup rfl (pgs_cons (pg_name (i := 7) nd rfl (by first | exact Or.inl rfl | exact Or.inr rfl)) (pgs_cons (pg_name (i := 8) nd rfl (by first | exact Or.inl rfl | exact Or.inr rfl)) pgs_nil))) (pss_cons (ps_set (i := 9) nd rfl (Or.inl rfl) (pe_ifExp (pt_truth (pv 1) (by intro _; rfl)) (pe_ix ix_seq (pe_ix ix_seq (pv 2) (pv 7) (fun _ _ => rfl)) (pv 5) (fun _ _ => rfl)) (pe_ix ix_seq (pe_ix ix_seq (pv 2) (pv 5) (fun _ _ => rfl)) (pv 7) (fun _ _ => rfl))))
      (pss_one (ps_if (pt_cmpR (op_eqD hr.units) (pv 9) (pv 5) (nomark _)) (pss_cons (ps_expr (pe_bm PySem.F.plainAttrs_list PySem.F.slot_list_append PySem.F.type_list_append mt_append (pv 4) (pa_cons (pe_tup (pa_cons (pv 5) (pa_cons (pv 6) (pa_cons (pv 8) pa_nil)))) pa_nil)))
      (pss_one ps_break)) pss_nil))))))
      (pss_one (ps_ret (pv 4))))))),
    fun n0 => (ds_seq (ds_set (i := 2) (de_op dr_ix (de_var (i := 0)) (de_c (d := .int 0) (v := .int 0) (fun _ => rfl))))
      (ds_seq (ds_set (i := 3) (de_call (n := 1) (m := m_first_words) (da_cons (de_var (i := 0)) da_nil) (argN_cons argN_nil)))
      (ds_seq (ds_set (i := 4) (de_lstC da_nil))
      (ds_seq (ds_for (di_any (de_var (i := 3))) (dg_tup (n := 2) (dgs_cons dg_name (dgs_cons dg_name dgs_nil))) (ds_for (di_any (de_var (i := 3))) (dg_tup (n := 2) (dgs_cons dg_name (dgs_cons dg_name dgs_nil))) (ds_seq (ds_set (i := 9) (de_if (dt_tru (de_var (i := 1))) (de_op dr_ix (de_op dr_ix (de_var (i := 2)) (de_var (i := 7))) (de_var (i := 5))) (de_op dr_ix (de_op dr_ix (de_var (i := 2)) (de_var (i := 5))) (de_var (i := 7)))))
      (ds_if (dt_test (de_op dr_eq (de_var (i := 9)) (de_var (i := 5)))) (ds_seq (ds_drop (de_mt dm_append (de_var (i := 4)) (da_cons (de_tup (da_cons (de_var (i := 5)) (da_cons (de_var (i := 6)) (da_cons (de_var (i := 8)) da_nil)))) da_nil)))
      ds_brk) ds_next))))
      (ds_ret (de_frz (de_var (i := 4))))))))⟩
abbrev s_middle_for : Stmt := topS 21
noncomputable def b_middle_for (n0 : Nat) : Sv :=
    (sSeq (sSet 4 (eOp oIx (eVar 0) (eC (.int 0))))
    (sSeq (sIf (eTest (eOp oIn (eOp oIx (eOp oIx (eVar 4) (eVar 1)) (eVar 2)) (eVar 3))) (sRet (eLst aNil)) sNil)
    (sSeq (sFor (iAnyD (eCall m_first_words (aCons (eVar 0) aNil))) (tTupT 2 (tConss (tName 5) (tConss (tName 6) tNils))) (sIf (eTest (eOp oIn (eOp oIx (eOp oIx (eVar 4) (eOp oIx (eOp oIx (eVar 4) (eVar 1)) (eVar 5))) (eVar 2)) (eVar 3))) (sRet (eVar 6)) sNil))
    (sRet (eC .non)))))
noncomputable def m_middle_for : Fd := runD 7 b_middle_for
theorem sc_middle_for : FnScope ["semigroup", "head", "tail", "one", "table", "value", "word"] ["semigroup", "head", "tail", "one"] (defScope s_middle_for) := ⟨rfl, rfl, rfl, by decide +kernel, rfl, by decide +kernel, by decide +kernel⟩
theorem df_middle_for (Z : Zs mg) (T : DefAt K mg "middle_for" s_middle_for ["semigroup", "head", "tail", "one"]) (D_first_words : Df P w K mg base C 1 "first_words" 1 m_first_words) : Df P w K mg base C 2 "middle_for" 4 m_middle_for := by
  obtain ⟨f_first_words, fd_first_words, ps_first_words, F_first_words, g_first_words, k_first_words, b_first_words⟩ := D_first_words.ex
  refine df_of (N := ["semigroup", "head", "tail", "one", "table", "value", "word"]) (ps := ["semigroup", "head", "tail", "one"]) (n := 4) (k := 1) (body := b_middle_for) T sc_middle_for rfl (by decide) fun X f A s H E outer cdv hX hr => ?_
  subst hX
  have nd := sc_middle_for.nd
  exact ⟨_, (pss_cons (ps_set (i := 4) nd rfl (Or.inl rfl) (pe_ix ix_seq (pv 0) pe_int (fun _ _ => rfl)))
      (pss_cons (ps_if (pt_cmpR (op_inA (hu65 hr)) (pe_ix ix_seq (pe_ix ix_seq (pv 4) (pv 1) (fun _ _ => rfl)) (pv 2) (fun _ _ => rfl)) (pv 3) (by rfl)) (pss_one (ps_ret (pe_lst pa_nil))) pss_nil)
      (pss_cons (ps_for PassesOwn.never rfl (pi_any (pe_call F_first_words (hr.mono (by decide)) (by rfl) g_first_words k_first_words b_first_words .nil pass0 (pa_cons (pv 0) pa_nil))) (pg_tup rfl (pgs_cons (pg_name (i := 5) nd rfl (by first | exact Or.inl rfl | exact Or.inr rfl)) (pgs_cons (pg_name (i := 6) nd rfl (by first | exact Or.inl rfl | exact Or.inr rfl)) pgs_nil))) (pss_one (ps_if (pt_cmpR (op_inA (hu65 hr)) (pe_ix ix_seq (pe_ix ix_seq (pv 4) (pe_ix ix_seq (pe_ix ix_seq (pv 4) (pv 1) (fun _ _ => rfl)) (pv 5) (fun _ _ => rfl)) (fun _ _ => rfl)) (pv 2) (fun _ _ => rfl)) (pv 3) (by rfl)) (pss_one (ps_ret (pv 6))) pss_nil)))
      (pss_one (ps_ret pe_non))))),
    fun n0 => (ds_seq (ds_set (i := 4) (de_op dr_ix (de_var (i := 0)) (de_c (d := .int 0) (v := .int 0) (fun _ => rfl))))
      (ds_seq (ds_if (dt_test (de_op dr_in (de_op dr_ix (de_op dr_ix (de_var (i := 4)) (de_var (i := 1))) (de_var (i := 2))) (de_var (i := 3)))) (ds_ret (de_lst da_nil)) ds_next)
      (ds_seq (ds_for (di_any (de_call (n := 1) (m := m_first_words) (da_cons (de_var (i := 0)) da_nil) (argN_cons argN_nil))) (dg_tup (n := 2) (dgs_cons dg_name (dgs_cons dg_name dgs_nil))) (ds_if (dt_test (de_op dr_in (de_op dr_ix (de_op dr_ix (de_var (i := 4)) (de_op dr_ix (de_op dr_ix (de_var (i := 4)) (de_var (i := 1))) (de_var (i := 5)))) (de_var (i := 2))) (de_var (i := 3)))) (ds_ret (de_var (i := 6))) ds_next))
      (ds_ret (de_c (d := .non) (v := .non) (fun _ => rfl))))))⟩
abbrev s_rounds_of : Stmt := topS 22
noncomputable def b_rounds_of (n0 : Nat) : Sv :=
    (sSeq (sFor (iAnyD (eCall m_stayers (aCons (eVar 0) (aCons (eC (.bl false)) aNil)))) (tTupT 3 (tConss (tName 3) (tConss (tName 4) (tConss (tName 5) tNils)))) (sFor (iAnyD (eCall m_stayers (aCons (eVar 0) (aCons (eC (.bl true)) aNil)))) (tTupT 3 (tConss (tName 6) (tConss (tName 7) (tConss (tName 8) tNils)))) (sSeq (sSet 9 (eCall m_middle_for (aCons (eVar 0) (aCons (eVar 3) (aCons (eVar 6) (aCons (eVar 1) aNil))))))
    (sSeq (sSet 10 (eCall m_middle_for (aCons (eVar 0) (aCons (eVar 3) (aCons (eVar 6) (aCons (eVar 2) aNil))))))
    (sIf (eAnd (eTest (eOp oNotN (eVar 9) (eC .non))) (eTest (eOp oNotN (eVar 10) (eC .non)))) (sRet (eTup (aCons (eVar 4) (aCons (eVar 5) (aCons (eVar 9) (aCons (eVar 10) (aCons (eVar 8) (aCons (eVar 7) aNil)))))))) sNil)))))
    (sRet (eC .non)))
noncomputable def m_rounds_of : Fd := runD 11 b_rounds_of
theorem sc_rounds_of : FnScope ["semigroup", "first", "second", "head", "before", "loop", "tail", "behind", "back", "left", "right"] ["semigroup", "first", "second"] (defScope s_rounds_of) := ⟨rfl, rfl, rfl, by decide +kernel, rfl, by decide +kernel, by decide +kernel⟩
theorem df_rounds_of (Z : Zs mg) (T : DefAt K mg "rounds_of" s_rounds_of ["semigroup", "first", "second"]) (D_stayers : Df P w K mg base C 2 "stayers" 2 m_stayers) (D_middle_for : Df P w K mg base C 2 "middle_for" 4 m_middle_for) : Df P w K mg base C 3 "rounds_of" 3 m_rounds_of := by
  obtain ⟨f_stayers, fd_stayers, ps_stayers, F_stayers, g_stayers, k_stayers, b_stayers⟩ := D_stayers.ex
  obtain ⟨f_middle_for, fd_middle_for, ps_middle_for, F_middle_for, g_middle_for, k_middle_for, b_middle_for⟩ := D_middle_for.ex
  refine df_of (N := ["semigroup", "first", "second", "head", "before", "loop", "tail", "behind", "back", "left", "right"]) (ps := ["semigroup", "first", "second"]) (n := 3) (k := 2) (body := b_rounds_of) T sc_rounds_of rfl (by decide) fun X f A s H E outer cdv hX hr => ?_
  subst hX
  have nd := sc_rounds_of.nd
  exact ⟨_, (pss_cons (ps_for PassesOwn.never rfl (pi_any (pe_call F_stayers (hr.mono (by decide)) (by rfl) g_stayers k_stayers b_stayers .nil pass0 (pa_cons (pv 0) (pa_cons pe_bl pa_nil)))) (pg_tup rfl (pgs_cons (pg_name (i := 3) nd rfl (by first | exact Or.inl rfl | exact Or.inr rfl)) (pgs_cons (pg_name (i := 4) nd rfl (by first | exact Or.inl rfl | exact Or.inr rfl)) (pgs_cons (pg_name (i := 5) nd rfl (by first | exact Or.inl rfl | exact Or.inr rfl)) pgs_nil)))) (pss_one (ps_for PassesOwn.never rfl (pi_any (pe_call F_stayers (hr.mono (by decide)) (by rfl) g_stayers k_stayers b_stayers .nil pass0 (pa_cons (pv 0) (pa_cons pe_bl pa_nil)))) (pg_tup rfl (pgs_cons (pg_name (i := 6) nd rfl (by first | exact Or.inl rfl | exact Or.inr rfl)) (pgs_cons (pg_name (i := 7) nd rfl (by first | exact Or.inl rfl | exact Or.inr rfl)) (pgs_cons (pg_name (i := 8) nd rfl (by first | exact Or.inl rfl | exact Or.inr rfl)) pgs_nil)))) (pss_cons (ps_set (i := 9) nd rfl (Or.inl rfl) (pe_call F_middle_for (hr.mono (by decide)) (by rfl) g_middle_for k_middle_for b_middle_for .nil pass0 (pa_cons (pv 0) (pa_cons (pv 3) (pa_cons (pv 6) (pa_cons (pv 1) pa_nil))))))
      (pss_cons (ps_set (i := 10) nd rfl (Or.inl rfl) (pe_call F_middle_for (hr.mono (by decide)) (by rfl) g_middle_for k_middle_for b_middle_for .nil pass0 (pa_cons (pv 0) (pa_cons (pv 3) (pa_cons (pv 6) (pa_cons (pv 2) pa_nil))))))
      (pss_one (ps_if (PW.pt (pw_and (pt_cmpR op_notN (pv 9) pe_non (nomark _)) (pw_and1 (pt_cmpR op_notN (pv 10) pe_non (nomark _))))) (pss_one (ps_ret (pe_tup (pa_cons (pv 4) (pa_cons (pv 5) (pa_cons (pv 9) (pa_cons (pv 10) (pa_cons (pv 8) (pa_cons (pv 7) pa_nil))))))))) pss_nil)))))))
      (pss_one (ps_ret pe_non))),
    fun n0 => (ds_seq (ds_for (di_any (de_call (n := 2) (m := m_stayers) (da_cons (de_var (i := 0)) (da_cons (de_c (d := .bl false) (v := .bl false) (fun _ => rfl)) da_nil)) (argN_cons (argN_cons argN_nil)))) (dg_tup (n := 3) (dgs_cons dg_name (dgs_cons dg_name (dgs_cons dg_name dgs_nil)))) (ds_for (di_any (de_call (n := 2) (m := m_stayers) (da_cons (de_var (i := 0)) (da_cons (de_c (d := .bl true) (v := .bl true) (fun _ => rfl)) da_nil)) (argN_cons (argN_cons argN_nil)))) (dg_tup (n := 3) (dgs_cons dg_name (dgs_cons dg_name (dgs_cons dg_name dgs_nil)))) (ds_seq (ds_set (i := 9) (de_call (n := 4) (m := m_middle_for) (da_cons (de_var (i := 0)) (da_cons (de_var (i := 3)) (da_cons (de_var (i := 6)) (da_cons (de_var (i := 1)) da_nil)))) (argN_cons (argN_cons (argN_cons (argN_cons argN_nil))))))
      (ds_seq (ds_set (i := 10) (de_call (n := 4) (m := m_middle_for) (da_cons (de_var (i := 0)) (da_cons (de_var (i := 3)) (da_cons (de_var (i := 6)) (da_cons (de_var (i := 2)) da_nil)))) (argN_cons (argN_cons (argN_cons (argN_cons argN_nil))))))
      (ds_if (dt_and (dt_test (de_op dr_notN (de_var (i := 9)) (de_c (d := .non) (v := .non) (fun _ => rfl)))) (dt_test (de_op dr_notN (de_var (i := 10)) (de_c (d := .non) (v := .non) (fun _ => rfl))))) (ds_ret (de_tup (da_cons (de_var (i := 4)) (da_cons (de_var (i := 5)) (da_cons (de_var (i := 9)) (da_cons (de_var (i := 10)) (da_cons (de_var (i := 8)) (da_cons (de_var (i := 7)) da_nil)))))))) ds_next)))))
      (ds_ret (de_c (d := .non) (v := .non) (fun _ => rfl))))⟩
abbrev s_words_below : Stmt := topS 17
noncomputable def b_words_below (n0 : Nat) : Sv :=
    (sSeq (sSet 2 (eLst (aCons (eLst aNil) aNil)))
    (sSeq (sSet 3 (eLst (aCons (eLst aNil) aNil)))
    (sSeq (sFor (iRg1 (aCons (eOp oSub (eVar 1) (eC (.int 1))) aNil)) (tName 4) (sSeq (sSet 3 (eComp2 (iAnyD (eVar 3)) (tName 5) eYes (iRg1 (aCons (eVar 0) aNil)) (tName 6) eYes (eOp oPlus (eVar 5) (eLst (aCons (eVar 6) aNil))) [5, 6] [6]))
    (sSet 2 (eOp oPlus (eVar 2) (eVar 3)))))
    (sRet (eIf (eTest (eOp oGt (eVar 1) (eC (.int 0)))) (eVar 2) (eLst aNil))))))
noncomputable def m_words_below : Fd := runD 7 b_words_below
theorem sc_words_below : FnScope ["letters", "size", "found", "row", "_", "word", "letter"] ["letters", "size"] (defScope s_words_below) := ⟨rfl, rfl, rfl, by decide +kernel, rfl, by decide +kernel, by decide +kernel⟩
theorem df_words_below (Z : Zs mg) (T : DefAt K mg "words_below" s_words_below ["letters", "size"]) : Df P w K mg base C 1 "words_below" 2 m_words_below := by
  refine df_of (N := ["letters", "size", "found", "row", "_", "word", "letter"]) (ps := ["letters", "size"]) (n := 2) (k := 0) (body := b_words_below) T sc_words_below rfl (by decide) fun X f A s H E outer cdv hX hr => ?_
  subst hX
  have nd := sc_words_below.nd
  exact ⟨_, (pss_cons (ps_set (i := 2) nd rfl (Or.inl rfl) (pe_lst (pa_cons (pe_lst pa_nil) pa_nil)))
      (pss_cons (ps_set (i := 3) nd rfl (Or.inl rfl) (pe_lst (pa_cons (pe_lst pa_nil) pa_nil)))
      (pss_cons (ps_for PassesOwn.never rfl (pi_range1 (by rfl) Z.range_ (pa_cons (pe_op op_sub (pv 1) pe_int) pa_nil)) (pg_name (i := 4) nd rfl (by first | exact Or.inl rfl | exact Or.inr rfl)) (pss_cons (ps_setLc2 (i := 3) (own := ([("word", 5), ("letter", 6)] : List (Str × Nat))) (vs1 := [6]) (g := (gName 5)) (tt := tYes) (wi1 := (iRng1 (tCons (tVar 0) tNil))) (g1 := (gName 6)) (tt1 := tYes) (te := (tOp (rPlus K) (tVar 5) (tLst (tCons (tVar 6) tNil)))) rfl nd rfl rfl (sw_true rfl rfl rfl (by decide +kernel)) (pi_any (pv 3)) (blkOk_by (by first | decide +kernel | rfl)) (by decide) (fun _ _ _ _ _ => (pg_name (i := 5) nd rfl (by first | exact Or.inl rfl | exact Or.inr rfl))) (fun _ _ _ _ _ => pts_nil) (fun _ _ _ _ _ => (pi_range1 (by rfl) Z.range_ (pa_cons (pv 0) pa_nil))) (fun _ _ _ _ _ => (pg_name (i := 6) nd rfl (by first | exact Or.inl rfl | exact Or.inr rfl))) (fun _ _ _ _ _ => pts_nil) (fun _ _ _ _ _ => (pe_op op_plus (pv 5) (pe_lst (pa_cons (pv 6) pa_nil)))))
      (pss_one (ps_set (i := 2) nd rfl (Or.inl rfl) (pe_op op_plus (pv 2) (pv 3))))))
      (pss_one (ps_ret (pe_ifExp (pt_cmpR op_gt (pv 1) pe_int (nomark _)) (pv 2) (pe_lst pa_nil))))))),
    fun n0 => (ds_seq (ds_set (i := 2) (de_lst (da_cons (de_lst da_nil) da_nil)))
      (ds_seq (ds_set (i := 3) (de_lst (da_cons (de_lst da_nil) da_nil)))
      (ds_seq (ds_for (di_rg1 (da_cons (de_op dr_sub (de_var (i := 1)) (de_c (d := .int 1) (v := .int 1) (fun _ => rfl))) da_nil)) dg_name (ds_seq (ds_set (i := 3) (de_comp2 (di_any (de_var (i := 3))) dg_name own_name mono_name dt_yes (di_rg1 (da_cons (de_var (i := 0)) da_nil)) dg_name own_name mono_name dt_yes (de_op dr_plus (de_var (i := 5)) (de_lst (da_cons (de_var (i := 6)) da_nil)))))
      (ds_set (i := 2) (de_op dr_plus (de_var (i := 2)) (de_var (i := 3))))))
      (ds_ret (de_if (dt_test (de_op dr_gt (de_var (i := 1)) (de_c (d := .int 0) (v := .int 0) (fun _ => rfl)))) (de_var (i := 2)) (de_lst da_nil))))))⟩
abbrev s_value_of : Stmt := topS 11
noncomputable def b_value_of (n0 : Nat) : Sv :=
    (sSeq (sAsg (eVar 0) (tTupT 2 (tConss (tName 4) (tConss (tName 5) tNils))))
    (sSeq (sSet 2 (eC .non))
    (sSeq (sFor (iAnyD (eVar 1)) (tName 3) (sSet 2 (eIf (eTest (eOp oIsN (eVar 2) (eC .non))) (eOp oIx (eVar 5) (eVar 3)) (eOp oIx (eOp oIx (eVar 4) (eVar 2)) (eOp oIx (eVar 5) (eVar 3))))))
    (sRet (eVar 2)))))
noncomputable def m_value_of : Fd := runD 6 b_value_of
theorem sc_value_of : FnScope ["semigroup", "word", "value", "letter", "table", "letters"] ["semigroup", "word"] (defScope s_value_of) := ⟨rfl, rfl, rfl, by decide +kernel, rfl, by decide +kernel, by decide +kernel⟩
theorem df_value_of (Z : Zs mg) (T : DefAt K mg "value_of" s_value_of ["semigroup", "word"]) : Df P w K mg base C 1 "value_of" 2 m_value_of := by
  refine df_of (N := ["semigroup", "word", "value", "letter", "table", "letters"]) (ps := ["semigroup", "word"]) (n := 2) (k := 0) (body := b_value_of) T sc_value_of rfl (by decide) fun X f A s H E outer cdv hX hr => ?_
  subst hX
  have nd := sc_value_of.nd
  exact ⟨_, (pss_cons (ps_asg (pv 0) (pg_tup rfl (pgs_cons (pg_name (i := 4) nd rfl (by first | exact Or.inl rfl | exact Or.inr rfl)) (pgs_cons (pg_name (i := 5) nd rfl (by first | exact Or.inl rfl | exact Or.inr rfl)) pgs_nil))))
      (pss_cons (ps_set (i := 2) nd rfl (Or.inl rfl) pe_non)
      (pss_cons (ps_for PassesOwn.never rfl (pi_any (pv 1)) (pg_name (i := 3) nd rfl (by first | exact Or.inl rfl | exact Or.inr rfl)) (pss_one (ps_set (i := 2) nd rfl (Or.inl rfl) (pe_ifExp (pt_cmpR op_isN (pv 2) pe_non (nomark _)) (pe_ix ix_seq (pv 5) (pv 3) (fun _ _ => rfl)) (pe_ix ix_seq (pe_ix ix_seq (pv 4) (pv 2) (fun _ _ => rfl)) (pe_ix ix_seq (pv 5) (pv 3) (fun _ _ => rfl)) (fun _ _ => rfl))))))
      (pss_one (ps_ret (pv 2)))))),
    fun n0 => (ds_seq (ds_asg (de_var (i := 0)) (dg_tup (n := 2) (dgs_cons dg_name (dgs_cons dg_name dgs_nil))))
      (ds_seq (ds_set (i := 2) (de_c (d := .non) (v := .non) (fun _ => rfl)))
      (ds_seq (ds_for (di_any (de_var (i := 1))) dg_name (ds_set (i := 2) (de_if (dt_test (de_op dr_isN (de_var (i := 2)) (de_c (d := .non) (v := .non) (fun _ => rfl)))) (de_op dr_ix (de_var (i := 5)) (de_var (i := 3))) (de_op dr_ix (de_op dr_ix (de_var (i := 4)) (de_var (i := 2))) (de_op dr_ix (de_var (i := 5)) (de_var (i := 3)))))))
      (ds_ret (de_var (i := 2))))))⟩
abbrev s_ends_of : Stmt := topS 18
noncomputable def b_ends_of (n0 : Nat) : Sv :=
    (sSeq (sSet 3 (eB oLen (aCons (eOp oIx (eVar 0) (eC (.int 1))) aNil)))
    (sSeq (sSet 4 (eLstC aNil))
    (sSeq (sFor (iAnyD (eCall m_words_below (aCons (eVar 3) (aCons (eOp oMul (eC (.int 2)) (eVar 2)) aNil)))) (tName 5) (sIf (eAnd (eTest (eOp oGe (eB oLen (aCons (eVar 5) aNil)) (eB oMax2 (aCons (eVar 2) (aCons (eC (.int 1)) aNil))))) (eTest (eOp oIn (eCall m_value_of (aCons (eVar 0) (aCons (eVar 5) aNil))) (eVar 1)))) (sDrop (eMt (oAppend n0) (eVar 4) (aCons (eTup (aCons (eB oTuple (aCons (eSlL (eVar 5) pNo (pSo (eVar 2))) aNil)) (aCons (eB oTuple (aCons (eSlL (eVar 5) (pSo (eOp oSub (eB oLen (aCons (eVar 5) aNil)) (eVar 2))) pNo) aNil)) aNil))) aNil))) sNil))
    (sSeq (sSet 6 (eOp oPlus (eLst (aCons (eLst aNil) aNil)) (eComp (iAnyD (eCall m_first_words (aCons (eVar 0) aNil))) (tTupT 2 (tConss (tName 10) (tConss (tName 5) tNils))) eYes (eVar 5) [5, 10])))
    (sSeq (sSet 7 (eComp (iAnyD (eCall m_words_below (aCons (eVar 3) (aCons (eOp oPlus (eVar 2) (eC (.int 1))) aNil)))) (tName 5) (eTest (eOp oEq (eB oLen (aCons (eVar 5) aNil)) (eVar 2))) (eVar 5) [5]))
    (sSeq (sFor (iAnyD (eVar 7)) (tName 8) (sFor (iAnyD (eVar 7)) (tName 9) (sIf (eTest (eGen (iAnyD (eVar 6)) (tName 11) (eTru (eOp oPlus (eOp oPlus (eVar 8) (eVar 11)) (eVar 9))) (bY true (eOp oIn (eCall m_value_of (aCons (eVar 0) (aCons (eOp oPlus (eOp oPlus (eVar 8) (eVar 11)) (eVar 9)) aNil))) (eVar 1))) [11] true)) (sDrop (eMt (oAppend n0) (eVar 4) (aCons (eTup (aCons (eB oTuple (aCons (eVar 8) aNil)) (aCons (eB oTuple (aCons (eVar 9) aNil)) aNil))) aNil))) sNil)))
    (sRet (eFrz (eVar 4)))))))))
noncomputable def m_ends_of : Fd := runD 12 b_ends_of
theorem sc_ends_of : FnScope ["semigroup", "one", "size", "letters", "found", "word", "middles", "heads", "head", "tail", "_", "middle"] ["semigroup", "one", "size"] (defScope s_ends_of) := ⟨rfl, rfl, rfl, by decide +kernel, rfl, by decide +kernel, by decide +kernel⟩
theorem df_ends_of {cT PT : Addr} (Z : Zs mg) (T : DefAtC K mg "ends_of" s_ends_of ["semigroup", "one", "size"] cT) (TB : GxR.TabB base mg cT PT) (hP : C.tabs PT) (D_words_below : Df P w K mg base C 1 "words_below" 2 m_words_below) (D_value_of : Df P w K mg base C 1 "value_of" 2 m_value_of) (D_first_words : Df P w K mg base C 1 "first_words" 1 m_first_words) : Df P w K mg base C 3 "ends_of" 3 m_ends_of := by
  obtain ⟨f_words_below, fd_words_below, ps_words_below, F_words_below, g_words_below, k_words_below, b_words_below⟩ := D_words_below.ex
  obtain ⟨f_value_of, fd_value_of, ps_value_of, F_value_of, g_value_of, k_value_of, b_value_of⟩ := D_value_of.ex
  obtain ⟨f_first_words, fd_first_words, ps_first_words, F_first_words, g_first_words, k_first_words, b_first_words⟩ := D_first_words.ex
  refine df_ofC (N := ["semigroup", "one", "size", "letters", "found", "word", "middles", "heads", "head", "tail", "_", "middle"]) (ps := ["semigroup", "one", "size"]) (n := 3) (k := 2) (body := b_ends_of) T sc_ends_of rfl (by decide) fun X f A s H E outer cdv hX hr => ?_
  subst hX
  have nd := sc_ends_of.nd
  exact ⟨_, (pss_cons (ps_set (i := 3) nd rfl (Or.inl rfl) (pe_callB call_lenA (by rfl) Z.len_ (by decide +kernel) (pa_cons (pe_ix ix_seq (pv 0) pe_int (fun _ _ => rfl)) pa_nil)))
      (pss_cons (ps_set (i := 4) nd rfl (Or.inl rfl) (pe_lst pa_nil))
      (pss_cons (ps_for PassesOwn.never rfl (pi_any (pe_call F_words_below (hr.mono (by decide)) (by rfl) g_words_below k_words_below b_words_below .nil pass0 (pa_cons (pv 3) (pa_cons (pe_op op_mul pe_int (pv 2)) pa_nil)))) (pg_name (i := 5) nd rfl (by first | exact Or.inl rfl | exact Or.inr rfl)) (pss_one (ps_if (PW.pt (pw_and (pt_cmpR op_ge (pe_callB call_lenA (by rfl) Z.len_ (by decide +kernel) (pa_cons (pv 5) pa_nil)) (pe_callB (call_max2 rfl) (by rfl) Z.max_ (by decide +kernel) (pa_cons (pv 2) (pa_cons pe_int pa_nil))) (nomark _)) (pw_and1 (pt_cmpR (op_inA (hu65 hr)) (pe_call F_value_of (hr.mono (by decide)) (by rfl) g_value_of k_value_of b_value_of .nil pass0 (pa_cons (pv 0) (pa_cons (pv 5) pa_nil))) (pv 1) (by rfl))))) (pss_one (ps_expr (pe_bm PySem.F.plainAttrs_list PySem.F.slot_list_append PySem.F.type_list_append mt_append (pv 4) (pa_cons (pe_tup (pa_cons (pe_callTy call_tuple_of (by rfl) Z.tuple_ (by decide +kernel) (pa_cons (pe_slice sl_list (pv 5) po_none (po_some (pv 2))) pa_nil)) (pa_cons (pe_callTy call_tuple_of (by rfl) Z.tuple_ (by decide +kernel) (pa_cons (pe_slice sl_list (pv 5) (po_some (pe_op op_sub (pe_callB call_lenA (by rfl) Z.len_ (by decide +kernel) (pa_cons (pv 5) pa_nil)) (pv 2))) po_none) pa_nil)) pa_nil))) pa_nil)))) pss_nil)))
      (pss_cons (ps_set (i := 6) nd rfl (Or.inl rfl) (pe_op op_plus (pe_lst (pa_cons (pe_lst pa_nil) pa_nil)) (pe_lc (own := ([("word", 5), ("_", 10)] : List (Str × Nat))) (g := (gTup K 2 (gCons (gName 10) (gCons (gName 5) gNil)))) (tt := tYes) (te := (tVar 5)) rfl nd (pi_any (pe_call F_first_words (hr.mono (by decide)) (by rfl) g_first_words k_first_words b_first_words .nil pass0 (pa_cons (pv 0) pa_nil))) (blkOk_by (by first | decide +kernel | rfl)) (fun _ _ _ _ _ => (pg_tup rfl (pgs_cons (pg_name (i := 10) nd rfl (by first | exact Or.inl rfl | exact Or.inr rfl)) (pgs_cons (pg_name (i := 5) nd rfl (by first | exact Or.inl rfl | exact Or.inr rfl)) pgs_nil)))) (fun _ _ _ _ _ => pts_nil) (fun _ _ _ _ _ => (pv 5)))))
      (pss_cons (ps_setLc (i := 7) (own := ([("word", 5)] : List (Str × Nat))) (g := (gName 5)) (tt := (tTest (tOp (rEqD K) (tCB (G4.rLen K) (tCons (tVar 5) tNil)) (tVar 2)))) (te := (tVar 5)) rfl nd rfl rfl (sw_true rfl rfl rfl (by decide +kernel)) (pi_any (pe_call F_words_below (hr.mono (by decide)) (by rfl) g_words_below k_words_below b_words_below .nil pass0 (pa_cons (pv 3) (pa_cons (pe_op op_plus (pv 2) pe_int) pa_nil)))) (blkOk_by (by first | decide +kernel | rfl)) (fun _ _ _ _ _ => (pg_name (i := 5) nd rfl (by first | exact Or.inl rfl | exact Or.inr rfl))) (fun _ _ _ _ _ => (pts_one (pt_cmpR (op_eqD hr.units) (pe_callB call_lenA (by rfl) Z.len_ (by decide +kernel) (pa_cons (pv 5) pa_nil)) (pv 2) (nomark _)))) (fun _ _ _ _ _ => (pv 5)))
      (pss_cons (ps_for PassesOwn.never rfl (pi_any (pv 7)) (pg_name (i := 8) nd rfl (by first | exact Or.inl rfl | exact Or.inr rfl)) (pss_one (ps_for PassesOwn.never rfl (pi_any (pv 7)) (pg_name (i := 9) nd rfl (by first | exact Or.inl rfl | exact Or.inr rfl)) (pss_one (ps_if (pt_val (pe_anyG (k := 1) (own := ([("middle", 11)] : List (Str × Nat))) (g := (gName 11)) (tt := (tTru K (tOp (rPlus K) (tOp (rPlus K) (tVar 8) (tVar 11)) (tVar 9)))) (by rfl) Z.any_ (fun _ _ => gt1 ..) (hr.mono (by decide)) rfl nd TB rfl rfl (by rfl) (pi_any (pv 6)) (blkOk_by (by first | decide +kernel | rfl)) (fun _ _ _ _ _ _ hr => (pg_name (i := 11) nd rfl (by first | exact Or.inl rfl | exact Or.inr rfl))) (fun _ _ _ _ _ _ hr => (pts_one (pt_truth (pe_op op_plus (pe_op op_plus (pv 8) (pv 11)) (pv 9)) (by intro _; rfl)))) (ga_1 rfl (fun _ _ _ _ _ _ hr => (pe_cmpR (op_inA (hu65 hr)) (pe_call F_value_of (hr.mono (by decide)) (by rfl) g_value_of k_value_of b_value_of .nil pass0 (pa_cons (pv 0) (pa_cons (pe_op op_plus (pe_op op_plus (pv 8) (pv 11)) (pv 9)) pa_nil))) (pv 1) (by rfl)))) (fun _ => rfl))) (pss_one (ps_expr (pe_bm PySem.F.plainAttrs_list PySem.F.slot_list_append PySem.F.type_list_append mt_append (pv 4) (pa_cons (pe_tup (pa_cons (pe_callTy call_tuple_of (by rfl) Z.tuple_ (by decide +kernel) (pa_cons (pv 8) pa_nil)) (pa_cons (pe_callTy call_tuple_of (by rfl) Z.tuple_ (by decide +kernel) (pa_cons (pv 9) pa_nil)) pa_nil))) pa_nil)))) pss_nil)))))
      (pss_one (ps_ret (pv 4))))))))),
    fun n0 => (ds_seq (ds_set (i := 3) (de_b drn_len (da_cons (de_op dr_ix (de_var (i := 0)) (de_c (d := .int 1) (v := .int 1) (fun _ => rfl))) da_nil)))
      (ds_seq (ds_set (i := 4) (de_lstC da_nil))
      (ds_seq (ds_for (di_any (de_call (n := 2) (m := m_words_below) (da_cons (de_var (i := 3)) (da_cons (de_op dr_mul (de_c (d := .int 2) (v := .int 2) (fun _ => rfl)) (de_var (i := 2))) da_nil)) (argN_cons (argN_cons argN_nil)))) dg_name (ds_if (dt_and (dt_test (de_op dr_ge (de_b drn_len (da_cons (de_var (i := 5)) da_nil)) (de_b drn_max2 (da_cons (de_var (i := 2)) (da_cons (de_c (d := .int 1) (v := .int 1) (fun _ => rfl)) da_nil))))) (dt_test (de_op dr_in (de_call (n := 2) (m := m_value_of) (da_cons (de_var (i := 0)) (da_cons (de_var (i := 5)) da_nil)) (argN_cons (argN_cons argN_nil))) (de_var (i := 1))))) (ds_drop (de_mt dm_append (de_var (i := 4)) (da_cons (de_tup (da_cons (de_b drn_tuple (da_cons (de_slL (de_var (i := 5)) dp_no (dp_so (de_var (i := 2)))) da_nil)) (da_cons (de_b drn_tuple (da_cons (de_slL (de_var (i := 5)) (dp_so (de_op dr_sub (de_b drn_len (da_cons (de_var (i := 5)) da_nil)) (de_var (i := 2)))) dp_no) da_nil)) da_nil))) da_nil))) ds_next))
      (ds_seq (ds_set (i := 6) (de_op dr_plus (de_lst (da_cons (de_lst da_nil) da_nil)) (de_comp (di_any (de_call (n := 1) (m := m_first_words) (da_cons (de_var (i := 0)) da_nil) (argN_cons argN_nil))) (dg_tup (n := 2) (dgs_cons dg_name (dgs_cons dg_name dgs_nil))) (own_tup (G := ⟨K, C⟩) (owns_cons own_name (owns_cons own_name owns_nil mono_name mono_nil) mono_name (mono_cons mono_name mono_nil))) (mono_tup (G := ⟨K, C⟩) (mono_cons mono_name (mono_cons mono_name mono_nil))) dt_yes (de_var (i := 5)))))
      (ds_seq (ds_set (i := 7) (de_comp (di_any (de_call (n := 2) (m := m_words_below) (da_cons (de_var (i := 3)) (da_cons (de_op dr_plus (de_var (i := 2)) (de_c (d := .int 1) (v := .int 1) (fun _ => rfl))) da_nil)) (argN_cons (argN_cons argN_nil)))) dg_name own_name mono_name (dt_test (de_op dr_eq (de_b drn_len (da_cons (de_var (i := 5)) da_nil)) (de_var (i := 2)))) (de_var (i := 5))))
      (ds_seq (ds_for (di_any (de_var (i := 7))) dg_name (ds_for (di_any (de_var (i := 7))) dg_name (ds_if (dt_val (de_gen hP (di_any (de_var (i := 6))) dg_name own_name mono_name (dt_tru (de_op dr_plus (de_op dr_plus (de_var (i := 8)) (de_var (i := 11))) (de_var (i := 9)))) (dga_Y (de_op dr_in (de_call (n := 2) (m := m_value_of) (da_cons (de_var (i := 0)) (da_cons (de_op dr_plus (de_op dr_plus (de_var (i := 8)) (de_var (i := 11))) (de_var (i := 9))) da_nil)) (argN_cons (argN_cons argN_nil))) (de_var (i := 1)))))) (ds_drop (de_mt dm_append (de_var (i := 4)) (da_cons (de_tup (da_cons (de_b drn_tuple (da_cons (de_var (i := 8)) da_nil)) (da_cons (de_b drn_tuple (da_cons (de_var (i := 9)) da_nil)) da_nil))) da_nil))) ds_next)))
      (ds_ret (de_frz (de_var (i := 4))))))))))⟩
abbrev s_tells_apart : Stmt := topS 19
noncomputable def b_tells_apart (n0 : Nat) : Sv :=
    (sSeq (sSet 4 (eB oHSL (aCons (eCall m_ends_of (aCons (eVar 0) (aCons (eVar 2) (aCons (eVar 3) aNil)))) aNil)))
    (sRet (eGen (iAnyD (eCall m_ends_of (aCons (eVar 0) (aCons (eVar 1) (aCons (eVar 3) aNil))))) (tName 5) eYes (bY false (eOp (oHIn true) (eVar 5) (eVar 4))) [5] false)))
noncomputable def m_tells_apart : Fd := runD 6 b_tells_apart
theorem sc_tells_apart : FnScope ["semigroup", "first", "second", "size", "two", "pair"] ["semigroup", "first", "second", "size"] (defScope s_tells_apart) := ⟨rfl, rfl, rfl, by decide +kernel, rfl, by decide +kernel, by decide +kernel⟩
theorem df_tells_apart {cT PT : Addr} (Z : Zs mg) (T : DefAtC K mg "tells_apart" s_tells_apart ["semigroup", "first", "second", "size"] cT) (TB : GxR.TabB base mg cT PT) (hP : C.tabs PT) (hW : C.wld = w) (D_ends_of : Df P w K mg base C 3 "ends_of" 3 m_ends_of) : Df P w K mg base C 4 "tells_apart" 4 m_tells_apart := by
  obtain ⟨f_ends_of, fd_ends_of, ps_ends_of, F_ends_of, g_ends_of, k_ends_of, b_ends_of⟩ := D_ends_of.ex
  refine df_ofC (N := ["semigroup", "first", "second", "size", "two", "pair"]) (ps := ["semigroup", "first", "second", "size"]) (n := 4) (k := 3) (body := b_tells_apart) T sc_tells_apart rfl (by decide) fun X f A s H E outer cdv hX hr => ?_
  subst hX
  have nd := sc_tells_apart.nd
  exact ⟨_, (pss_cons (ps_set (i := 4) nd rfl (Or.inr rfl) (pe_callTy (cr_hsL rfl (by have := hu65 hr; omega)) (by rfl) Z.set_ (by decide +kernel) (pa_cons (pe_call F_ends_of (hr.mono (by decide)) (by rfl) g_ends_of k_ends_of b_ends_of .nil pass0 (pa_cons (pv 0) (pa_cons (pv 2) (pa_cons (pv 3) pa_nil)))) pa_nil)))
      (pss_one (ps_ret (pe_allG (k := 0) (own := ([("pair", 5)] : List (Str × Nat))) (g := (gName 5)) (tt := tYes) (by rfl) Z.all_ (fun _ _ => gt1 ..) (hr.mono (by decide)) rfl nd TB rfl rfl (by rfl) (pi_any (pe_call F_ends_of (hr.mono (by decide)) (by rfl) g_ends_of k_ends_of b_ends_of .nil pass0 (pa_cons (pv 0) (pa_cons (pv 1) (pa_cons (pv 3) pa_nil))))) (blkOk_by (by first | decide +kernel | rfl)) (fun _ _ _ _ _ _ hr => (pg_name (i := 5) nd rfl (by first | exact Or.inl rfl | exact Or.inr rfl))) (fun _ _ _ _ _ _ hr => pts_nil) (ga_1 rfl (fun _ _ _ _ _ _ hr => (pe_cmpR (op_hNotIn (hu65 hr)) (pv 5) (pv 4) (by rfl)))) (fun _ => rfl))))),
    fun n0 => (ds_seq (ds_set (i := 4) (de_b (drn_hsL hW) (da_cons (de_call (n := 3) (m := m_ends_of) (da_cons (de_var (i := 0)) (da_cons (de_var (i := 2)) (da_cons (de_var (i := 3)) da_nil))) (argN_cons (argN_cons (argN_cons argN_nil)))) da_nil)))
      (ds_ret (de_gen hP (di_any (de_call (n := 3) (m := m_ends_of) (da_cons (de_var (i := 0)) (da_cons (de_var (i := 1)) (da_cons (de_var (i := 3)) da_nil))) (argN_cons (argN_cons (argN_cons argN_nil))))) dg_name own_name mono_name dt_yes (dga_Y (de_op (dr_hIn true hW) (de_var (i := 5)) (de_var (i := 4)))))))⟩
abbrev s_ends_apart : Stmt := topS 23
noncomputable def b_ends_apart (n0 : Nat) : Sv :=
    (sSeq (sDrop (eCall m_check_sets (aCons (eVar 0) (aCons (eLst (aCons (eVar 1) (aCons (eVar 2) aNil))) aNil))))
    (sSeq (sFor (iAnyD (eCall m_first_words (aCons (eVar 0) aNil))) (tTupT 2 (tConss (tName 6) (tConss (tName 7) tNils))) (sIf (eAnd (eTest (eOp oIn (eVar 6) (eVar 1))) (eTest (eOp oIn (eVar 6) (eVar 2)))) (sRet (eTup (aCons (eC (.str "word")) (aCons (eVar 7) aNil)))) sNil))
    (sSeq (sSet 4 (eCall m_rounds_of (aCons (eVar 0) (aCons (eVar 1) (aCons (eVar 2) aNil)))))
    (sSeq (sIf (eTest (eOp oNotN (eVar 4) (eC .non))) (sRet (eTup (aCons (eC (.str "rounds")) (aCons (eVar 4) aNil)))) sNil)
    (sSeq (sFor (iRg1 (aCons (eOp oPlus (eVar 3) (eC (.int 1))) aNil)) (tName 5) (sIf (eTest (eCall m_tells_apart (aCons (eVar 0) (aCons (eVar 1) (aCons (eVar 2) (aCons (eVar 5) aNil)))))) (sRet (eTup (aCons (eC (.str "apart")) (aCons (eVar 5) aNil)))) sNil))
    (sRaiseE "NoLength" (eFs3 "no length up to " (eVar 3) " tells them apart")))))))
noncomputable def m_ends_apart : Fd := runD 8 b_ends_apart
theorem sc_ends_apart : FnScope ["semigroup", "first", "second", "most", "rounds", "size", "value", "word"] ["semigroup", "first", "second", "most"] (defScope s_ends_apart) := ⟨rfl, rfl, rfl, by decide +kernel, rfl, by decide +kernel, by decide +kernel⟩
theorem df_ends_apart {a_NoLength a_FilterError : Addr} (Z : Zs mg) (T : DefAt K mg "ends_apart" s_ends_apart ["semigroup", "first", "second", "most"]) (Q : Es P w K mg base C a_NoLength a_FilterError) (D_check_sets : Df P w K mg base C 5 "check_sets" 2 m_check_sets) (D_first_words : Df P w K mg base C 1 "first_words" 1 m_first_words) (D_rounds_of : Df P w K mg base C 3 "rounds_of" 3 m_rounds_of) (D_tells_apart : Df P w K mg base C 4 "tells_apart" 4 m_tells_apart) : DfX P w K mg base C 6 "ends_apart" 4 m_ends_apart := by
  obtain ⟨f_check_sets, fd_check_sets, ps_check_sets, F_check_sets, g_check_sets, k_check_sets, b_check_sets⟩ := D_check_sets.ex
  obtain ⟨f_first_words, fd_first_words, ps_first_words, F_first_words, g_first_words, k_first_words, b_first_words⟩ := D_first_words.ex
  obtain ⟨f_rounds_of, fd_rounds_of, ps_rounds_of, F_rounds_of, g_rounds_of, k_rounds_of, b_rounds_of⟩ := D_rounds_of.ex
  obtain ⟨f_tells_apart, fd_tells_apart, ps_tells_apart, F_tells_apart, g_tells_apart, k_tells_apart, b_tells_apart⟩ := D_tells_apart.ex
  refine df_ofX (N := ["semigroup", "first", "second", "most", "rounds", "size", "value", "word"]) (ps := ["semigroup", "first", "second", "most"]) (n := 4) (k := 5) (body := b_ends_apart) T sc_ends_apart rfl (by decide) fun X f A s H E outer cdv hX hr tk po => ?_
  subst hX
  have nd := sc_ends_apart.nd
  exact ⟨_, (pss_cons (ps_expr (pe_call F_check_sets (hr.mono (by decide)) (by rfl) g_check_sets k_check_sets b_check_sets .nil pass0 (pa_cons (pv 0) (pa_cons (pe_lst (pa_cons (pv 1) (pa_cons (pv 2) pa_nil))) pa_nil))))
      (pss_cons (ps_for po rfl (pi_any (pe_call F_first_words (hr.mono (by decide)) (by rfl) g_first_words k_first_words b_first_words .nil pass0 (pa_cons (pv 0) pa_nil))) (pg_tup rfl (pgs_cons (pg_name (i := 6) nd rfl (by first | exact Or.inl rfl | exact Or.inr rfl)) (pgs_cons (pg_name (i := 7) nd rfl (by first | exact Or.inl rfl | exact Or.inr rfl)) pgs_nil))) (pss_one (ps_if (PW.pt (pw_and (pt_cmpR (op_inA (hu65 hr)) (pv 6) (pv 1) (by rfl)) (pw_and1 (pt_cmpR (op_inA (hu65 hr)) (pv 6) (pv 2) (by rfl))))) (pss_one (ps_ret (pe_tup (pa_cons pe_str (pa_cons (pv 7) pa_nil))))) pss_nil)))
      (pss_cons (ps_set (i := 4) nd rfl (Or.inl rfl) (pe_call F_rounds_of (hr.mono (by decide)) (by rfl) g_rounds_of k_rounds_of b_rounds_of .nil pass0 (pa_cons (pv 0) (pa_cons (pv 1) (pa_cons (pv 2) pa_nil)))))
      (pss_cons (ps_if (pt_cmpR op_notN (pv 4) pe_non (nomark _)) (pss_one (ps_ret (pe_tup (pa_cons pe_str (pa_cons (pv 4) pa_nil))))) pss_nil)
      (pss_cons (ps_for po rfl (pi_range1 (by rfl) Z.range_ (pa_cons (pe_op op_plus (pv 3) pe_int) pa_nil)) (pg_name (i := 5) nd rfl (by first | exact Or.inl rfl | exact Or.inr rfl)) (pss_one (ps_if (pt_val (pe_call F_tells_apart (hr.mono (by decide)) (by rfl) g_tells_apart k_tells_apart b_tells_apart .nil pass0 (pa_cons (pv 0) (pa_cons (pv 1) (pa_cons (pv 2) (pa_cons (pv 5) pa_nil)))))) (pss_one (ps_ret (pe_tup (pa_cons pe_str (pa_cons (pv 5) pa_nil))))) pss_nil)))
      (pss_one (ps_raiseE rfl tk Q.t_NoLength (by rfl) (pe_joined (PJ.cons pe_str (PJ.cons (pe_fmt (pv 3)) (PJ.cons pe_str .nil))))))))))),
    fun n0 => (ds_seq (ds_drop (de_call (n := 2) (m := m_check_sets) (da_cons (de_var (i := 0)) (da_cons (de_lst (da_cons (de_var (i := 1)) (da_cons (de_var (i := 2)) da_nil))) da_nil)) (argN_cons (argN_cons argN_nil))))
      (ds_seq (ds_for (di_any (de_call (n := 1) (m := m_first_words) (da_cons (de_var (i := 0)) da_nil) (argN_cons argN_nil))) (dg_tup (n := 2) (dgs_cons dg_name (dgs_cons dg_name dgs_nil))) (ds_if (dt_and (dt_test (de_op dr_in (de_var (i := 6)) (de_var (i := 1)))) (dt_test (de_op dr_in (de_var (i := 6)) (de_var (i := 2))))) (ds_ret (de_tup (da_cons (de_c (d := .str "word") (v := .str "word") (fun _ => rfl)) (da_cons (de_var (i := 7)) da_nil)))) ds_next))
      (ds_seq (ds_set (i := 4) (de_call (n := 3) (m := m_rounds_of) (da_cons (de_var (i := 0)) (da_cons (de_var (i := 1)) (da_cons (de_var (i := 2)) da_nil))) (argN_cons (argN_cons (argN_cons argN_nil)))))
      (ds_seq (ds_if (dt_test (de_op dr_notN (de_var (i := 4)) (de_c (d := .non) (v := .non) (fun _ => rfl)))) (ds_ret (de_tup (da_cons (de_c (d := .str "rounds") (v := .str "rounds") (fun _ => rfl)) (da_cons (de_var (i := 4)) da_nil)))) ds_next)
      (ds_seq (ds_for (di_rg1 (da_cons (de_op dr_plus (de_var (i := 3)) (de_c (d := .int 1) (v := .int 1) (fun _ => rfl))) da_nil)) dg_name (ds_if (dt_val (de_call (n := 4) (m := m_tells_apart) (da_cons (de_var (i := 0)) (da_cons (de_var (i := 1)) (da_cons (de_var (i := 2)) (da_cons (de_var (i := 5)) da_nil)))) (argN_cons (argN_cons (argN_cons (argN_cons argN_nil)))))) (ds_ret (de_tup (da_cons (de_c (d := .str "apart") (v := .str "apart") (fun _ => rfl)) (da_cons (de_var (i := 5)) da_nil)))) ds_next))
      (ds_raiseE (c := "NoLength") (de_fs3 (m := "no length up to ") (m2 := " tells them apart") (by decide +kernel) (de_var (i := 3)))))))))⟩
abbrev s__law_refused : Stmt := topS 35
noncomputable def b__law_refused (n0 : Nat) : Sv :=
    (sTryAs ["NoLength"] 4 (sRet (eLst (aCons (eC (.str "told")) (aCons (eCallX m_ends_apart (aCons (eVar 0) (aCons (eVar 1) (aCons (eVar 2) (aCons (eVar 3) aNil))))) aNil)))) (fun a _ => (sRet (eLst (aCons (eC (.str "refused")) (aCons (eIsE a true (eVar 4)) aNil))))))
noncomputable def m__law_refused : Fd := runD 5 b__law_refused
theorem sc__law_refused : FnScope ["_law_semigroup_here", "_law_first", "_law_second", "_law_most", "e"] ["_law_semigroup_here", "_law_first", "_law_second", "_law_most"] (defScope s__law_refused) := ⟨rfl, rfl, rfl, by decide +kernel, rfl, by decide +kernel, by decide +kernel⟩
theorem df__law_refused {a_NoLength a_FilterError : Addr} (Z : Zs mg) (T : DefAt K mg "_law_refused" s__law_refused ["_law_semigroup_here", "_law_first", "_law_second", "_law_most"]) (Q : Es P w K mg base C a_NoLength a_FilterError) (D_ends_apart : DfX P w K mg base C 6 "ends_apart" 4 m_ends_apart) : Df P w K mg base C 7 "_law_refused" 4 m__law_refused := by
  obtain ⟨f_ends_apart, fd_ends_apart, ps_ends_apart, F_ends_apart, g_ends_apart, k_ends_apart, b_ends_apart⟩ := D_ends_apart.ex
  refine df_of (N := ["_law_semigroup_here", "_law_first", "_law_second", "_law_most", "e"]) (ps := ["_law_semigroup_here", "_law_first", "_law_second", "_law_most"]) (n := 4) (k := 6) (body := b__law_refused) T sc__law_refused rfl (by decide) fun X f A s H E outer cdv hX hr => ?_
  subst hX
  have nd := sc__law_refused.nd
  exact ⟨_, (pss_one (ps_try_as (i := 4) rfl rfl nd rfl rfl ⟨rfl, by decide, .inl Q.t_NoLength.g⟩ takes0 (fun W pn xe tk po => (pss_one (ps_ret (pe_lst (pa_cons pe_str (pa_cons (pe_callSD F_ends_apart (hr.mono (by decide)) (by rfl) g_ends_apart k_ends_apart b_ends_apart .nil (fun σ => passAt tk σ) (pa_cons (pv 0) (pa_cons (pv 1) (pa_cons (pv 2) (pa_cons (pv 3) pa_nil))))) pa_nil)))))) (fun a oe cls d pn hz hf => (pss_one (ps_ret (pe_lst (pa_cons pe_str (pa_cons (pe_isE hz hf (by rfl) Z.isinstance_ (by decide +kernel) (by rfl) Q.g_FilterError (pv 4)) pa_nil)))))))),
    fun n0 => (ds_try_as ["NoLength"] (fun W' => (ds_ret (de_lst (da_cons (de_c (d := .str "told") (v := .str "told") (fun _ => rfl)) (da_cons (de_callX (n := 4) (m := m_ends_apart) (da_cons (de_var (i := 0)) (da_cons (de_var (i := 1)) (da_cons (de_var (i := 2)) (da_cons (de_var (i := 3)) da_nil)))) (argN_cons (argN_cons (argN_cons (argN_cons argN_nil))))) da_nil))))) (fun c hc => by obtain rfl := List.mem_singleton.mp hc; rw [show (Gx.C ⟨K, C⟩).cls "NoLength" = _ from Q.t_NoLength.cls]; exact PySem.W.exm_ref Q.t_NoLength.b Q.t_NoLength.e.hd Q.t_NoLength.t Q.s_NoLength_NoLength) (fun c hc a => by obtain rfl := List.mem_singleton.mp hc; exact (ds_ret (de_lst (da_cons (de_c (d := .str "refused") (v := .str "refused") (fun _ => rfl)) (da_cons (de_isE Q.t_NoLength.cls Q.t_NoLength.e Q.k_NoLength_FilterError (de_var (i := 4))) da_nil))))))⟩
abbrev s__law_same_ends : Stmt := topS 36
noncomputable def b__law_same_ends (n0 : Nat) : Sv :=
    (sSeq (sIf (eTest (eOp oEq (eVar 0) (eVar 1))) (sRet (eC (.bl true))) sNil)
    (sSeq (sIf (eOr (eTest (eOp oLt (eB oLen (aCons (eVar 0) aNil)) (eVar 2))) (eTest (eOp oLt (eB oLen (aCons (eVar 1) aNil)) (eVar 2)))) (sRet (eC (.bl false))) sNil)
    (sRet (eAndV (eOp oEq (eSlL (eVar 0) pNo (pSo (eVar 2))) (eSlL (eVar 1) pNo (pSo (eVar 2)))) (eOp oEq (eSlL (eVar 0) (pSo (eOp oSub (eB oLen (aCons (eVar 0) aNil)) (eVar 2))) pNo) (eSlL (eVar 1) (pSo (eOp oSub (eB oLen (aCons (eVar 1) aNil)) (eVar 2))) pNo))))))
noncomputable def m__law_same_ends : Fd := runD 3 b__law_same_ends
theorem sc__law_same_ends : FnScope ["_law_one", "_law_two", "_law_size"] ["_law_one", "_law_two", "_law_size"] (defScope s__law_same_ends) := ⟨rfl, rfl, rfl, by decide +kernel, rfl, by decide +kernel, by decide +kernel⟩
theorem df__law_same_ends (Z : Zs mg) (T : DefAt K mg "_law_same_ends" s__law_same_ends ["_law_one", "_law_two", "_law_size"]) : Df P w K mg base C 1 "_law_same_ends" 3 m__law_same_ends := by
  refine df_of (N := ["_law_one", "_law_two", "_law_size"]) (ps := ["_law_one", "_law_two", "_law_size"]) (n := 3) (k := 0) (body := b__law_same_ends) T sc__law_same_ends rfl (by decide) fun X f A s H E outer cdv hX hr => ?_
  subst hX
  have nd := sc__law_same_ends.nd
  exact ⟨_, (pss_cons (ps_if (pt_cmpR (op_eqD hr.units) (pv 0) (pv 1) (nomark _)) (pss_one (ps_ret pe_bl)) pss_nil)
      (pss_cons (ps_if (PW.pt (pw_or (pt_cmpR op_lt (pe_callB call_lenA (by rfl) Z.len_ (by decide +kernel) (pa_cons (pv 0) pa_nil)) (pv 2) (nomark _)) (pw_or1 (pt_cmpR op_lt (pe_callB call_lenA (by rfl) Z.len_ (by decide +kernel) (pa_cons (pv 1) pa_nil)) (pv 2) (nomark _))))) (pss_one (ps_ret pe_bl)) pss_nil)
      (pss_one (ps_ret (pe_and (pe_cmpR (op_eqD hr.units) (pe_slice sl_list (pv 0) po_none (po_some (pv 2))) (pe_slice sl_list (pv 1) po_none (po_some (pv 2))) (nomark _)) (pe_one (pe_cmpR (op_eqD hr.units) (pe_slice sl_list (pv 0) (po_some (pe_op op_sub (pe_callB call_lenA (by rfl) Z.len_ (by decide +kernel) (pa_cons (pv 0) pa_nil)) (pv 2))) po_none) (pe_slice sl_list (pv 1) (po_some (pe_op op_sub (pe_callB call_lenA (by rfl) Z.len_ (by decide +kernel) (pa_cons (pv 1) pa_nil)) (pv 2))) po_none) (nomark _)))))))),
    fun n0 => (ds_seq (ds_if (dt_test (de_op dr_eq (de_var (i := 0)) (de_var (i := 1)))) (ds_ret (de_c (d := .bl true) (v := .bl true) (fun _ => rfl))) ds_next)
      (ds_seq (ds_if (dt_or (dt_test (de_op dr_lt (de_b drn_len (da_cons (de_var (i := 0)) da_nil)) (de_var (i := 2)))) (dt_test (de_op dr_lt (de_b drn_len (da_cons (de_var (i := 1)) da_nil)) (de_var (i := 2))))) (ds_ret (de_c (d := .bl false) (v := .bl false) (fun _ => rfl))) ds_next)
      (ds_ret (de_andV (de_op dr_eq (de_slL (de_var (i := 0)) dp_no (dp_so (de_var (i := 2)))) (de_slL (de_var (i := 1)) dp_no (dp_so (de_var (i := 2))))) (de_op dr_eq (de_slL (de_var (i := 0)) (dp_so (de_op dr_sub (de_b drn_len (da_cons (de_var (i := 0)) da_nil)) (de_var (i := 2)))) dp_no) (de_slL (de_var (i := 1)) (dp_so (de_op dr_sub (de_b drn_len (da_cons (de_var (i := 1)) da_nil)) (de_var (i := 2)))) dp_no))))))⟩
abbrev s__law_value : Stmt := topS 34
noncomputable def b__law_value (n0 : Nat) : Sv :=
    (sSeq (sSet 2 (eC .non))
    (sSeq (sFor (iAnyD (eVar 1)) (tName 3) (sSeq (sSet 4 (eOp oIx (eOp oIx (eVar 0) (eC (.int 1))) (eVar 3)))
    (sIf (eTest (eOp oIsN (eVar 2) (eC .non))) (sSet 2 (eVar 4)) (sSet 2 (eOp oIx (eOp oIx (eOp oIx (eVar 0) (eC (.int 0))) (eVar 2)) (eVar 4))))))
    (sRet (eVar 2))))
noncomputable def m__law_value : Fd := runD 5 b__law_value
theorem sc__law_value : FnScope ["_law_semigroup_here", "_law_word_here", "_law_value_here", "_law_letter", "_law_behind"] ["_law_semigroup_here", "_law_word_here"] (defScope s__law_value) := ⟨rfl, rfl, rfl, by decide +kernel, rfl, by decide +kernel, by decide +kernel⟩
theorem df__law_value (Z : Zs mg) (T : DefAt K mg "_law_value" s__law_value ["_law_semigroup_here", "_law_word_here"]) : Df P w K mg base C 1 "_law_value" 2 m__law_value := by
  refine df_of (N := ["_law_semigroup_here", "_law_word_here", "_law_value_here", "_law_letter", "_law_behind"]) (ps := ["_law_semigroup_here", "_law_word_here"]) (n := 2) (k := 0) (body := b__law_value) T sc__law_value rfl (by decide) fun X f A s H E outer cdv hX hr => ?_
  subst hX
  have nd := sc__law_value.nd
  exact ⟨_, (pss_cons (ps_set (i := 2) nd rfl (Or.inl rfl) pe_non)
      (pss_cons (ps_for PassesOwn.never rfl (pi_any (pv 1)) (pg_name (i := 3) nd rfl (by first | exact Or.inl rfl | exact Or.inr rfl)) (pss_cons (ps_set (i := 4) nd rfl (Or.inl rfl) (pe_ix ix_seq (pe_ix ix_seq (pv 0) pe_int (fun _ _ => rfl)) (pv 3) (fun _ _ => rfl)))
      (pss_one (ps_if (pt_cmpR op_isN (pv 2) pe_non (nomark _)) (pss_one (ps_set (i := 2) nd rfl (Or.inl rfl) (pv 4))) (pss_one (ps_set (i := 2) nd rfl (Or.inl rfl) (pe_ix ix_seq (pe_ix ix_seq (pe_ix ix_seq (pv 0) pe_int (fun _ _ => rfl)) (pv 2) (fun _ _ => rfl)) (pv 4) (fun _ _ => rfl))))))))
      (pss_one (ps_ret (pv 2))))),
    fun n0 => (ds_seq (ds_set (i := 2) (de_c (d := .non) (v := .non) (fun _ => rfl)))
      (ds_seq (ds_for (di_any (de_var (i := 1))) dg_name (ds_seq (ds_set (i := 4) (de_op dr_ix (de_op dr_ix (de_var (i := 0)) (de_c (d := .int 1) (v := .int 1) (fun _ => rfl))) (de_var (i := 3))))
      (ds_if (dt_test (de_op dr_isN (de_var (i := 2)) (de_c (d := .non) (v := .non) (fun _ => rfl)))) (ds_set (i := 2) (de_var (i := 4))) (ds_set (i := 2) (de_op dr_ix (de_op dr_ix (de_op dr_ix (de_var (i := 0)) (de_c (d := .int 0) (v := .int 0) (fun _ => rfl))) (de_var (i := 2))) (de_var (i := 4)))))))
      (ds_ret (de_var (i := 2)))))⟩
abbrev s_law : Stmt := topS 37
noncomputable def b_law (n0 : Nat) : Sv :=
    (sSeq (sSet 1 (eCall m__law_box (aCons (eVar 0) aNil)))
    (sSeq (sSet 2 (eCall m__law_semigroup (aCons (eVar 1) (aCons (eC (.int 4)) aNil))))
    (sSeq (sSet 3 (eCall m__law_subset (aCons (eVar 1) (aCons (eB oLen (aCons (eOp oIx (eVar 2) (eC (.int 0))) aNil)) aNil))))
    (sSeq (sSet 4 (eB oTuple (aCons (eComp (iAnyD (eCall m__law_subset (aCons (eVar 1) (aCons (eB oLen (aCons (eOp oIx (eVar 2) (eC (.int 0))) aNil)) aNil)))) (tName 8) (eTest (eOp oNotIn (eVar 8) (eVar 3))) (eVar 8) [8]) aNil)))
    (sSeq (sSet 5 (eCall m__law_refused (aCons (eVar 2) (aCons (eVar 3) (aCons (eVar 4) (aCons (eCall m__law_next (aCons (eVar 1) (aCons (eC (.int 4)) aNil))) aNil))))))
    (sSeq (sIf (eOr (eTest (eOp oEq (eOp oIx (eVar 5) (eC (.int 0))) (eC (.str "refused")))) (eTest (eOp oNe (eOp oIx (eOp oIx (eVar 5) (eC (.int 1))) (eC (.int 0))) (eC (.str "apart"))))) (sRet (eOrV (eOp oEq (eOp oIx (eVar 5) (eC (.int 0))) (eC (.str "refused"))) (eOp oEq (eOp oIx (eOp oIx (eVar 5) (eC (.int 1))) (eC (.int 0))) (eC (.str "rounds"))))) sNil)
    (sSeq (sSet 6 (eOp oIx (eOp oIx (eVar 5) (eC (.int 1))) (eC (.int 1))))
    (sSeq (sSet 7 (eB oLen (aCons (eOp oIx (eVar 2) (eC (.int 1))) aNil)))
    (sSeq (sFor (iRg1 (aCons (eC (.int 6)) aNil)) (tName 8) (sSeq (sSet 9 (eComp (iRg1 (aCons (eOp oPlus (eC (.int 1)) (eCall m__law_next (aCons (eVar 1) (aCons (eC (.int 9)) aNil)))) aNil)) (tName 11) eYes (eCall m__law_next (aCons (eVar 1) (aCons (eVar 7) aNil))) [11]))
    (sSeq (sSet 10 (eComp (iRg1 (aCons (eOp oPlus (eC (.int 1)) (eCall m__law_next (aCons (eVar 1) (aCons (eC (.int 9)) aNil)))) aNil)) (tName 11) eYes (eCall m__law_next (aCons (eVar 1) (aCons (eVar 7) aNil))) [11]))
    (sSeq (sIf (eTest (eOp oEq (eCall m__law_next (aCons (eVar 1) (aCons (eC (.int 2)) aNil))) (eC (.int 0)))) (sSet 10 (eOp oPlus (eOp oPlus (eSlL (eVar 9) pNo (pSo (eVar 6))) (eVar 10)) (eSlL (eVar 9) (pSo (eB oMax2 (aCons (eC (.int 0)) (aCons (eOp oSub (eB oLen (aCons (eVar 9) aNil)) (eVar 6)) aNil)))) pNo))) sNil)
    (sSeq (sIf (eAnd (eTest (eOp oIn (eCall m__law_value (aCons (eVar 2) (aCons (eVar 9) aNil))) (eVar 3))) (eTest (eOp oIn (eCall m__law_value (aCons (eVar 2) (aCons (eVar 10) aNil))) (eVar 4)))) (sIf (eTest (eCall m__law_same_ends (aCons (eVar 9) (aCons (eVar 10) (aCons (eVar 6) aNil))))) (sRet (eC (.bl false))) sNil) sNil)
    (sIf (eAnd (eTest (eOp oIn (eCall m__law_value (aCons (eVar 2) (aCons (eVar 9) aNil))) (eVar 4))) (eTest (eOp oIn (eCall m__law_value (aCons (eVar 2) (aCons (eVar 10) aNil))) (eVar 3)))) (sIf (eTest (eCall m__law_same_ends (aCons (eVar 9) (aCons (eVar 10) (aCons (eVar 6) aNil))))) (sRet (eC (.bl false))) sNil) sNil))))))
    (sRet (eC (.bl true))))))))))))
noncomputable def m_law : Fd := runD 12 b_law
theorem sc_law : FnScope ["_law_script", "_law_box_here", "_law_semigroup_here", "_law_first", "_law_second", "_law_told", "_law_size", "_law_letters", "_law_k", "_law_one", "_law_two", "_law_j"] ["_law_script"] (defScope s_law) := ⟨rfl, rfl, rfl, by decide +kernel, rfl, by decide +kernel, by decide +kernel⟩
theorem df_law {f : Addr} {fd : FuncData} (Z : Zs mg) (T : Fun K "law" "law" s_law f fd) (D__law_box : Df P w K mg base C 2 "_law_box" 1 m__law_box) (D__law_semigroup : Df P w K mg base C 3 "_law_semigroup" 2 m__law_semigroup) (D__law_subset : Df P w K mg base C 2 "_law_subset" 2 m__law_subset) (D__law_refused : Df P w K mg base C 7 "_law_refused" 4 m__law_refused) (D__law_next : Df P w K mg base C 1 "_law_next" 2 m__law_next) (D__law_value : Df P w K mg base C 1 "_law_value" 2 m__law_value) (D__law_same_ends : Df P w K mg base C 1 "_law_same_ends" 3 m__law_same_ends) : FnOk P w K mg base CX0 8 f fd ["_law_script"] (spD ⟨K, C⟩ 1 m_law) := by
  obtain ⟨f__law_box, fd__law_box, ps__law_box, F__law_box, g__law_box, k__law_box, b__law_box⟩ := D__law_box.ex
  obtain ⟨f__law_semigroup, fd__law_semigroup, ps__law_semigroup, F__law_semigroup, g__law_semigroup, k__law_semigroup, b__law_semigroup⟩ := D__law_semigroup.ex
  obtain ⟨f__law_subset, fd__law_subset, ps__law_subset, F__law_subset, g__law_subset, k__law_subset, b__law_subset⟩ := D__law_subset.ex
  obtain ⟨f__law_refused, fd__law_refused, ps__law_refused, F__law_refused, g__law_refused, k__law_refused, b__law_refused⟩ := D__law_refused.ex
  obtain ⟨f__law_next, fd__law_next, ps__law_next, F__law_next, g__law_next, k__law_next, b__law_next⟩ := D__law_next.ex
  obtain ⟨f__law_value, fd__law_value, ps__law_value, F__law_value, g__law_value, k__law_value, b__law_value⟩ := D__law_value.ex
  obtain ⟨f__law_same_ends, fd__law_same_ends, ps__law_same_ends, F__law_same_ends, g__law_same_ends, k__law_same_ends, b__law_same_ends⟩ := D__law_same_ends.ex
  refine fnD_of (N := ["_law_script", "_law_box_here", "_law_semigroup_here", "_law_first", "_law_second", "_law_told", "_law_size", "_law_letters", "_law_k", "_law_one", "_law_two", "_law_j"]) (ps := ["_law_script"]) (n := 1) (k := 7) (body := b_law) T sc_law rfl (by decide) fun X A s H E outer cdv hX hr => ?_
  subst hX
  have nd := sc_law.nd
  exact ⟨_, (pss_cons (ps_set (i := 1) nd rfl (Or.inr rfl) (pe_call F__law_box (hr.mono (by decide)) (by rfl) g__law_box k__law_box b__law_box .nil pass0 (pa_cons (pv 0) pa_nil)))
      (pss_cons (ps_set (i := 2) nd rfl (Or.inl rfl) (pe_call F__law_semigroup (hr.mono (by decide)) (by rfl) g__law_semigroup k__law_semigroup b__law_semigroup .nil pass0 (pa_cons (pv 1) (pa_cons pe_int pa_nil))))
      (pss_cons (ps_set (i := 3) nd rfl (Or.inr rfl) (pe_call F__law_subset (hr.mono (by decide)) (by rfl) g__law_subset k__law_subset b__law_subset .nil pass0 (pa_cons (pv 1) (pa_cons (pe_callB call_lenA (by rfl) Z.len_ (by decide +kernel) (pa_cons (pe_ix ix_seq (pv 2) pe_int (fun _ _ => rfl)) pa_nil)) pa_nil))))
      (pss_cons (ps_set (i := 4) nd rfl (Or.inl rfl) (pe_callTy call_tuple_of (by rfl) Z.tuple_ (by decide +kernel) (pa_cons (pe_lc (own := ([("_law_k", 8)] : List (Str × Nat))) (g := (gName 8)) (tt := (tTest (tOp (rNotInA K) (tVar 8) (tVar 3)))) (te := (tVar 8)) rfl nd (pi_any (pe_call F__law_subset (hr.mono (by decide)) (by rfl) g__law_subset k__law_subset b__law_subset .nil pass0 (pa_cons (pv 1) (pa_cons (pe_callB call_lenA (by rfl) Z.len_ (by decide +kernel) (pa_cons (pe_ix ix_seq (pv 2) pe_int (fun _ _ => rfl)) pa_nil)) pa_nil)))) (blkOk_by (by first | decide +kernel | rfl)) (fun _ _ _ _ _ => (pg_name (i := 8) nd rfl (by first | exact Or.inl rfl | exact Or.inr rfl))) (fun _ _ _ _ _ => (pts_one (pt_cmpR (op_notInA (hu65 hr)) (pv 8) (pv 3) (by rfl)))) (fun _ _ _ _ _ => (pv 8))) pa_nil)))
      (pss_cons (ps_set (i := 5) nd rfl (Or.inl rfl) (pe_call F__law_refused (hr.mono (by decide)) (by rfl) g__law_refused k__law_refused b__law_refused .nil pass0 (pa_cons (pv 2) (pa_cons (pv 3) (pa_cons (pv 4) (pa_cons (pe_call F__law_next (hr.mono (by decide)) (by rfl) g__law_next k__law_next b__law_next .nil pass0 (pa_cons (pv 1) (pa_cons pe_int pa_nil))) pa_nil))))))
      (pss_cons (ps_if (PW.pt (pw_or (pt_cmpR (op_eqD hr.units) (pe_ix ix_seq (pv 5) pe_int (fun _ _ => rfl)) pe_str (nomark _)) (pw_or1 (pt_cmpR (op_neD hr.units) (pe_ix ix_seq (pe_ix ix_seq (pv 5) pe_int (fun _ _ => rfl)) pe_int (fun _ _ => rfl)) pe_str (nomark _))))) (pss_one (ps_ret (pe_or (pe_cmpR (op_eqD hr.units) (pe_ix ix_seq (pv 5) pe_int (fun _ _ => rfl)) pe_str (nomark _)) (pe_one (pe_cmpR (op_eqD hr.units) (pe_ix ix_seq (pe_ix ix_seq (pv 5) pe_int (fun _ _ => rfl)) pe_int (fun _ _ => rfl)) pe_str (nomark _)))))) pss_nil)
      (pss_cons (ps_set (i := 6) nd rfl (Or.inl rfl) (pe_ix ix_seq (pe_ix ix_seq (pv 5) pe_int (fun _ _ => rfl)) pe_int (fun _ _ => rfl)))
      (pss_cons (ps_set (i := 7) nd rfl (Or.inr rfl) (pe_callB call_lenA (by rfl) Z.len_ (by decide +kernel) (pa_cons (pe_ix ix_seq (pv 2) pe_int (fun _ _ => rfl)) pa_nil)))
      (pss_cons (ps_for PassesOwn.never rfl (pi_range1 (by rfl) Z.range_ (pa_cons pe_int pa_nil)) (pg_name (i := 8) nd rfl (by first | exact Or.inl rfl | exact Or.inr rfl)) (pss_cons (ps_setLc (i := 9) (own := ([("_law_j", 11)] : List (Str × Nat))) (g := (gName 11)) (tt := tYes) (te := (tCall (spD ⟨K, C⟩ 2 m__law_next) [] E0 (tCons (tVar 1) (tCons (tVar 7) tNil)))) rfl nd rfl rfl (sw_true rfl rfl rfl (by decide +kernel)) (pi_range1 (by rfl) Z.range_ (pa_cons (pe_op op_plus pe_int (pe_call F__law_next (hr.mono (by decide)) (by rfl) g__law_next k__law_next b__law_next .nil pass0 (pa_cons (pv 1) (pa_cons pe_int pa_nil)))) pa_nil)) (blkOk_by (by first | decide +kernel | rfl)) (fun _ _ _ _ _ => (pg_name (i := 11) nd rfl (by first | exact Or.inl rfl | exact Or.inr rfl))) (fun _ _ _ _ _ => pts_nil) (fun _ _ _ _ _ => (pe_call F__law_next (hr.mono (by decide)) (by rfl) g__law_next k__law_next b__law_next .nil pass0 (pa_cons (pv 1) (pa_cons (pv 7) pa_nil)))))
      (pss_cons (ps_setLc (i := 10) (own := ([("_law_j", 11)] : List (Str × Nat))) (g := (gName 11)) (tt := tYes) (te := (tCall (spD ⟨K, C⟩ 2 m__law_next) [] E0 (tCons (tVar 1) (tCons (tVar 7) tNil)))) rfl nd rfl rfl (sw_true rfl rfl rfl (by decide +kernel)) (pi_range1 (by rfl) Z.range_ (pa_cons (pe_op op_plus pe_int (pe_call F__law_next (hr.mono (by decide)) (by rfl) g__law_next k__law_next b__law_next .nil pass0 (pa_cons (pv 1) (pa_cons pe_int pa_nil)))) pa_nil)) (blkOk_by (by first | decide +kernel | rfl)) (fun _ _ _ _ _ => (pg_name (i := 11) nd rfl (by first | exact Or.inl rfl | exact Or.inr rfl))) (fun _ _ _ _ _ => pts_nil) (fun _ _ _ _ _ => (pe_call F__law_next (hr.mono (by decide)) (by rfl) g__law_next k__law_next b__law_next .nil pass0 (pa_cons (pv 1) (pa_cons (pv 7) pa_nil)))))
      (pss_cons (ps_if (pt_cmpR (op_eqD hr.units) (pe_call F__law_next (hr.mono (by decide)) (by rfl) g__law_next k__law_next b__law_next .nil pass0 (pa_cons (pv 1) (pa_cons pe_int pa_nil))) pe_int (nomark _)) (pss_one (ps_set (i := 10) nd rfl (Or.inl rfl) (pe_op op_plus (pe_op op_plus (pe_slice sl_list (pv 9) po_none (po_some (pv 6))) (pv 10)) (pe_slice sl_list (pv 9) (po_some (pe_callB (call_max2 rfl) (by rfl) Z.max_ (by decide +kernel) (pa_cons pe_int (pa_cons (pe_op op_sub (pe_callB call_lenA (by rfl) Z.len_ (by decide +kernel) (pa_cons (pv 9) pa_nil)) (pv 6)) pa_nil)))) po_none)))) pss_nil)
      (pss_cons (ps_if (PW.pt (pw_and (pt_cmpR (op_inA (hu65 hr)) (pe_call F__law_value (hr.mono (by decide)) (by rfl) g__law_value k__law_value b__law_value .nil pass0 (pa_cons (pv 2) (pa_cons (pv 9) pa_nil))) (pv 3) (by rfl)) (pw_and1 (pt_cmpR (op_inA (hu65 hr)) (pe_call F__law_value (hr.mono (by decide)) (by rfl) g__law_value k__law_value b__law_value .nil pass0 (pa_cons (pv 2) (pa_cons (pv 10) pa_nil))) (pv 4) (by rfl))))) (pss_one (ps_if (pt_val (pe_call F__law_same_ends (hr.mono (by decide)) (by rfl) g__law_same_ends k__law_same_ends b__law_same_ends .nil pass0 (pa_cons (pv 9) (pa_cons (pv 10) (pa_cons (pv 6) pa_nil))))) (pss_one (ps_ret pe_bl)) pss_nil)) pss_nil)
      (pss_one (ps_if (PW.pt (pw_and (pt_cmpR (op_inA (hu65 hr)) (pe_call F__law_value (hr.mono (by decide)) (by rfl) g__law_value k__law_value b__law_value .nil pass0 (pa_cons (pv 2) (pa_cons (pv 9) pa_nil))) (pv 4) (by rfl)) (pw_and1 (pt_cmpR (op_inA (hu65 hr)) (pe_call F__law_value (hr.mono (by decide)) (by rfl) g__law_value k__law_value b__law_value .nil pass0 (pa_cons (pv 2) (pa_cons (pv 10) pa_nil))) (pv 3) (by rfl))))) (pss_one (ps_if (pt_val (pe_call F__law_same_ends (hr.mono (by decide)) (by rfl) g__law_same_ends k__law_same_ends b__law_same_ends .nil pass0 (pa_cons (pv 9) (pa_cons (pv 10) (pa_cons (pv 6) pa_nil))))) (pss_one (ps_ret pe_bl)) pss_nil)) pss_nil)))))))
      (pss_one (ps_ret pe_bl))))))))))),
    fun n0 => (ds_seq (ds_set (i := 1) (de_call (n := 1) (m := m__law_box) (da_cons (de_var (i := 0)) da_nil) (argN_cons argN_nil)))
      (ds_seq (ds_set (i := 2) (de_call (n := 2) (m := m__law_semigroup) (da_cons (de_var (i := 1)) (da_cons (de_c (d := .int 4) (v := .int 4) (fun _ => rfl)) da_nil)) (argN_cons (argN_cons argN_nil))))
      (ds_seq (ds_set (i := 3) (de_call (n := 2) (m := m__law_subset) (da_cons (de_var (i := 1)) (da_cons (de_b drn_len (da_cons (de_op dr_ix (de_var (i := 2)) (de_c (d := .int 0) (v := .int 0) (fun _ => rfl))) da_nil)) da_nil)) (argN_cons (argN_cons argN_nil))))
      (ds_seq (ds_set (i := 4) (de_b drn_tuple (da_cons (de_comp (di_any (de_call (n := 2) (m := m__law_subset) (da_cons (de_var (i := 1)) (da_cons (de_b drn_len (da_cons (de_op dr_ix (de_var (i := 2)) (de_c (d := .int 0) (v := .int 0) (fun _ => rfl))) da_nil)) da_nil)) (argN_cons (argN_cons argN_nil)))) dg_name own_name mono_name (dt_test (de_op dr_notIn (de_var (i := 8)) (de_var (i := 3)))) (de_var (i := 8))) da_nil)))
      (ds_seq (ds_set (i := 5) (de_call (n := 4) (m := m__law_refused) (da_cons (de_var (i := 2)) (da_cons (de_var (i := 3)) (da_cons (de_var (i := 4)) (da_cons (de_call (n := 2) (m := m__law_next) (da_cons (de_var (i := 1)) (da_cons (de_c (d := .int 4) (v := .int 4) (fun _ => rfl)) da_nil)) (argN_cons (argN_cons argN_nil))) da_nil)))) (argN_cons (argN_cons (argN_cons (argN_cons argN_nil))))))
      (ds_seq (ds_if (dt_or (dt_test (de_op dr_eq (de_op dr_ix (de_var (i := 5)) (de_c (d := .int 0) (v := .int 0) (fun _ => rfl))) (de_c (d := .str "refused") (v := .str "refused") (fun _ => rfl)))) (dt_test (de_op dr_ne (de_op dr_ix (de_op dr_ix (de_var (i := 5)) (de_c (d := .int 1) (v := .int 1) (fun _ => rfl))) (de_c (d := .int 0) (v := .int 0) (fun _ => rfl))) (de_c (d := .str "apart") (v := .str "apart") (fun _ => rfl))))) (ds_ret (de_orV (de_op dr_eq (de_op dr_ix (de_var (i := 5)) (de_c (d := .int 0) (v := .int 0) (fun _ => rfl))) (de_c (d := .str "refused") (v := .str "refused") (fun _ => rfl))) (de_op dr_eq (de_op dr_ix (de_op dr_ix (de_var (i := 5)) (de_c (d := .int 1) (v := .int 1) (fun _ => rfl))) (de_c (d := .int 0) (v := .int 0) (fun _ => rfl))) (de_c (d := .str "rounds") (v := .str "rounds") (fun _ => rfl))))) ds_next)
      (ds_seq (ds_set (i := 6) (de_op dr_ix (de_op dr_ix (de_var (i := 5)) (de_c (d := .int 1) (v := .int 1) (fun _ => rfl))) (de_c (d := .int 1) (v := .int 1) (fun _ => rfl))))
      (ds_seq (ds_set (i := 7) (de_b drn_len (da_cons (de_op dr_ix (de_var (i := 2)) (de_c (d := .int 1) (v := .int 1) (fun _ => rfl))) da_nil)))
      (ds_seq (ds_for (di_rg1 (da_cons (de_c (d := .int 6) (v := .int 6) (fun _ => rfl)) da_nil)) dg_name (ds_seq (ds_set (i := 9) (de_comp (di_rg1 (da_cons (de_op dr_plus (de_c (d := .int 1) (v := .int 1) (fun _ => rfl)) (de_call (n := 2) (m := m__law_next) (da_cons (de_var (i := 1)) (da_cons (de_c (d := .int 9) (v := .int 9) (fun _ => rfl)) da_nil)) (argN_cons (argN_cons argN_nil)))) da_nil)) dg_name own_name mono_name dt_yes (de_call (n := 2) (m := m__law_next) (da_cons (de_var (i := 1)) (da_cons (de_var (i := 7)) da_nil)) (argN_cons (argN_cons argN_nil)))))
      (ds_seq (ds_set (i := 10) (de_comp (di_rg1 (da_cons (de_op dr_plus (de_c (d := .int 1) (v := .int 1) (fun _ => rfl)) (de_call (n := 2) (m := m__law_next) (da_cons (de_var (i := 1)) (da_cons (de_c (d := .int 9) (v := .int 9) (fun _ => rfl)) da_nil)) (argN_cons (argN_cons argN_nil)))) da_nil)) dg_name own_name mono_name dt_yes (de_call (n := 2) (m := m__law_next) (da_cons (de_var (i := 1)) (da_cons (de_var (i := 7)) da_nil)) (argN_cons (argN_cons argN_nil)))))
      (ds_seq (ds_if (dt_test (de_op dr_eq (de_call (n := 2) (m := m__law_next) (da_cons (de_var (i := 1)) (da_cons (de_c (d := .int 2) (v := .int 2) (fun _ => rfl)) da_nil)) (argN_cons (argN_cons argN_nil))) (de_c (d := .int 0) (v := .int 0) (fun _ => rfl)))) (ds_set (i := 10) (de_op dr_plus (de_op dr_plus (de_slL (de_var (i := 9)) dp_no (dp_so (de_var (i := 6)))) (de_var (i := 10))) (de_slL (de_var (i := 9)) (dp_so (de_b drn_max2 (da_cons (de_c (d := .int 0) (v := .int 0) (fun _ => rfl)) (da_cons (de_op dr_sub (de_b drn_len (da_cons (de_var (i := 9)) da_nil)) (de_var (i := 6))) da_nil)))) dp_no))) ds_next)
      (ds_seq (ds_if (dt_and (dt_test (de_op dr_in (de_call (n := 2) (m := m__law_value) (da_cons (de_var (i := 2)) (da_cons (de_var (i := 9)) da_nil)) (argN_cons (argN_cons argN_nil))) (de_var (i := 3)))) (dt_test (de_op dr_in (de_call (n := 2) (m := m__law_value) (da_cons (de_var (i := 2)) (da_cons (de_var (i := 10)) da_nil)) (argN_cons (argN_cons argN_nil))) (de_var (i := 4))))) (ds_if (dt_val (de_call (n := 3) (m := m__law_same_ends) (da_cons (de_var (i := 9)) (da_cons (de_var (i := 10)) (da_cons (de_var (i := 6)) da_nil))) (argN_cons (argN_cons (argN_cons argN_nil))))) (ds_ret (de_c (d := .bl false) (v := .bl false) (fun _ => rfl))) ds_next) ds_next)
      (ds_if (dt_and (dt_test (de_op dr_in (de_call (n := 2) (m := m__law_value) (da_cons (de_var (i := 2)) (da_cons (de_var (i := 9)) da_nil)) (argN_cons (argN_cons argN_nil))) (de_var (i := 4)))) (dt_test (de_op dr_in (de_call (n := 2) (m := m__law_value) (da_cons (de_var (i := 2)) (da_cons (de_var (i := 10)) da_nil)) (argN_cons (argN_cons argN_nil))) (de_var (i := 3))))) (ds_if (dt_val (de_call (n := 3) (m := m__law_same_ends) (da_cons (de_var (i := 9)) (da_cons (de_var (i := 10)) (da_cons (de_var (i := 6)) da_nil))) (argN_cons (argN_cons (argN_cons argN_nil))))) (ds_ret (de_c (d := .bl false) (v := .bl false) (fun _ => rfl))) ds_next) ds_next))))))
      (ds_ret (de_c (d := .bl true) (v := .bl true) (fun _ => rfl))))))))))))⟩
end
theorem all_mk {l : PySem.W.OpenLaw} {w : World} {K : PySem.W.Frag} {h : Heap} {mg : Str → Option Value} {fa : Addr} (math : ∀ ns : List Int, ns.length ≤ 63 → ∃ μ, m_law [.scr (ns.map D.int)] [] = some (.ok (.bl true) μ)) (X : K.In h) (G : h.Ns mainGlobals mg) (hfa : mg "law" = some (.ref fa))
    (tabs : ∀ x ∈ (["is_associative", "fault_of", "is_value_set", "check_sets", "ends_of", "tells_apart"] : List Str), ∀ c P, PySem.W.tabIn K x = some (c, P) → PySem.W.CodeHd h c P ∧ h.get? P = some { cls := .none, data := .fields #[] })
    {f0 : Addr} {od0 an0 : Option Addr} {sl0 : Array (Option Value)} {oc0 kV0 dc0 pm0 ct0 : Value} {cd0 : Value}
    {f1 : Addr} {od1 an1 : Option Addr} {sl1 : Array (Option Value)} {oc1 kV1 dc1 pm1 ct1 : Value} {cd1 : Value}
    {f2 : Addr} {od2 an2 : Option Addr} {sl2 : Array (Option Value)} {oc2 kV2 dc2 pm2 ct2 : Value} {cd2 : Value}
    {f3 : Addr} {od3 an3 : Option Addr} {sl3 : Array (Option Value)} {oc3 kV3 dc3 pm3 ct3 : Value} {cd3 : Value}
    {f4 : Addr} {od4 an4 : Option Addr} {sl4 : Array (Option Value)} {oc4 kV4 dc4 pm4 ct4 : Value} {cd4 : Value}
    {f5 : Addr} {od5 an5 : Option Addr} {sl5 : Array (Option Value)} {oc5 kV5 dc5 pm5 ct5 : Value} {cd5 : Value}
    {f6 : Addr} {od6 an6 : Option Addr} {sl6 : Array (Option Value)} {oc6 kV6 dc6 pm6 ct6 : Value} {cd6 : Value}
    {f7 : Addr} {od7 an7 : Option Addr} {sl7 : Array (Option Value)} {oc7 kV7 dc7 pm7 ct7 : Value} {cd7 : Value}
    {f8 : Addr} {od8 an8 : Option Addr} {sl8 : Array (Option Value)} {oc8 kV8 dc8 pm8 ct8 : Value} {cc8 P8 : Addr} {ec8 : Value} {dd8 : Option Addr} {vs8 : Array Value} {sm8 : Array (Option Value)}
    {f9 : Addr} {od9 an9 : Option Addr} {sl9 : Array (Option Value)} {oc9 kV9 dc9 pm9 ct9 : Value} {cc9 P9 : Addr} {ec9 : Value} {dd9 : Option Addr} {vs9 : Array Value} {sm9 : Array (Option Value)}
    {f10 : Addr} {od10 an10 : Option Addr} {sl10 : Array (Option Value)} {oc10 kV10 dc10 pm10 ct10 : Value} {cd10 : Value}
    {f11 : Addr} {od11 an11 : Option Addr} {sl11 : Array (Option Value)} {oc11 kV11 dc11 pm11 ct11 : Value} {cc11 P11 : Addr} {ec11 : Value} {dd11 : Option Addr} {vs11 : Array Value} {sm11 : Array (Option Value)}
    {f12 : Addr} {od12 an12 : Option Addr} {sl12 : Array (Option Value)} {oc12 kV12 dc12 pm12 ct12 : Value} {cc12 P12 : Addr} {ec12 : Value} {dd12 : Option Addr} {vs12 : Array Value} {sm12 : Array (Option Value)}
    {f13 : Addr} {od13 an13 : Option Addr} {sl13 : Array (Option Value)} {oc13 kV13 dc13 pm13 ct13 : Value} {cd13 : Value}
    {f14 : Addr} {od14 an14 : Option Addr} {sl14 : Array (Option Value)} {oc14 kV14 dc14 pm14 ct14 : Value} {cd14 : Value}
    {f15 : Addr} {od15 an15 : Option Addr} {sl15 : Array (Option Value)} {oc15 kV15 dc15 pm15 ct15 : Value} {cd15 : Value}
    {f16 : Addr} {od16 an16 : Option Addr} {sl16 : Array (Option Value)} {oc16 kV16 dc16 pm16 ct16 : Value} {cd16 : Value}
    {f17 : Addr} {od17 an17 : Option Addr} {sl17 : Array (Option Value)} {oc17 kV17 dc17 pm17 ct17 : Value} {cd17 : Value}
    {f18 : Addr} {od18 an18 : Option Addr} {sl18 : Array (Option Value)} {oc18 kV18 dc18 pm18 ct18 : Value} {cd18 : Value}
    {f19 : Addr} {od19 an19 : Option Addr} {sl19 : Array (Option Value)} {oc19 kV19 dc19 pm19 ct19 : Value} {cc19 P19 : Addr} {ec19 : Value} {dd19 : Option Addr} {vs19 : Array Value} {sm19 : Array (Option Value)}
    {f20 : Addr} {od20 an20 : Option Addr} {sl20 : Array (Option Value)} {oc20 kV20 dc20 pm20 ct20 : Value} {cc20 P20 : Addr} {ec20 : Value} {dd20 : Option Addr} {vs20 : Array Value} {sm20 : Array (Option Value)}
    {f21 : Addr} {od21 an21 : Option Addr} {sl21 : Array (Option Value)} {oc21 kV21 dc21 pm21 ct21 : Value} {cd21 : Value}
    {f22 : Addr} {od22 an22 : Option Addr} {sl22 : Array (Option Value)} {oc22 kV22 dc22 pm22 ct22 : Value} {cd22 : Value}
    {f23 : Addr} {od23 an23 : Option Addr} {sl23 : Array (Option Value)} {oc23 kV23 dc23 pm23 ct23 : Value} {cd23 : Value}
    {f24 : Addr} {od24 an24 : Option Addr} {sl24 : Array (Option Value)} {oc24 kV24 dc24 pm24 ct24 : Value} {cd24 : Value}
    {f25 : Addr} {od25 an25 : Option Addr} {sl25 : Array (Option Value)} {oc25 kV25 dc25 pm25 ct25 : Value} {cd25 : Value}
    {a_NoLength : Addr}
    {a_FilterError : Addr}
    (a0 : PySem.W.nsIn K mainGlobals "_law_draws" = some (some (.ref f0))) (l0 : K.lookup f0 = some ⟨oc0, od0, .func (PySem.W.fnOf "_law_draws" "_law_draws" (defArgs s__law_draws) (defBody s__law_draws) (defScope s__law_draws) .none kV0 dc0 pm0 an0 cd0 ct0), sl0⟩) (c0 : PySem.W.codeIn K cd0 "_law_draws" = true) (k0 : PySem.W.keepIn K (.ref f0) = true)
    (a1 : PySem.W.nsIn K mainGlobals "_law_box" = some (some (.ref f1))) (l1 : K.lookup f1 = some ⟨oc1, od1, .func (PySem.W.fnOf "_law_box" "_law_box" (defArgs s__law_box) (defBody s__law_box) (defScope s__law_box) .none kV1 dc1 pm1 an1 cd1 ct1), sl1⟩) (c1 : PySem.W.codeIn K cd1 "_law_box" = true) (k1 : PySem.W.keepIn K (.ref f1) = true)
    (a2 : PySem.W.nsIn K mainGlobals "_law_next" = some (some (.ref f2))) (l2 : K.lookup f2 = some ⟨oc2, od2, .func (PySem.W.fnOf "_law_next" "_law_next" (defArgs s__law_next) (defBody s__law_next) (defScope s__law_next) .none kV2 dc2 pm2 an2 cd2 ct2), sl2⟩) (c2 : PySem.W.codeIn K cd2 "_law_next" = true) (k2 : PySem.W.keepIn K (.ref f2) = true)
    (a3 : PySem.W.nsIn K mainGlobals "_law_associative" = some (some (.ref f3))) (l3 : K.lookup f3 = some ⟨oc3, od3, .func (PySem.W.fnOf "_law_associative" "_law_associative" (defArgs s__law_associative) (defBody s__law_associative) (defScope s__law_associative) .none kV3 dc3 pm3 an3 cd3 ct3), sl3⟩) (c3 : PySem.W.codeIn K cd3 "_law_associative" = true) (k3 : PySem.W.keepIn K (.ref f3) = true)
    (a4 : PySem.W.nsIn K mainGlobals "_law_simple" = some (some (.ref f4))) (l4 : K.lookup f4 = some ⟨oc4, od4, .func (PySem.W.fnOf "_law_simple" "_law_simple" (defArgs s__law_simple) (defBody s__law_simple) (defScope s__law_simple) .none kV4 dc4 pm4 an4 cd4 ct4), sl4⟩) (c4 : PySem.W.codeIn K cd4 "_law_simple" = true) (k4 : PySem.W.keepIn K (.ref f4) = true)
    (a5 : PySem.W.nsIn K mainGlobals "_law_table" = some (some (.ref f5))) (l5 : K.lookup f5 = some ⟨oc5, od5, .func (PySem.W.fnOf "_law_table" "_law_table" (defArgs s__law_table) (defBody s__law_table) (defScope s__law_table) .none kV5 dc5 pm5 an5 cd5 ct5), sl5⟩) (c5 : PySem.W.codeIn K cd5 "_law_table" = true) (k5 : PySem.W.keepIn K (.ref f5) = true)
    (a6 : PySem.W.nsIn K mainGlobals "_law_semigroup" = some (some (.ref f6))) (l6 : K.lookup f6 = some ⟨oc6, od6, .func (PySem.W.fnOf "_law_semigroup" "_law_semigroup" (defArgs s__law_semigroup) (defBody s__law_semigroup) (defScope s__law_semigroup) .none kV6 dc6 pm6 an6 cd6 ct6), sl6⟩) (c6 : PySem.W.codeIn K cd6 "_law_semigroup" = true) (k6 : PySem.W.keepIn K (.ref f6) = true)
    (a7 : PySem.W.nsIn K mainGlobals "_law_subset" = some (some (.ref f7))) (l7 : K.lookup f7 = some ⟨oc7, od7, .func (PySem.W.fnOf "_law_subset" "_law_subset" (defArgs s__law_subset) (defBody s__law_subset) (defScope s__law_subset) .none kV7 dc7 pm7 an7 cd7 ct7), sl7⟩) (c7 : PySem.W.codeIn K cd7 "_law_subset" = true) (k7 : PySem.W.keepIn K (.ref f7) = true)
    (a8 : PySem.W.nsIn K mainGlobals "is_associative" = some (some (.ref f8))) (l8 : K.lookup f8 = some ⟨oc8, od8, .func (PySem.W.fnOf "is_associative" "is_associative" (defArgs s_is_associative) (defBody s_is_associative) (defScope s_is_associative) .none kV8 dc8 pm8 an8 (.ref cc8) ct8), sl8⟩) (c8 : PySem.W.codeIn K (.ref cc8) "is_associative" = true) (k8 : PySem.W.keepIn K (.ref f8) = true) (q8 : K.lookup cc8 = some ⟨ec8, dd8, .fields vs8, sm8⟩) (p8 : vs8[11]? = some (.ref P8)) (r8 : K.lookup P8 = none)
    (a9 : PySem.W.nsIn K mainGlobals "fault_of" = some (some (.ref f9))) (l9 : K.lookup f9 = some ⟨oc9, od9, .func (PySem.W.fnOf "fault_of" "fault_of" (defArgs s_fault_of) (defBody s_fault_of) (defScope s_fault_of) .none kV9 dc9 pm9 an9 (.ref cc9) ct9), sl9⟩) (c9 : PySem.W.codeIn K (.ref cc9) "fault_of" = true) (k9 : PySem.W.keepIn K (.ref f9) = true) (q9 : K.lookup cc9 = some ⟨ec9, dd9, .fields vs9, sm9⟩) (p9 : vs9[11]? = some (.ref P9)) (r9 : K.lookup P9 = none)
    (a10 : PySem.W.nsIn K mainGlobals "check" = some (some (.ref f10))) (l10 : K.lookup f10 = some ⟨oc10, od10, .func (PySem.W.fnOf "check" "check" (defArgs s_check) (defBody s_check) (defScope s_check) .none kV10 dc10 pm10 an10 cd10 ct10), sl10⟩) (c10 : PySem.W.codeIn K cd10 "check" = true) (k10 : PySem.W.keepIn K (.ref f10) = true)
    (a11 : PySem.W.nsIn K mainGlobals "is_value_set" = some (some (.ref f11))) (l11 : K.lookup f11 = some ⟨oc11, od11, .func (PySem.W.fnOf "is_value_set" "is_value_set" (defArgs s_is_value_set) (defBody s_is_value_set) (defScope s_is_value_set) .none kV11 dc11 pm11 an11 (.ref cc11) ct11), sl11⟩) (c11 : PySem.W.codeIn K (.ref cc11) "is_value_set" = true) (k11 : PySem.W.keepIn K (.ref f11) = true) (q11 : K.lookup cc11 = some ⟨ec11, dd11, .fields vs11, sm11⟩) (p11 : vs11[11]? = some (.ref P11)) (r11 : K.lookup P11 = none)
    (a12 : PySem.W.nsIn K mainGlobals "check_sets" = some (some (.ref f12))) (l12 : K.lookup f12 = some ⟨oc12, od12, .func (PySem.W.fnOf "check_sets" "check_sets" (defArgs s_check_sets) (defBody s_check_sets) (defScope s_check_sets) .none kV12 dc12 pm12 an12 (.ref cc12) ct12), sl12⟩) (c12 : PySem.W.codeIn K (.ref cc12) "check_sets" = true) (k12 : PySem.W.keepIn K (.ref f12) = true) (q12 : K.lookup cc12 = some ⟨ec12, dd12, .fields vs12, sm12⟩) (p12 : vs12[11]? = some (.ref P12)) (r12 : K.lookup P12 = none)
    (a13 : PySem.W.nsIn K mainGlobals "first_words" = some (some (.ref f13))) (l13 : K.lookup f13 = some ⟨oc13, od13, .func (PySem.W.fnOf "first_words" "first_words" (defArgs s_first_words) (defBody s_first_words) (defScope s_first_words) .none kV13 dc13 pm13 an13 cd13 ct13), sl13⟩) (c13 : PySem.W.codeIn K cd13 "first_words" = true) (k13 : PySem.W.keepIn K (.ref f13) = true)
    (a14 : PySem.W.nsIn K mainGlobals "stayers" = some (some (.ref f14))) (l14 : K.lookup f14 = some ⟨oc14, od14, .func (PySem.W.fnOf "stayers" "stayers" (defArgs s_stayers) (defBody s_stayers) (defScope s_stayers) .none kV14 dc14 pm14 an14 cd14 ct14), sl14⟩) (c14 : PySem.W.codeIn K cd14 "stayers" = true) (k14 : PySem.W.keepIn K (.ref f14) = true)
    (a15 : PySem.W.nsIn K mainGlobals "middle_for" = some (some (.ref f15))) (l15 : K.lookup f15 = some ⟨oc15, od15, .func (PySem.W.fnOf "middle_for" "middle_for" (defArgs s_middle_for) (defBody s_middle_for) (defScope s_middle_for) .none kV15 dc15 pm15 an15 cd15 ct15), sl15⟩) (c15 : PySem.W.codeIn K cd15 "middle_for" = true) (k15 : PySem.W.keepIn K (.ref f15) = true)
    (a16 : PySem.W.nsIn K mainGlobals "rounds_of" = some (some (.ref f16))) (l16 : K.lookup f16 = some ⟨oc16, od16, .func (PySem.W.fnOf "rounds_of" "rounds_of" (defArgs s_rounds_of) (defBody s_rounds_of) (defScope s_rounds_of) .none kV16 dc16 pm16 an16 cd16 ct16), sl16⟩) (c16 : PySem.W.codeIn K cd16 "rounds_of" = true) (k16 : PySem.W.keepIn K (.ref f16) = true)
    (a17 : PySem.W.nsIn K mainGlobals "words_below" = some (some (.ref f17))) (l17 : K.lookup f17 = some ⟨oc17, od17, .func (PySem.W.fnOf "words_below" "words_below" (defArgs s_words_below) (defBody s_words_below) (defScope s_words_below) .none kV17 dc17 pm17 an17 cd17 ct17), sl17⟩) (c17 : PySem.W.codeIn K cd17 "words_below" = true) (k17 : PySem.W.keepIn K (.ref f17) = true)
    (a18 : PySem.W.nsIn K mainGlobals "value_of" = some (some (.ref f18))) (l18 : K.lookup f18 = some ⟨oc18, od18, .func (PySem.W.fnOf "value_of" "value_of" (defArgs s_value_of) (defBody s_value_of) (defScope s_value_of) .none kV18 dc18 pm18 an18 cd18 ct18), sl18⟩) (c18 : PySem.W.codeIn K cd18 "value_of" = true) (k18 : PySem.W.keepIn K (.ref f18) = true)
    (a19 : PySem.W.nsIn K mainGlobals "ends_of" = some (some (.ref f19))) (l19 : K.lookup f19 = some ⟨oc19, od19, .func (PySem.W.fnOf "ends_of" "ends_of" (defArgs s_ends_of) (defBody s_ends_of) (defScope s_ends_of) .none kV19 dc19 pm19 an19 (.ref cc19) ct19), sl19⟩) (c19 : PySem.W.codeIn K (.ref cc19) "ends_of" = true) (k19 : PySem.W.keepIn K (.ref f19) = true) (q19 : K.lookup cc19 = some ⟨ec19, dd19, .fields vs19, sm19⟩) (p19 : vs19[11]? = some (.ref P19)) (r19 : K.lookup P19 = none)
    (a20 : PySem.W.nsIn K mainGlobals "tells_apart" = some (some (.ref f20))) (l20 : K.lookup f20 = some ⟨oc20, od20, .func (PySem.W.fnOf "tells_apart" "tells_apart" (defArgs s_tells_apart) (defBody s_tells_apart) (defScope s_tells_apart) .none kV20 dc20 pm20 an20 (.ref cc20) ct20), sl20⟩) (c20 : PySem.W.codeIn K (.ref cc20) "tells_apart" = true) (k20 : PySem.W.keepIn K (.ref f20) = true) (q20 : K.lookup cc20 = some ⟨ec20, dd20, .fields vs20, sm20⟩) (p20 : vs20[11]? = some (.ref P20)) (r20 : K.lookup P20 = none)
    (a21 : PySem.W.nsIn K mainGlobals "ends_apart" = some (some (.ref f21))) (l21 : K.lookup f21 = some ⟨oc21, od21, .func (PySem.W.fnOf "ends_apart" "ends_apart" (defArgs s_ends_apart) (defBody s_ends_apart) (defScope s_ends_apart) .none kV21 dc21 pm21 an21 cd21 ct21), sl21⟩) (c21 : PySem.W.codeIn K cd21 "ends_apart" = true) (k21 : PySem.W.keepIn K (.ref f21) = true)
    (a22 : PySem.W.nsIn K mainGlobals "_law_refused" = some (some (.ref f22))) (l22 : K.lookup f22 = some ⟨oc22, od22, .func (PySem.W.fnOf "_law_refused" "_law_refused" (defArgs s__law_refused) (defBody s__law_refused) (defScope s__law_refused) .none kV22 dc22 pm22 an22 cd22 ct22), sl22⟩) (c22 : PySem.W.codeIn K cd22 "_law_refused" = true) (k22 : PySem.W.keepIn K (.ref f22) = true)
    (a23 : PySem.W.nsIn K mainGlobals "_law_same_ends" = some (some (.ref f23))) (l23 : K.lookup f23 = some ⟨oc23, od23, .func (PySem.W.fnOf "_law_same_ends" "_law_same_ends" (defArgs s__law_same_ends) (defBody s__law_same_ends) (defScope s__law_same_ends) .none kV23 dc23 pm23 an23 cd23 ct23), sl23⟩) (c23 : PySem.W.codeIn K cd23 "_law_same_ends" = true) (k23 : PySem.W.keepIn K (.ref f23) = true)
    (a24 : PySem.W.nsIn K mainGlobals "_law_value" = some (some (.ref f24))) (l24 : K.lookup f24 = some ⟨oc24, od24, .func (PySem.W.fnOf "_law_value" "_law_value" (defArgs s__law_value) (defBody s__law_value) (defScope s__law_value) .none kV24 dc24 pm24 an24 cd24 ct24), sl24⟩) (c24 : PySem.W.codeIn K cd24 "_law_value" = true) (k24 : PySem.W.keepIn K (.ref f24) = true)
    (a25 : PySem.W.nsIn K mainGlobals "law" = some (some (.ref f25))) (l25 : K.lookup f25 = some ⟨oc25, od25, .func (PySem.W.fnOf "law" "law" (defArgs s_law) (defBody s_law) (defScope s_law) .none kV25 dc25 pm25 an25 cd25 ct25), sl25⟩) (c25 : PySem.W.codeIn K cd25 "law" = true) (k25 : PySem.W.keepIn K (.ref f25) = true)
    (xa_NoLength : PySem.W.nsIn K mainGlobals "NoLength" = some (some (.ref a_NoLength)))
    (xx_NoLength : PySem.W.excIn K a_NoLength [.type "ValueError", .type "Exception", .type "BaseException", .type "object"] "ValueError.__new__" = true)
    (xk_NoLength : PySem.W.keepIn K (.ref a_NoLength) = true)
    (xe1_NoLength : PySem.W.findIn K (.ref a_NoLength) "__getattribute__" = some (some (.builtin "BaseException.__getattribute__")))
    (xe2_NoLength : PySem.W.findIn K (.ref a_NoLength) "__getattr__" = some none)
    (xe5_NoLength : PySem.W.findIn K (.ref a_NoLength) "__class__" = some (some (.builtin "object.__class__")))
    (xe8_NoLength : PySem.W.mroIn K a_NoLength (.type "object") = some true)
    (xb_NoLength : PySem.W.subIn K (.ref a_NoLength) (.type "BaseException") = some true)
    (xt_NoLength : PySem.W.typeIn K (.ref a_NoLength) = some (.type "type"))
    (xe4_NoLength : PySem.W.hasDictIn K a_NoLength = true)
    (xa_FilterError : PySem.W.nsIn K mainGlobals "FilterError" = some (some (.ref a_FilterError)))
    (xc_FilterError : PySem.W.isClsIn K a_FilterError = true)
    (xd_FilterError : PySem.W.typeIn K (.ref a_FilterError) = some (.type "type"))
    (xe6 : PySem.W.specialIn K (.builtin "object.__class__") "__get__" = some (some (.builtin "getset_descriptor.__get__")))
    (xe7 : PySem.W.takesIn K (.builtin "object.__class__") = some true)
    (xs_NoLength_NoLength : PySem.W.subIn K (.ref a_NoLength) (.ref a_NoLength) = some true)
    (xq_NoLength_FilterError : PySem.W.subIn K (.ref a_NoLength) (.ref a_FilterError) = some true)
    (xr0_NoLength : PySem.W.subIn K (.ref a_NoLength) (.ref a_NoLength) = some true)
    (z_all : PySem.W.nsIn K mainGlobals "all" = some none) (z_any : PySem.W.nsIn K mainGlobals "any" = some none) (z_enumerate : PySem.W.nsIn K mainGlobals "enumerate" = some none) (z_int : PySem.W.nsIn K mainGlobals "int" = some none) (z_isinstance : PySem.W.nsIn K mainGlobals "isinstance" = some none) (z_len : PySem.W.nsIn K mainGlobals "len" = some none) (z_list : PySem.W.nsIn K mainGlobals "list" = some none) (z_max : PySem.W.nsIn K mainGlobals "max" = some none) (z_min : PySem.W.nsIn K mainGlobals "min" = some none) (z_range : PySem.W.nsIn K mainGlobals "range" = some none) (z_set : PySem.W.nsIn K mainGlobals "set" = some none) (z_tuple : PySem.W.nsIn K mainGlobals "tuple" = some none)
    {t_MOST_LETTERS : Tok} (y_MOST_LETTERS : PySem.W.nsIn K mainGlobals "MOST_LETTERS" = some (some (.int 3 t_MOST_LETTERS))) {t_MOST_VALUES : Tok} (y_MOST_VALUES : PySem.W.nsIn K mainGlobals "MOST_VALUES" = some (some (.int 4 t_MOST_VALUES))) :
    LamX.LawAtS l w K CX0 8 63 "_law_script" mg fa h := by
  have Z : Zs mg := ⟨PySem.W.mg_none_of X G z_all, PySem.W.mg_none_of X G z_any, PySem.W.mg_none_of X G z_enumerate, PySem.W.mg_none_of X G z_int, PySem.W.mg_none_of X G z_isinstance, PySem.W.mg_none_of X G z_len, PySem.W.mg_none_of X G z_list, PySem.W.mg_none_of X G z_max, PySem.W.mg_none_of X G z_min, PySem.W.mg_none_of X G z_range, PySem.W.mg_none_of X G z_set, PySem.W.mg_none_of X G z_tuple, ⟨_, PySem.W.mg_of X G y_MOST_LETTERS, _, rfl⟩, ⟨_, PySem.W.mg_of X G y_MOST_VALUES, _, rfl⟩⟩
  have F0 := fun_mk (st := s__law_draws) l0 c0 k0
  have B0 := F0.binds (ps := ["_law_cell", "_law_modulus", "_law_count"]) fun _ _ _ _ _ _ us hl => match us, hl with | [_, _, _], _ => rfl
  have T0 : DefAt K mg "_law_draws" s__law_draws ["_law_cell", "_law_modulus", "_law_count"] := ⟨_, _, F0, PySem.W.mg_of X G a0, B0⟩
  have F1 := fun_mk (st := s__law_box) l1 c1 k1
  have B1 := F1.binds (ps := ["_law_script"]) fun _ _ _ _ _ _ us hl => match us, hl with | [_], _ => rfl
  have T1 : DefAt K mg "_law_box" s__law_box ["_law_script"] := ⟨_, _, F1, PySem.W.mg_of X G a1, B1⟩
  have F2 := fun_mk (st := s__law_next) l2 c2 k2
  have B2 := F2.binds (ps := ["_law_box_here", "_law_modulus"]) fun _ _ _ _ _ _ us hl => match us, hl with | [_, _], _ => rfl
  have T2 : DefAt K mg "_law_next" s__law_next ["_law_box_here", "_law_modulus"] := ⟨_, _, F2, PySem.W.mg_of X G a2, B2⟩
  have F3 := fun_mk (st := s__law_associative) l3 c3 k3
  have B3 := F3.binds (ps := ["_law_table_here"]) fun _ _ _ _ _ _ us hl => match us, hl with | [_], _ => rfl
  have T3 : DefAt K mg "_law_associative" s__law_associative ["_law_table_here"] := ⟨_, _, F3, PySem.W.mg_of X G a3, B3⟩
  have F4 := fun_mk (st := s__law_simple) l4 c4 k4
  have B4 := F4.binds (ps := ["_law_kind", "_law_size", "_law_a", "_law_b"]) fun _ _ _ _ _ _ us hl => match us, hl with | [_, _, _, _], _ => rfl
  have T4 : DefAt K mg "_law_simple" s__law_simple ["_law_kind", "_law_size", "_law_a", "_law_b"] := ⟨_, _, F4, PySem.W.mg_of X G a4, B4⟩
  have F5 := fun_mk (st := s__law_table) l5 c5 k5
  have B5 := F5.binds (ps := ["_law_box_here", "_law_size"]) fun _ _ _ _ _ _ us hl => match us, hl with | [_, _], _ => rfl
  have T5 : DefAt K mg "_law_table" s__law_table ["_law_box_here", "_law_size"] := ⟨_, _, F5, PySem.W.mg_of X G a5, B5⟩
  have F6 := fun_mk (st := s__law_semigroup) l6 c6 k6
  have B6 := F6.binds (ps := ["_law_box_here", "_law_most"]) fun _ _ _ _ _ _ us hl => match us, hl with | [_, _], _ => rfl
  have T6 : DefAt K mg "_law_semigroup" s__law_semigroup ["_law_box_here", "_law_most"] := ⟨_, _, F6, PySem.W.mg_of X G a6, B6⟩
  have F7 := fun_mk (st := s__law_subset) l7 c7 k7
  have B7 := F7.binds (ps := ["_law_box_here", "_law_size"]) fun _ _ _ _ _ _ us hl => match us, hl with | [_, _], _ => rfl
  have T7 : DefAt K mg "_law_subset" s__law_subset ["_law_box_here", "_law_size"] := ⟨_, _, F7, PySem.W.mg_of X G a7, B7⟩
  have F8 := fun_mk (st := s_is_associative) l8 c8 k8
  have B8 := F8.binds (ps := ["table"]) fun _ _ _ _ _ _ us hl => match us, hl with | [_], _ => rfl
  have T8 : DefAtC K mg "is_associative" s_is_associative ["table"] cc8 := ⟨_, _, _, _, _, _, _, _, _, l8, c8, k8, PySem.W.mg_of X G a8, B8⟩
  have H8 := tabs "is_associative" (by simp) cc8 P8 (tabIn_mk a8 l8 rfl q8 p8)
  have F9 := fun_mk (st := s_fault_of) l9 c9 k9
  have B9 := F9.binds (ps := ["semigroup"]) fun _ _ _ _ _ _ us hl => match us, hl with | [_], _ => rfl
  have T9 : DefAtC K mg "fault_of" s_fault_of ["semigroup"] cc9 := ⟨_, _, _, _, _, _, _, _, _, l9, c9, k9, PySem.W.mg_of X G a9, B9⟩
  have H9 := tabs "fault_of" (by simp) cc9 P9 (tabIn_mk a9 l9 rfl q9 p9)
  have F10 := fun_mk (st := s_check) l10 c10 k10
  have B10 := F10.binds (ps := ["semigroup"]) fun _ _ _ _ _ _ us hl => match us, hl with | [_], _ => rfl
  have T10 : DefAt K mg "check" s_check ["semigroup"] := ⟨_, _, F10, PySem.W.mg_of X G a10, B10⟩
  have F11 := fun_mk (st := s_is_value_set) l11 c11 k11
  have B11 := F11.binds (ps := ["size", "values"]) fun _ _ _ _ _ _ us hl => match us, hl with | [_, _], _ => rfl
  have T11 : DefAtC K mg "is_value_set" s_is_value_set ["size", "values"] cc11 := ⟨_, _, _, _, _, _, _, _, _, l11, c11, k11, PySem.W.mg_of X G a11, B11⟩
  have H11 := tabs "is_value_set" (by simp) cc11 P11 (tabIn_mk a11 l11 rfl q11 p11)
  have F12 := fun_mk (st := s_check_sets) l12 c12 k12
  have B12 := F12.binds (ps := ["semigroup", "sets"]) fun _ _ _ _ _ _ us hl => match us, hl with | [_, _], _ => rfl
  have T12 : DefAtC K mg "check_sets" s_check_sets ["semigroup", "sets"] cc12 := ⟨_, _, _, _, _, _, _, _, _, l12, c12, k12, PySem.W.mg_of X G a12, B12⟩
  have H12 := tabs "check_sets" (by simp) cc12 P12 (tabIn_mk a12 l12 rfl q12 p12)
  have F13 := fun_mk (st := s_first_words) l13 c13 k13
  have B13 := F13.binds (ps := ["semigroup"]) fun _ _ _ _ _ _ us hl => match us, hl with | [_], _ => rfl
  have T13 : DefAt K mg "first_words" s_first_words ["semigroup"] := ⟨_, _, F13, PySem.W.mg_of X G a13, B13⟩
  have F14 := fun_mk (st := s_stayers) l14 c14 k14
  have B14 := F14.binds (ps := ["semigroup", "ahead"]) fun _ _ _ _ _ _ us hl => match us, hl with | [_, _], _ => rfl
  have T14 : DefAt K mg "stayers" s_stayers ["semigroup", "ahead"] := ⟨_, _, F14, PySem.W.mg_of X G a14, B14⟩
  have F15 := fun_mk (st := s_middle_for) l15 c15 k15
  have B15 := F15.binds (ps := ["semigroup", "head", "tail", "one"]) fun _ _ _ _ _ _ us hl => match us, hl with | [_, _, _, _], _ => rfl
  have T15 : DefAt K mg "middle_for" s_middle_for ["semigroup", "head", "tail", "one"] := ⟨_, _, F15, PySem.W.mg_of X G a15, B15⟩
  have F16 := fun_mk (st := s_rounds_of) l16 c16 k16
  have B16 := F16.binds (ps := ["semigroup", "first", "second"]) fun _ _ _ _ _ _ us hl => match us, hl with | [_, _, _], _ => rfl
  have T16 : DefAt K mg "rounds_of" s_rounds_of ["semigroup", "first", "second"] := ⟨_, _, F16, PySem.W.mg_of X G a16, B16⟩
  have F17 := fun_mk (st := s_words_below) l17 c17 k17
  have B17 := F17.binds (ps := ["letters", "size"]) fun _ _ _ _ _ _ us hl => match us, hl with | [_, _], _ => rfl
  have T17 : DefAt K mg "words_below" s_words_below ["letters", "size"] := ⟨_, _, F17, PySem.W.mg_of X G a17, B17⟩
  have F18 := fun_mk (st := s_value_of) l18 c18 k18
  have B18 := F18.binds (ps := ["semigroup", "word"]) fun _ _ _ _ _ _ us hl => match us, hl with | [_, _], _ => rfl
  have T18 : DefAt K mg "value_of" s_value_of ["semigroup", "word"] := ⟨_, _, F18, PySem.W.mg_of X G a18, B18⟩
  have F19 := fun_mk (st := s_ends_of) l19 c19 k19
  have B19 := F19.binds (ps := ["semigroup", "one", "size"]) fun _ _ _ _ _ _ us hl => match us, hl with | [_, _, _], _ => rfl
  have T19 : DefAtC K mg "ends_of" s_ends_of ["semigroup", "one", "size"] cc19 := ⟨_, _, _, _, _, _, _, _, _, l19, c19, k19, PySem.W.mg_of X G a19, B19⟩
  have H19 := tabs "ends_of" (by simp) cc19 P19 (tabIn_mk a19 l19 rfl q19 p19)
  have F20 := fun_mk (st := s_tells_apart) l20 c20 k20
  have B20 := F20.binds (ps := ["semigroup", "first", "second", "size"]) fun _ _ _ _ _ _ us hl => match us, hl with | [_, _, _, _], _ => rfl
  have T20 : DefAtC K mg "tells_apart" s_tells_apart ["semigroup", "first", "second", "size"] cc20 := ⟨_, _, _, _, _, _, _, _, _, l20, c20, k20, PySem.W.mg_of X G a20, B20⟩
  have H20 := tabs "tells_apart" (by simp) cc20 P20 (tabIn_mk a20 l20 rfl q20 p20)
  have F21 := fun_mk (st := s_ends_apart) l21 c21 k21
  have B21 := F21.binds (ps := ["semigroup", "first", "second", "most"]) fun _ _ _ _ _ _ us hl => match us, hl with | [_, _, _, _], _ => rfl
  have T21 : DefAt K mg "ends_apart" s_ends_apart ["semigroup", "first", "second", "most"] := ⟨_, _, F21, PySem.W.mg_of X G a21, B21⟩
  have F22 := fun_mk (st := s__law_refused) l22 c22 k22
  have B22 := F22.binds (ps := ["_law_semigroup_here", "_law_first", "_law_second", "_law_most"]) fun _ _ _ _ _ _ us hl => match us, hl with | [_, _, _, _], _ => rfl
  have T22 : DefAt K mg "_law_refused" s__law_refused ["_law_semigroup_here", "_law_first", "_law_second", "_law_most"] := ⟨_, _, F22, PySem.W.mg_of X G a22, B22⟩
  have F23 := fun_mk (st := s__law_same_ends) l23 c23 k23
  have B23 := F23.binds (ps := ["_law_one", "_law_two", "_law_size"]) fun _ _ _ _ _ _ us hl => match us, hl with | [_, _, _], _ => rfl
  have T23 : DefAt K mg "_law_same_ends" s__law_same_ends ["_law_one", "_law_two", "_law_size"] := ⟨_, _, F23, PySem.W.mg_of X G a23, B23⟩
  have F24 := fun_mk (st := s__law_value) l24 c24 k24
  have B24 := F24.binds (ps := ["_law_semigroup_here", "_law_word_here"]) fun _ _ _ _ _ _ us hl => match us, hl with | [_, _], _ => rfl
  have T24 : DefAt K mg "_law_value" s__law_value ["_law_semigroup_here", "_law_word_here"] := ⟨_, _, F24, PySem.W.mg_of X G a24, B24⟩
  have F25 := fun_mk (st := s_law) l25 c25 k25
  have B25 := F25.binds (ps := ["_law_script"]) fun _ _ _ _ _ _ us hl => match us, hl with | [_], _ => rfl
  have T25 : DefAt K mg "law" s_law ["_law_script"] := ⟨_, _, F25, PySem.W.mg_of X G a25, B25⟩
  have e := hfa.symm.trans (PySem.W.mg_of X G a25)
  cases e
  refine ⟨PySem.W.fnOf "law" "law" (defArgs s_law) (defBody s_law) (defScope s_law) .none kV25 dc25 pm25 an25 cd25 ct25, [(cc8, P8), (cc9, P9), (cc11, P11), (cc12, P12), (cc19, P19), (cc20, P20)], spLaw K (fun P => ∃ p ∈ ([(cc8, P8), (cc9, P9), (cc11, P11), (cc12, P12), (cc19, P19), (cc20, P20)] : List (Addr × Addr)), p.2 = P), (List.forall_mem_cons.mpr ⟨H8.2, (List.forall_mem_cons.mpr ⟨H9.2, (List.forall_mem_cons.mpr ⟨H11.2, (List.forall_mem_cons.mpr ⟨H12.2, (List.forall_mem_cons.mpr ⟨H19.2, (List.forall_mem_cons.mpr ⟨H20.2, (List.forall_mem_nil _)⟩)⟩)⟩)⟩)⟩)⟩), (List.forall_mem_cons.mpr ⟨r8, (List.forall_mem_cons.mpr ⟨r9, (List.forall_mem_cons.mpr ⟨r11, (List.forall_mem_cons.mpr ⟨r12, (List.forall_mem_cons.mpr ⟨r19, (List.forall_mem_cons.mpr ⟨r20, (List.forall_mem_nil _)⟩)⟩)⟩)⟩)⟩)⟩), (List.forall_mem_cons.mpr ⟨H8.1, (List.forall_mem_cons.mpr ⟨H9.1, (List.forall_mem_cons.mpr ⟨H11.1, (List.forall_mem_cons.mpr ⟨H12.1, (List.forall_mem_cons.mpr ⟨H19.1, (List.forall_mem_cons.mpr ⟨H20.1, (List.forall_mem_nil _)⟩)⟩)⟩)⟩)⟩)⟩), fun s v => .of_eq rfl, fun H a ns hl _ hH hS => ⟨a, ns, rfl, hS, hl, fun P ⟨p, hp, e⟩ => e ▸ hH p hp, fun _ => rfl⟩, fun base hb hn hTB => ?_⟩
  have Q : Es l.prog w K mg base ⟨clsOf [("NoLength", .ref a_NoLength)], fun P => ∃ p ∈ ([(cc8, P8), (cc9, P9), (cc11, P11), (cc12, P12), (cc19, P19), (cc20, P20)] : List (Addr × Addr)), p.2 = P, w, fun _ _ => False, fun _ _ => False⟩ a_NoLength a_FilterError := ⟨⟨by first | rfl | simp [clsOf], PySem.W.mg_of X G xa_NoLength, xx_NoLength, xk_NoLength, xb_NoLength, xt_NoLength, ⟨xe1_NoLength, xe2_NoLength, xb_NoLength, xe4_NoLength, xe5_NoLength, xe6, xe7, xe8_NoLength⟩⟩, PySem.W.mg_of X G xa_FilterError, ⟨xc_FilterError, xd_FilterError⟩, xs_NoLength_NoLength, kit_own xc_FilterError xd_FilterError xr0_NoLength xq_NoLength_FilterError⟩
  have D__law_draws : Df l.prog w K mg base ⟨clsOf [("NoLength", .ref a_NoLength)], fun P => ∃ p ∈ ([(cc8, P8), (cc9, P9), (cc11, P11), (cc12, P12), (cc19, P19), (cc20, P20)] : List (Addr × Addr)), p.2 = P, w, fun _ _ => False, fun _ _ => False⟩ 1 "_law_draws" 3 m__law_draws := df__law_draws Z T0
  have D__law_box : Df l.prog w K mg base ⟨clsOf [("NoLength", .ref a_NoLength)], fun P => ∃ p ∈ ([(cc8, P8), (cc9, P9), (cc11, P11), (cc12, P12), (cc19, P19), (cc20, P20)] : List (Addr × Addr)), p.2 = P, w, fun _ _ => False, fun _ _ => False⟩ 2 "_law_box" 1 m__law_box := df__law_box Z T1 D__law_draws
  have D__law_next : Df l.prog w K mg base ⟨clsOf [("NoLength", .ref a_NoLength)], fun P => ∃ p ∈ ([(cc8, P8), (cc9, P9), (cc11, P11), (cc12, P12), (cc19, P19), (cc20, P20)] : List (Addr × Addr)), p.2 = P, w, fun _ _ => False, fun _ _ => False⟩ 1 "_law_next" 2 m__law_next := df__law_next Z T2
  have D__law_associative : Df l.prog w K mg base ⟨clsOf [("NoLength", .ref a_NoLength)], fun P => ∃ p ∈ ([(cc8, P8), (cc9, P9), (cc11, P11), (cc12, P12), (cc19, P19), (cc20, P20)] : List (Addr × Addr)), p.2 = P, w, fun _ _ => False, fun _ _ => False⟩ 1 "_law_associative" 1 m__law_associative := df__law_associative Z T3
  have D__law_simple : Df l.prog w K mg base ⟨clsOf [("NoLength", .ref a_NoLength)], fun P => ∃ p ∈ ([(cc8, P8), (cc9, P9), (cc11, P11), (cc12, P12), (cc19, P19), (cc20, P20)] : List (Addr × Addr)), p.2 = P, w, fun _ _ => False, fun _ _ => False⟩ 1 "_law_simple" 4 m__law_simple := df__law_simple Z T4
  have D__law_table : Df l.prog w K mg base ⟨clsOf [("NoLength", .ref a_NoLength)], fun P => ∃ p ∈ ([(cc8, P8), (cc9, P9), (cc11, P11), (cc12, P12), (cc19, P19), (cc20, P20)] : List (Addr × Addr)), p.2 = P, w, fun _ _ => False, fun _ _ => False⟩ 2 "_law_table" 2 m__law_table := df__law_table Z T5 D__law_next D__law_associative D__law_simple
  have D__law_semigroup : Df l.prog w K mg base ⟨clsOf [("NoLength", .ref a_NoLength)], fun P => ∃ p ∈ ([(cc8, P8), (cc9, P9), (cc11, P11), (cc12, P12), (cc19, P19), (cc20, P20)] : List (Addr × Addr)), p.2 = P, w, fun _ _ => False, fun _ _ => False⟩ 3 "_law_semigroup" 2 m__law_semigroup := df__law_semigroup Z T6 D__law_next D__law_table
  have D__law_subset : Df l.prog w K mg base ⟨clsOf [("NoLength", .ref a_NoLength)], fun P => ∃ p ∈ ([(cc8, P8), (cc9, P9), (cc11, P11), (cc12, P12), (cc19, P19), (cc20, P20)] : List (Addr × Addr)), p.2 = P, w, fun _ _ => False, fun _ _ => False⟩ 2 "_law_subset" 2 m__law_subset := df__law_subset Z T7 D__law_next
  have D_is_associative : Df l.prog w K mg base ⟨clsOf [("NoLength", .ref a_NoLength)], fun P => ∃ p ∈ ([(cc8, P8), (cc9, P9), (cc11, P11), (cc12, P12), (cc19, P19), (cc20, P20)] : List (Addr × Addr)), p.2 = P, w, fun _ _ => False, fun _ _ => False⟩ 2 "is_associative" 1 m_is_associative := df_is_associative Z T8 (tabB_of (hTB (cc8, P8) (by simp))) ⟨(cc8, P8), by simp, rfl⟩
  have D_fault_of : Df l.prog w K mg base ⟨clsOf [("NoLength", .ref a_NoLength)], fun P => ∃ p ∈ ([(cc8, P8), (cc9, P9), (cc11, P11), (cc12, P12), (cc19, P19), (cc20, P20)] : List (Addr × Addr)), p.2 = P, w, fun _ _ => False, fun _ _ => False⟩ 3 "fault_of" 1 m_fault_of := df_fault_of Z T9 (tabB_of (hTB (cc9, P9) (by simp))) ⟨(cc9, P9), by simp, rfl⟩ D_is_associative
  have D_check : Df l.prog w K mg base ⟨clsOf [("NoLength", .ref a_NoLength)], fun P => ∃ p ∈ ([(cc8, P8), (cc9, P9), (cc11, P11), (cc12, P12), (cc19, P19), (cc20, P20)] : List (Addr × Addr)), p.2 = P, w, fun _ _ => False, fun _ _ => False⟩ 4 "check" 1 m_check := df_check Z T10 D_fault_of
  have D_is_value_set : Df l.prog w K mg base ⟨clsOf [("NoLength", .ref a_NoLength)], fun P => ∃ p ∈ ([(cc8, P8), (cc9, P9), (cc11, P11), (cc12, P12), (cc19, P19), (cc20, P20)] : List (Addr × Addr)), p.2 = P, w, fun _ _ => False, fun _ _ => False⟩ 2 "is_value_set" 2 m_is_value_set := df_is_value_set Z T11 (tabB_of (hTB (cc11, P11) (by simp))) ⟨(cc11, P11), by simp, rfl⟩
  have D_check_sets : Df l.prog w K mg base ⟨clsOf [("NoLength", .ref a_NoLength)], fun P => ∃ p ∈ ([(cc8, P8), (cc9, P9), (cc11, P11), (cc12, P12), (cc19, P19), (cc20, P20)] : List (Addr × Addr)), p.2 = P, w, fun _ _ => False, fun _ _ => False⟩ 5 "check_sets" 2 m_check_sets := df_check_sets Z T12 (tabB_of (hTB (cc12, P12) (by simp))) ⟨(cc12, P12), by simp, rfl⟩ D_check D_is_value_set
  have D_first_words : Df l.prog w K mg base ⟨clsOf [("NoLength", .ref a_NoLength)], fun P => ∃ p ∈ ([(cc8, P8), (cc9, P9), (cc11, P11), (cc12, P12), (cc19, P19), (cc20, P20)] : List (Addr × Addr)), p.2 = P, w, fun _ _ => False, fun _ _ => False⟩ 1 "first_words" 1 m_first_words := df_first_words Z T13 rfl
  have D_stayers : Df l.prog w K mg base ⟨clsOf [("NoLength", .ref a_NoLength)], fun P => ∃ p ∈ ([(cc8, P8), (cc9, P9), (cc11, P11), (cc12, P12), (cc19, P19), (cc20, P20)] : List (Addr × Addr)), p.2 = P, w, fun _ _ => False, fun _ _ => False⟩ 2 "stayers" 2 m_stayers := df_stayers Z T14 D_first_words
  have D_middle_for : Df l.prog w K mg base ⟨clsOf [("NoLength", .ref a_NoLength)], fun P => ∃ p ∈ ([(cc8, P8), (cc9, P9), (cc11, P11), (cc12, P12), (cc19, P19), (cc20, P20)] : List (Addr × Addr)), p.2 = P, w, fun _ _ => False, fun _ _ => False⟩ 2 "middle_for" 4 m_middle_for := df_middle_for Z T15 D_first_words
  have D_rounds_of : Df l.prog w K mg base ⟨clsOf [("NoLength", .ref a_NoLength)], fun P => ∃ p ∈ ([(cc8, P8), (cc9, P9), (cc11, P11), (cc12, P12), (cc19, P19), (cc20, P20)] : List (Addr × Addr)), p.2 = P, w, fun _ _ => False, fun _ _ => False⟩ 3 "rounds_of" 3 m_rounds_of := df_rounds_of Z T16 D_stayers D_middle_for
  have D_words_below : Df l.prog w K mg base ⟨clsOf [("NoLength", .ref a_NoLength)], fun P => ∃ p ∈ ([(cc8, P8), (cc9, P9), (cc11, P11), (cc12, P12), (cc19, P19), (cc20, P20)] : List (Addr × Addr)), p.2 = P, w, fun _ _ => False, fun _ _ => False⟩ 1 "words_below" 2 m_words_below := df_words_below Z T17
  have D_value_of : Df l.prog w K mg base ⟨clsOf [("NoLength", .ref a_NoLength)], fun P => ∃ p ∈ ([(cc8, P8), (cc9, P9), (cc11, P11), (cc12, P12), (cc19, P19), (cc20, P20)] : List (Addr × Addr)), p.2 = P, w, fun _ _ => False, fun _ _ => False⟩ 1 "value_of" 2 m_value_of := df_value_of Z T18
  have D_ends_of : Df l.prog w K mg base ⟨clsOf [("NoLength", .ref a_NoLength)], fun P => ∃ p ∈ ([(cc8, P8), (cc9, P9), (cc11, P11), (cc12, P12), (cc19, P19), (cc20, P20)] : List (Addr × Addr)), p.2 = P, w, fun _ _ => False, fun _ _ => False⟩ 3 "ends_of" 3 m_ends_of := df_ends_of Z T19 (tabB_of (hTB (cc19, P19) (by simp))) ⟨(cc19, P19), by simp, rfl⟩ D_words_below D_value_of D_first_words
  have D_tells_apart : Df l.prog w K mg base ⟨clsOf [("NoLength", .ref a_NoLength)], fun P => ∃ p ∈ ([(cc8, P8), (cc9, P9), (cc11, P11), (cc12, P12), (cc19, P19), (cc20, P20)] : List (Addr × Addr)), p.2 = P, w, fun _ _ => False, fun _ _ => False⟩ 4 "tells_apart" 4 m_tells_apart := df_tells_apart Z T20 (tabB_of (hTB (cc20, P20) (by simp))) ⟨(cc20, P20), by simp, rfl⟩ rfl D_ends_of
  have D_ends_apart : DfX l.prog w K mg base ⟨clsOf [("NoLength", .ref a_NoLength)], fun P => ∃ p ∈ ([(cc8, P8), (cc9, P9), (cc11, P11), (cc12, P12), (cc19, P19), (cc20, P20)] : List (Addr × Addr)), p.2 = P, w, fun _ _ => False, fun _ _ => False⟩ 6 "ends_apart" 4 m_ends_apart := df_ends_apart Z T21 Q D_check_sets D_first_words D_rounds_of D_tells_apart
  have D__law_refused : Df l.prog w K mg base ⟨clsOf [("NoLength", .ref a_NoLength)], fun P => ∃ p ∈ ([(cc8, P8), (cc9, P9), (cc11, P11), (cc12, P12), (cc19, P19), (cc20, P20)] : List (Addr × Addr)), p.2 = P, w, fun _ _ => False, fun _ _ => False⟩ 7 "_law_refused" 4 m__law_refused := df__law_refused Z T22 Q D_ends_apart
  have D__law_same_ends : Df l.prog w K mg base ⟨clsOf [("NoLength", .ref a_NoLength)], fun P => ∃ p ∈ ([(cc8, P8), (cc9, P9), (cc11, P11), (cc12, P12), (cc19, P19), (cc20, P20)] : List (Addr × Addr)), p.2 = P, w, fun _ _ => False, fun _ _ => False⟩ 1 "_law_same_ends" 3 m__law_same_ends := df__law_same_ends Z T23
  have D__law_value : Df l.prog w K mg base ⟨clsOf [("NoLength", .ref a_NoLength)], fun P => ∃ p ∈ ([(cc8, P8), (cc9, P9), (cc11, P11), (cc12, P12), (cc19, P19), (cc20, P20)] : List (Addr × Addr)), p.2 = P, w, fun _ _ => False, fun _ _ => False⟩ 1 "_law_value" 2 m__law_value := df__law_value Z T24
  exact (df_law (C := ⟨clsOf [("NoLength", .ref a_NoLength)], fun P => ∃ p ∈ ([(cc8, P8), (cc9, P9), (cc11, P11), (cc12, P12), (cc19, P19), (cc20, P20)] : List (Addr × Addr)), p.2 = P, w, fun _ _ => False, fun _ _ => False⟩) Z F25 D__law_box D__law_semigroup D__law_subset D__law_refused D__law_next D__law_value D__law_same_ends).imp fun vs H Q E q => law_sp (C := ⟨clsOf [("NoLength", .ref a_NoLength)], fun P => ∃ p ∈ ([(cc8, P8), (cc9, P9), (cc11, P11), (cc12, P12), (cc19, P19), (cc20, P20)] : List (Addr × Addr)), p.2 = P, w, fun _ _ => False, fun _ _ => False⟩) math q (fun _ _ z => z)
/-! C1: the law's own helpers: what they draw. -/
theorem draws_spec (c : Int) (μ : Mu) : ∃ xs : List Int, xs.length = 6 ∧ m__law_draws [.int c, .int 1000003, .int 6] μ = some (.ok (.lst (xs.map D.int)) μ) := by
  have key : Rn (m__law_draws [.int c, .int 1000003, .int 6] μ) fun d μ' => ∃ xs : List Int, xs.length = 6 ∧ d = .lst (xs.map D.int) ∧ μ' = μ := by
    refine Rn.run ?_
    simp [b__law_draws]
    have rest : ∀ n : Int, Sk (sSeq (sSet 4 (eLstC aNil))
              (sSeq
                (sIf (eTest (eOp oGe (eVar 3) (eOp oPow (eC (D.int 10)) (eC (D.int 18)))))
                  (sSeq
                    (sFor (iRg1 (aCons (eVar 2) aNil)) (tName 5)
                      (sSeq
                        (sDrop
                          (eMt (oAppend (List.length μ)) (eVar 4)
                            (aCons (eOp oMod (eB oInt (aCons (eVar 3) aNil)) (eVar 1)) aNil)))
                        (sSet 3 (eOp oDiv (eVar 3) (eVar 1)))))
                    (sRet (eFrz (eVar 4))))
                  sNil)
                (sSeq
                  (sFor (iRg1 (aCons (eVar 2) aNil)) (tName 5)
                    (sSeq
                      (sSet 6
                        (eOp oMod
                          (eB oInt
                            (aCons
                              (eOp oMul
                                (eOp oPlus (eOp oPlus (eVar 3) (eOp oMul (eC (D.int 7)) (eVar 5))) (eC (D.int 1)))
                                (eC (D.int 48271)))
                              aNil))
                          (eC (D.int 2147483647))))
                      (sSeq
                        (sSet 6
                          (eOp oMod
                            (eB oInt
                              (aCons
                                (eOp oPlus (eOp oMul (eVar 6) (eC (D.int 69621))) (eOp oMul (eC (D.int 31)) (eVar 5)))
                                aNil))
                            (eC (D.int 2147483629))))
                        (sDrop
                          (eMt (oAppend (List.length μ)) (eVar 4)
                            (aCons (eOp oMod (eB oInt (aCons (eOp oDiv (eVar 6) (eC (D.int 7))) aNil)) (eVar 1))
                              aNil))))))
                  (sRet (eFrz (eVar 4))))) [some (D.int c), some (D.int 1000003), some (D.int 6), some (D.int n), none, none, none] μ) fun fl => Rn (ends μ.length (some fl)) fun d μ' => ∃ xs : List Int, xs.length = 6 ∧ d = .lst (xs.map D.int) ∧ μ' = μ := by
      intro n
      have p18 := cPow_18
      simp [p18]
      refine Sk.seq_ifs (fun h => ?_) fun h => ?_
      · simp at h
        have r6 := rOk_of (j := 6) (by decide) (by decide)
        simp [r6]
        refine Sk.seq_loop (fun i ρ' μ' => ∃ (xs : List Int) (n' : Int) (k' z : Option D), ρ' = [some (D.int c), some (D.int 1000003), some (D.int 6), some (D.int n'), some (D.cell (List.length μ)), k', z] ∧ μ' = μ ++ [some (.lst (xs.map D.int))] ∧ xs.length = i)
          ⟨[], n, none, none, rfl, rfl, rfl⟩ ?_ ?_
        · rintro i d ρ' μ' hd ⟨xs, n', k', z, rfl, rfl, hl⟩
          obtain ⟨hi, rfl⟩ := rng_get hd
          rw [turn1_name]
          have q5 : cDiv n' 1000003 = true := cDiv_of (by decide) (by decide)
          simp
          rw [mt1_ok (μ1 := μ ++ [some (.lst (xs.map D.int))]) (xs := xs.map D.int) (ys := xs.map D.int) (as := [.int (n' % 1000003)]) (by simp) (by simp) (by simp), oAppend_ok (by simp; omega) (by simp [D.pure])]
          simp [q5]
          exact ⟨xs ++ [n' % 1000003], by simp, by simp [hl]⟩
        · rintro ρ' μ' ⟨xs, n', k', z, rfl, rfl, hl⟩
          simp
          rw [frz1_cell (xs := xs.map D.int) (by simp) (by simp)]
          simp [leave_pure, D.pure]
          exact ⟨xs, by rw [hl, rngD_length], rfl⟩
      · have r6 := rOk_of (j := 6) (by decide) (by decide)
        simp [r6]
        simp at h
        refine Sk.seq_loop (fun i ρ' μ' => ∃ (xs : List Int) (k' z : Option D), ρ' = [some (D.int c), some (D.int 1000003), some (D.int 6), some (D.int n), some (D.cell (List.length μ)), k', z] ∧ μ' = μ ++ [some (.lst (xs.map D.int))] ∧ xs.length = i)
          ⟨[], none, none, rfl, rfl, rfl⟩ ?_ ?_
        · rintro i d ρ' μ' hd ⟨xs, k', z, rfl, rfl, hl⟩
          obtain ⟨hi, rfl⟩ := rng_get hd
          rw [turn1_name]
          have q1 : cMul 7 (i : Int) = true := cMul_l (by decide) (by decide)
          have q2 : cMul (n + 7 * (i : Int) + 1) 48271 = true := cMul_r (by decide) (by decide)
          have q3 : cMul ((n + 7 * (i : Int) + 1) * 48271 % 2147483647) 69621 = true := cMul_r (by decide) (by decide)
          have q4 : cMul 31 (i : Int) = true := cMul_l (by decide) (by decide)
          have q5 : ∀ x : Int, cDiv x 7 = true := fun x => cDiv_of (by decide) (by decide)
          simp [q1, q2, q3, q4, q5]
          rw [mt1_ok (μ1 := μ ++ [some (.lst (xs.map D.int))]) (xs := xs.map D.int) (ys := xs.map D.int) (as := [.int (((((n + 7 * (i : Int) + 1) * 48271) % 2147483647 * 69621 + 31 * (i : Int)) % 2147483629) / 7 % 1000003)]) (by simp) (by simp [q5]) (by simp), oAppend_ok (by simp; omega) (by simp [D.pure])]
          simp
          exact ⟨xs ++ [(((((n + 7 * (i : Int) + 1) * 48271) % 2147483647 * 69621 + 31 * (i : Int)) % 2147483629) / 7 % 1000003)], by simp, by simp [hl]⟩
        · rintro ρ' μ' ⟨xs, k', z, rfl, rfl, hl⟩
          simp
          rw [frz1_cell (xs := xs.map D.int) (by simp) (by simp)]
          simp [leave_pure, D.pure]
          exact ⟨xs, by rw [hl, rngD_length], rfl⟩
    refine Sk.seq_ifs (fun h => ?_) fun h => ?_
    · simpa using rest (0 - c)
    · simpa using rest c
  obtain ⟨d, μ', e, xs, hl, rfl, rfl⟩ := key
  exact ⟨xs, hl, e⟩

/-- the box: its row, its place -/
def BoxM (row : List Int) (at_ : Int) : M := .dK [(Sum.inr ("row" : Str), .lst (row.map D.int)), (Sum.inr ("at" : Str), .int at_)]
theorem kne : ¬ (Sum.inr ("row" : Str) : Key) = Sum.inr ("at" : Str) := by decide +kernel
theorem kne2 : ¬ Str.ofString "row" = Str.ofString "at" := by decide +kernel
theorem kne' : ¬ (Sum.inr ("at" : Str) : Key) = Sum.inr ("row" : Str) := by decide +kernel
theorem look_row (row : List Int) (a : Int) : look [(Sum.inr ("row" : Str), D.lst (row.map D.int)), (Sum.inr ("at" : Str), .int a)] (Sum.inr ("row" : Str) : Key) = some (.lst (row.map D.int)) := by simp [look]
theorem look_at (row : List Int) (a : Int) : look [(Sum.inr ("row" : Str), D.lst (row.map D.int)), (Sum.inr ("at" : Str), .int a)] (Sum.inr ("at" : Str) : Key) = some (.int a) := by simp [look, kne2]
/-- a box one may draw from -/
def BoxOk (m : M) : Prop := ∃ (row : List Int) (a : Int), m = BoxM row a ∧ row ≠ [] ∧ row.length < 1073741824
theorem box_spec (ns : List Int) (h : ns.length ≤ 63) : ∃ B, BoxOk B ∧ m__law_box [.scr (ns.map D.int)] [] = some (.ok (.cell 0) [some B]) := by
  have key : Rn (m__law_box [.scr (ns.map D.int)] []) fun d μ' => ∃ B, BoxOk B ∧ d = .cell 0 ∧ μ' = [some B] := by
    refine Rn.run ?_
    simp [b__law_box]
    refine Sk.seq_loop (fun i ρ' μ' => ∃ (xs : List Int) (c : Option D), ρ' = [some (D.scr (ns.map D.int)), some (D.lst (xs.map D.int)), c] ∧ μ' = [] ∧ xs.length = 6 * i) ⟨[], none, rfl, rfl, rfl⟩ ?_ ?_
    · rintro i d ρ' μ' hd ⟨xs, c, rfl, rfl, hl⟩
      have hi : i < 63 := by have := (List.getElem?_eq_some_iff.mp hd).1; simp at this; omega
      rw [List.getElem?_map] at hd
      cases hn : ns[i]? with
      | none => rw [hn] at hd; cases hd
      | some n =>
        rw [hn] at hd
        cases hd
        rw [turn1_name]
        simp
        obtain ⟨ys, hy, e⟩ := draws_spec n []
        rw [call1_ok e]
        simp
        rw [newL_ok (by simp; omega)]
        simp
        exact ⟨xs ++ ys, by simp, by simp [hl, hy]; omega⟩
    · rintro ρ' μ' ⟨xs, c, rfl, rfl, hl⟩
      simp at hl
      have fin : ∀ zs : List Int, zs ≠ [] → zs.length < 1073741824 → ∀ c, Sk (sRet (eDisp [(eC (.str "row"), eVar 1), (eC (.str "at"), eC (.int 0))]) [some (D.scr (ns.map D.int)), some (D.lst (zs.map D.int)), c] [])
          fun fl => Rn (ends 0 (some fl)) fun d μ' => ∃ B, BoxOk B ∧ d = .cell 0 ∧ μ' = [some B] := by
        intro zs hz hl c
        refine ⟨_, rfl, ?_⟩
        have e : mergeD [] [(Sum.inr ("row" : Str), D.lst (zs.map D.int)), (Sum.inr ("at" : Str), .int 0)] = [(Sum.inr ("row" : Str), D.lst (zs.map D.int)), (Sum.inr ("at" : Str), .int 0)] := by
          simp [mergeD, putD, kne2]
        have e2 : ends 0 (some (Fl.rt (D.cell 0) [some (M.dK (mergeD [] [(Sum.inr ("row" : Str), D.lst (zs.map D.int)), (Sum.inr ("at" : Str), .int 0)]))])) = some (.ok (.cell 0) [some (BoxM zs 0)]) := by
          rw [e]
          have : lows 0 (zs.map D.int) = true := lows_of_pures (pures_ints zs)
          simp [leave, M.low, lows, D.low, BoxM, this]
        exact ⟨_, _, e2, BoxM zs 0, ⟨zs, 0, rfl, hz, hl⟩, rfl, rfl⟩
      simp
      by_cases h0 : xs = []
      · subst h0
        simp
        exact fin [11, 5, 2, 7, 31, 101, 997] (by simp) (by simp) _
      · have hp : xs.length ≠ 0 := by simpa using h0
        have hq : ((xs.length : Int) == 0) = false := by simpa using h0
        rw [hq]
        simp only [ifs_f, sNil_ap, seqs_nx]
        exact fin xs h0 (by omega) _
  obtain ⟨d, μ', e, B, hB, rfl, rfl⟩ := key
  exact ⟨B, hB, e⟩
theorem next_at {μ : Mu} {k : Nat} {row : List Int} {a m : Int} (hm : 0 < m) (hr : row ≠ []) (hl : row.length < 1073741824) (hb : μ[k]? = some (some (BoxM row a))) :
    ∃ r, 0 ≤ r ∧ r < m ∧ m__law_next [.cell k, .int m] μ = some (.ok (.int r) (μ.set k (some (BoxM row (a + 1))))) := by
  have hk : k < μ.length := (List.getElem?_eq_some_iff.mp hb).1
  have g0 : dget μ (.cell k) (.str "at") = some (some (.int a)) := by simp [dget, hb, BoxM, G4.keyOf, look_at]
  have hb2 : (μ.set k (some (BoxM row (a + 1))))[k]? = some (some (BoxM row (a + 1))) := by rw [List.getElem?_set_self hk]
  have g1 : dget (μ.set k (some (BoxM row (a + 1)))) (.cell k) (.str "row") = some (some (.lst (row.map D.int))) := by rw [dget]; simp only [hb2]; simp only [BoxM, G4.keyOf, look_row]
  have pos : (0 : Int) < row.length := by
    have : row.length ≠ 0 := by simpa using hr
    omega
  have i0 := Int.emod_nonneg a (show (row.length : Int) ≠ 0 by omega)
  have i1 := Int.emod_lt_of_pos a pos
  obtain ⟨x, hx⟩ : ∃ x, row[(a % (row.length : Int)).toNat]? = some x := ⟨_, List.getElem?_eq_getElem (by omega)⟩
  refine ⟨(x + 7919 * (a / (row.length : Int))) % m, Int.emod_nonneg _ (by omega), Int.emod_lt_of_pos _ hm, ?_⟩
  have key : Rn (m__law_next [.cell k, .int m] μ) fun d μ' => d = .int ((x + 7919 * (a / (row.length : Int))) % m) ∧ μ' = μ.set k (some (BoxM row (a + 1))) := by
    refine Rn.run ?_
    simp [b__law_next]
    rw [get2_ok g0]
    simp
    have e : sPut μ.length (eVar 0) (eC (D.str "at")) (eOp oPlus (eVar 2) (eC (D.int 1))) [some (D.cell k), some (D.int m), some (D.int a), none] μ = some (.nx [some (D.cell k), some (D.int m), some (D.int a), none] (μ.set k (some (BoxM row (a + 1))))) := by
      simp [sPut, hb, BoxM, G4.keyOf, D.pure, putD, kne2]
    rw [e]
    have hd : cDiv a (row.length : Int) = true := cDiv_of pos (by omega)
    have hc : ∀ j, cMul 7919 j = true := fun j => cMul_l (by decide) (by decide)
    have ai : atI (row.map D.int) (a % (row.length : Int)) = some (.int x) := atI_ok i0 (by rw [List.getElem?_map, hx]; rfl)
    have hp : 0 < row.length := by omega
    simp [get2_ok g1, hp, hd, hc, ai, hm]
    rw [List.take_of_length_le (by simp)]
  obtain ⟨d, μ', e, rfl, rfl⟩ := key
  exact e
/-- a draw, the box being the first cell -/
theorem next_spec {B : M} (hB : BoxOk B) (rest : Mu) {m : Int} (hm : 0 < m) : ∃ r B', 0 ≤ r ∧ r < m ∧ BoxOk B' ∧ m__law_next [.cell 0, .int m] (some B :: rest) = some (.ok (.int r) (some B' :: rest)) := by
  obtain ⟨row, a, rfl, hr, hl⟩ := hB
  obtain ⟨r, h0, h1, e⟩ := next_at (μ := some (BoxM row a) :: rest) (k := 0) hm hr hl rfl
  exact ⟨r, _, h0, h1, ⟨row, a + 1, rfl, hr, hl⟩, e⟩
/-! the store of a law: the box, what was there, what came -/
section
variable {B : M} {rest : Mu}
@[simp] theorem st_get (ls : Mu) (j : Nat) : (some B :: (rest ++ ls))[rest.length + 1 + j]? = ls[j]? := by
  rw [show rest.length + 1 + j = (rest.length + j) + 1 by omega, List.getElem?_cons_succ, List.getElem?_append_right (by omega)]
  congr 1; omega
@[simp] theorem st_set (ls : Mu) (j : Nat) (m : Option M) : (some B :: (rest ++ ls)).set (rest.length + 1 + j) m = some B :: (rest ++ ls.set j m) := by
  rw [show rest.length + 1 + j = (rest.length + j) + 1 by omega, List.set_cons_succ, List.set_append_right _ _ (by omega)]
  congr 3; omega
end

/-! ### lists of draws -/
theorem comps_draw {B : M} (hB : BoxOk B) (rest : Mu) {mk : List D → Mu → Ro D} {ρ : G4.Env} {k bi : Nat} {fe : Ev D} {m : Int} (hm : 0 < m) (n : Nat) (hb : ∀ d, (ρ.set k (some d))[bi]? = some (some (.cell 0))) (hf : ∀ d μ, fe (ρ.set k (some d)) μ = some (.ok (.int m) μ)) :
    ∃ (xs : List Int) (B' : M), xs.length = n ∧ (∀ x ∈ xs, 0 ≤ x ∧ x < m) ∧ BoxOk B' ∧
      comps mk (some (.ok (.its (rngD 0 n)) (some B :: rest))) (tName k) eYes (eCall m__law_next (aCons (eVar bi) (aCons fe aNil))) ρ = mk (xs.map D.int) (some B' :: rest) := by
  obtain ⟨ys, μ', e, B', xs, rfl, rfl, hl, hr, hB'⟩ := comps_rule1 (mk := mk) (ρ := ρ) (k := k) (te := eCall m__law_next (aCons (eVar bi) (aCons fe aNil))) (ds := rngD 0 n) (μ := some B :: rest)
    (fun i μ' acc => ∃ (B' : M) (xs : List Int), μ' = some B' :: rest ∧ acc = xs.map D.int ∧ xs.length = i ∧ (∀ x ∈ xs, 0 ≤ x ∧ x < m) ∧ BoxOk B') ⟨B, [], rfl, rfl, rfl, by simp, hB⟩ (by
      rintro i d μ' acc hd ⟨B', xs, rfl, rfl, hl, hr, hB'⟩
      obtain ⟨r, B2, h0, h1, hB2, e⟩ := next_spec hB' rest hm
      have hv : eVar bi (ρ.set k (some d)) (some B' :: rest) = some (.ok (.cell 0) (some B' :: rest)) := by rw [eVar_ap, hb]
      refine ⟨.int r, some B2 :: rest, ?_, B2, xs ++ [r], rfl, by simp, by simp [hl], ?_, hB2⟩
      · rw [eCall_ap, aCons_ap, hv, cons1_ok, aCons_ap, hf, cons1_ok, aNil_ap, cons2_ok, cons2_ok, call1_ok e]
      · intro x hx
        rcases List.mem_append.mp hx with hx | hx
        · exact hr x hx
        · have : x = r := by simpa using hx
          subst this; exact ⟨h0, h1⟩)
  exact ⟨xs, B', by rw [hl, rngD_length], hr, hB', e⟩
/-! ### tables -/
def rowL (r : List Int) : D := .lst (r.map D.int)
def rowT (r : List Int) : D := .tup (r.map D.int)
def tabD (T : List (List Int)) : D := .tup (T.map rowT)
def gridD (T : List (List Int)) : D := .lst (T.map rowL)
def at2 (T : List (List Int)) (a b : Int) : Int := (T.getD a.toNat []).getD b.toNat 0
structure Grid (n : Nat) (T : List (List Int)) : Prop where
  len : T.length = n
  row : ∀ r ∈ T, r.length = n ∧ ∀ x ∈ r, 0 ≤ x ∧ x < (n : Int)
structure Tab (n : Nat) (T : List (List Int)) : Prop extends Grid n T where
  assoc : ∀ a b c : Int, 0 ≤ a → a < n → 0 ≤ b → b < n → 0 ≤ c → c < n → at2 T (at2 T a b) c = at2 T a (at2 T b c)
theorem Grid.get {n : Nat} {T : List (List Int)} (h : Grid n T) {a : Int} (h0 : 0 ≤ a) (h1 : a < n) : ∃ r, T[a.toNat]? = some r ∧ r.length = n ∧ ∀ x ∈ r, 0 ≤ x ∧ x < (n : Int) := by
  have hl : a.toNat < T.length := by rw [h.len]; omega
  exact ⟨T[a.toNat], List.getElem?_eq_getElem hl, h.row _ (List.getElem_mem hl)⟩
theorem Grid.get2 {n : Nat} {T : List (List Int)} (h : Grid n T) {a b : Int} (h0 : 0 ≤ a) (h1 : a < n) (g0 : 0 ≤ b) (g1 : b < n) : ∃ r, T[a.toNat]? = some r ∧ r[b.toNat]? = some (at2 T a b) ∧ 0 ≤ at2 T a b ∧ at2 T a b < n := by
  obtain ⟨r, hr, hl, hx⟩ := h.get h0 h1
  have hb : b.toNat < r.length := by omega
  have e : at2 T a b = r[b.toNat] := by
    unfold at2
    simp only [List.getD_eq_getElem?_getD, hr, Option.getD_some, List.getElem?_eq_getElem hb]
  exact ⟨r, hr, by rw [e]; exact List.getElem?_eq_getElem hb, by rw [e]; exact hx _ (List.getElem_mem hb)⟩
/-- what a table answers, as the program asks it -/
theorem atI_T {T : List (List Int)} {a : Int} {r : List Int} (h0 : 0 ≤ a) (h : T[a.toNat]? = some r) : atI (T.map rowT) a = some (rowT r) := atI_ok h0 (by rw [List.getElem?_map, h]; rfl)
theorem atI_L {T : List (List Int)} {a : Int} {r : List Int} (h0 : 0 ≤ a) (h : T[a.toNat]? = some r) : atI (T.map rowL) a = some (rowL r) := atI_ok h0 (by rw [List.getElem?_map, h]; rfl)
theorem atI_ints {r : List Int} {a x : Int} (h0 : 0 ≤ a) (h : r[a.toNat]? = some x) : atI (r.map D.int) a = some (.int x) := atI_ok h0 (by rw [List.getElem?_map, h]; rfl)
theorem oIx_rowL (r : List Int) (i : Int) (μ : Mu) : oIx (rowL r) (.int i) μ = ix1 (atI (r.map D.int) i) μ := oIx_lst _ _
theorem oIx_rowT (r : List Int) (i : Int) (μ : Mu) : oIx (rowT r) (.int i) μ = ix1 (atI (r.map D.int) i) μ := oIx_tup _ _
/-- simple tables -/
def sfun (kind n a b : Int) : Int :=
  if kind = 0 then (if b > a then b else a) else if kind = 1 then (a + b) % n else if kind = 2 then a else if kind = 3 then b
  else if kind = 4 then (if n - 1 < a + b + 1 then n - 1 else a + b + 1) else if kind = 5 then a * b % n else if kind = 6 ∧ a = b then a else 0
theorem simple_spec {kind n a b : Int} (hn : 0 < n) (ha : 0 ≤ a ∧ a < 1000) (μ : Mu) : m__law_simple [.int kind, .int n, .int a, .int b] μ = some (.ok (.int (sfun kind n a b)) μ) := by
  have key : Rn (m__law_simple [.int kind, .int n, .int a, .int b] μ) fun d μ' => d = .int (sfun kind n a b) ∧ μ' = μ := by
    refine Rn.run ?_
    simp [b__law_simple]
    refine Sk.seq_ifs (fun h => ?_) fun h => ?_
    · simp at h; simp [h, sfun]
    simp at h; simp [h]
    refine Sk.seq_ifs (fun h1 => ?_) fun h1 => ?_
    · simp at h1; simp [h1, sfun, hn]
    simp at h1; simp [h1]
    refine Sk.seq_ifs (fun h2 => ?_) fun h2 => ?_
    · simp at h2; simp [h2, sfun]
    simp at h2; simp [h2]
    refine Sk.seq_ifs (fun h3 => ?_) fun h3 => ?_
    · simp at h3; simp [h3, sfun]
    simp at h3; simp [h3]
    refine Sk.seq_ifs (fun h4 => ?_) fun h4 => ?_
    · simp at h4; simp [h4, sfun]
    simp at h4; simp [h4]
    refine Sk.seq_ifs (fun h5 => ?_) fun h5 => ?_
    · simp at h5
      have c : cMul a b = true := cMul_l (by omega) (by omega)
      simp [h5, sfun, hn, c]
    simp at h5; simp [h5]
    rw [and2_b (c := a == b) (by simp)]
    refine Sk.seq_ifs (fun h6 => ?_) fun h6 => ?_
    · simp at h6; simp [h6, sfun]
    · simp at h6
      simp [sfun, h, h1, h2, h3, h4, h5]
      intro h7 h8; exact absurd h8 (h6 h7)
  obtain ⟨d, μ', e, rfl, rfl⟩ := key
  exact e
theorem sfun_all : ∀ (n : Fin 5) (kind : Fin 8) (a b c : Fin 4), a.val < n.val → b.val < n.val → c.val < n.val →
    (0 ≤ sfun kind.val n.val a.val b.val ∧ sfun kind.val n.val a.val b.val < n.val) ∧ sfun kind.val n.val (sfun kind.val n.val a.val b.val) c.val = sfun kind.val n.val a.val (sfun kind.val n.val b.val c.val) := by decide +kernel
theorem toFin {n : Nat} {a : Int} (h0 : 0 ≤ a) (h1 : a < n) : ∃ i : Fin n, a = (i.val : Int) := ⟨⟨a.toNat, by omega⟩, by show a = ((a.toNat : Nat) : Int); omega⟩
theorem sfun_ok {n : Nat} (hn : n ≤ 4) {kind a b : Int} (k0 : 0 ≤ kind) (k1 : kind < 8) (a0 : 0 ≤ a) (a1 : a < n) (b0 : 0 ≤ b) (b1 : b < n) : 0 ≤ sfun kind n a b ∧ sfun kind n a b < n := by
  obtain ⟨k, rfl⟩ := toFin (n := 8) k0 k1
  obtain ⟨i, rfl⟩ := toFin (n := 4) a0 (by omega)
  obtain ⟨j, rfl⟩ := toFin (n := 4) b0 (by omega)
  exact (sfun_all ⟨n, by omega⟩ k i j i (by simpa using a1) (by simpa using b1) (by simpa using a1)).1
theorem sfun_assoc {n : Nat} (hn : n ≤ 4) {kind a b c : Int} (k0 : 0 ≤ kind) (k1 : kind < 8) (a0 : 0 ≤ a) (a1 : a < n) (b0 : 0 ≤ b) (b1 : b < n) (c0 : 0 ≤ c) (c1 : c < n) : sfun kind n (sfun kind n a b) c = sfun kind n a (sfun kind n b c) := by
  obtain ⟨k, rfl⟩ := toFin (n := 8) k0 k1
  obtain ⟨i, rfl⟩ := toFin (n := 4) a0 (by omega)
  obtain ⟨j, rfl⟩ := toFin (n := 4) b0 (by omega)
  obtain ⟨l, rfl⟩ := toFin (n := 4) c0 (by omega)
  exact (sfun_all ⟨n, by omega⟩ k i j l (by simpa using a1) (by simpa using b1) (by simpa using c1)).2
/-- associative as far as it was looked -/
def AssP (n : Nat) (T : List (List Int)) (i j k : Nat) : Prop := ∀ a b c : Nat, a < n → b < n → c < n → (a < i ∨ (a = i ∧ (b < j ∨ (b = j ∧ c < k)))) → at2 T (at2 T a b) c = at2 T a (at2 T b c)
/-- the law's own look at a drawn table -/
theorem associative_spec {n : Nat} {T : List (List Int)} (hT : Grid n T) (hn : n ≤ 1000) (μ : Mu) : ∃ b, m__law_associative [gridD T] μ = some (.ok (.bl b) μ) ∧ (b = true → Tab n T) := by
  have key : Rn (m__law_associative [gridD T] μ) fun d μ' => ∃ b, d = .bl b ∧ μ' = μ ∧ (b = true → Tab n T) := by
    refine Rn.run ?_
    simp [b__law_associative, gridD]
    have hr : rOk (T.length : Int) = true := rOk_of (by omega) (by rw [hT.len]; omega)
    simp [hr]
    refine Sk.seq_loop (fun i ρ' μ' => ∃ (x y z : Option D), ρ' = [some (.lst (T.map rowL)), some (.int T.length), x, y, z] ∧ μ' = μ ∧ AssP n T i 0 0) ⟨none, none, none, rfl, rfl, ?_⟩ ?_ ?_
    · intro a b c _ _ _ h; exfalso; omega
    · rintro i d ρ' μ' hd ⟨x, y, z, rfl, rfl, hP⟩
      obtain ⟨hi, rfl⟩ := rng_get hd
      rw [turn1_name]
      refine Go.of ?_
      simp [hr]
      refine Sk.loop (fun j ρ' μ'' => ∃ (y z : Option D), ρ' = [some (.lst (T.map rowL)), some (.int T.length), some (.int i), y, z] ∧ μ'' = μ' ∧ AssP n T i j 0) ⟨y, z, rfl, rfl, hP⟩ ?_ ?_
      · rintro j d ρ' μ'' hd ⟨y, z, rfl, rfl, hP⟩
        obtain ⟨hj, rfl⟩ := rng_get hd
        rw [turn1_name]
        refine Go.of ?_
        simp [hr]
        refine Sk.loop (fun k ρ' μ' => ∃ (z : Option D), ρ' = [some (.lst (T.map rowL)), some (.int T.length), some (.int i), some (.int j), z] ∧ μ' = μ'' ∧ AssP n T i j k) ⟨z, rfl, rfl, hP⟩ ?_ ?_
        · rintro k d ρ' μ' hd ⟨z, rfl, rfl, hP⟩
          obtain ⟨hk, rfl⟩ := rng_get hd
          rw [turn1_name]
          refine Go.of ?_
          have ln := hT.len
          have hi' : (i : Int) < n := by omega
          have hj' : (j : Int) < n := by omega
          have hk' : (k : Int) < n := by omega
          obtain ⟨r1, e1, e2, p0, p1⟩ := hT.get2 (a := i) (b := j) (by omega) hi' (by omega) hj'
          obtain ⟨r2, e3, e4, q0, q1⟩ := hT.get2 (a := j) (b := k) (by omega) hj' (by omega) hk'
          obtain ⟨r3, e5, e6, _, _⟩ := hT.get2 (a := at2 T i j) (b := k) p0 p1 (by omega) hk'
          obtain ⟨r4, e7, e8, _, _⟩ := hT.get2 (a := i) (b := at2 T j k) (by omega) hi' q0 q1
          have z0 : (0 : Int) ≤ i := by omega
          have z1 : (0 : Int) ≤ j := by omega
          have z2 : (0 : Int) ≤ k := by omega
          have e8' : r1[(at2 T j k).toNat]? = some (at2 T i (at2 T j k)) := by rw [e1] at e7; cases e7; exact e8
          simp [oIx_rowL, atI_L z0 e1, atI_ints z1 e2, atI_L z1 e3, atI_ints z2 e4, atI_L p0 e5, atI_ints z2 e6, atI_ints q0 e8']
          refine Sk.ifs (fun h => ?_) fun h => ?_
          · simp
          · simp at h
            simp
            intro a b c ha hb hc hq
            by_cases hh : a < i ∨ (a = i ∧ (b < j ∨ (b = j ∧ c < k)))
            · exact hP a b c ha hb hc hh
            · obtain rfl : a = i := by omega
              obtain rfl : b = j := by omega
              obtain rfl : c = k := by omega
              exact h
        · rintro ρ' μ' ⟨z, rfl, rfl, hP⟩
          simp
          intro a b c ha hb hc hq
          refine hP a b c ha hb hc ?_
          rw [rngD_length]
          have ln := hT.len
          omega
      · rintro ρ' μ' ⟨y, z, rfl, rfl, hP⟩
        simp
        intro a b c ha hb hc hq
        refine hP a b c ha hb hc ?_
        rw [rngD_length]
        have ln := hT.len
        omega
    · rintro ρ' μ' ⟨x, y, z, rfl, rfl, hP⟩
      simp
      refine ⟨hT, fun a b c a0 a1 b0 b1 c0 c1 => ?_⟩
      have := hP a.toNat b.toNat c.toNat (by omega) (by omega) (by omega) (by
        rw [rngD_length]
        have ln := hT.len
        omega)
      rw [Int.toNat_of_nonneg a0, Int.toNat_of_nonneg b0, Int.toNat_of_nonneg c0] at this
      exact this
  obtain ⟨d, μ', e, b, rfl, rfl, h⟩ := key
  exact ⟨b, e, h⟩

/-! ### the drawn table -/
def iota (n : Nat) : List Int := (List.range n).map fun (i : Nat) => (i : Int)
theorem rng_iota (n : Nat) : rngD 0 n = (iota n).map D.int := by simp [rngD, iota]
theorem iota_len (n : Nat) : (iota n).length = n := by simp [iota]
theorem iota_mem {n : Nat} {x : Int} (h : x ∈ iota n) : 0 ≤ x ∧ x < n := by
  unfold iota at h
  obtain ⟨i, hi, rfl⟩ := List.mem_map.mp h
  have := List.mem_range.mp hi
  omega
theorem iota_nodup (n : Nat) : (iota n).Nodup := by
  unfold iota
  exact List.pairwise_map.mpr (List.nodup_range.imp fun h z => h (by omega))
/-- names of the places: all of 0 .. n - 1, each once -/
def Nm (n : Nat) (names : List Int) : Prop := names.Perm (iota n)
theorem Nm.len {n : Nat} {names : List Int} (h : Nm n names) : names.length = n := by rw [h.length_eq, iota_len]
theorem Nm.get {n : Nat} {names : List Int} (h : Nm n names) {a : Int} (h0 : 0 ≤ a) (h1 : a < n) : ∃ x, names[a.toNat]? = some x ∧ 0 ≤ x ∧ x < n := by
  have hl : a.toNat < names.length := by rw [h.len]; omega
  exact ⟨names[a.toNat], List.getElem?_eq_getElem hl, iota_mem (h.mem_iff.mp (List.getElem_mem hl))⟩
def nmOf (names : List Int) (a : Int) : Int := names.getD a.toNat 0
theorem nmOf_eq {names : List Int} {a x : Int} (h : names[a.toNat]? = some x) : nmOf names a = x := by simp [nmOf, List.getD_eq_getElem?_getD, h]
theorem Nm.inj {n : Nat} {names : List Int} (h : Nm n names) {a b : Int} (a0 : 0 ≤ a) (a1 : a < (n : Int)) (b0 : 0 ≤ b) (b1 : b < (n : Int)) (e : nmOf names a = nmOf names b) : a = b := by
  obtain ⟨x, hx, _⟩ := h.get a0 a1
  obtain ⟨y, hy, _⟩ := h.get b0 b1
  rw [nmOf_eq hx, nmOf_eq hy] at e
  subst e
  have nd : names.Nodup := h.nodup_iff.mpr (iota_nodup n)
  have := nodup_get nd hx hy
  omega
theorem Nm.onto {n : Nat} {names : List Int} (h : Nm n names) {x : Int} (x0 : 0 ≤ x) (x1 : x < n) : ∃ a : Int, 0 ≤ a ∧ a < n ∧ nmOf names a = x := by
  have : x ∈ names := h.mem_iff.mpr (by unfold iota; exact List.mem_map.mpr ⟨x.toNat, List.mem_range.mpr (by omega), by omega⟩)
  obtain ⟨i, hi, e⟩ := List.getElem_of_mem this
  have hl := h.len
  exact ⟨(i : Int), by omega, by omega, nmOf_eq (by rw [show ((i : Int)).toNat = i by omega, List.getElem?_eq_getElem hi, e])⟩
/-- the table of a simple kind under names -/
theorem tab_of_names {n : Nat} {names : List Int} {G : List (List Int)} {kind : Int} (hn : n ≤ 4) (h : Nm n names) (hG : Grid n G) (k0 : 0 ≤ kind) (k1 : kind < 8)
    (e : ∀ a b : Int, 0 ≤ a → a < n → 0 ≤ b → b < n → at2 G (nmOf names a) (nmOf names b) = nmOf names (sfun kind n a b)) : Tab n G := by
  refine ⟨hG, fun x y z x0 x1 y0 y1 z0 z1 => ?_⟩
  obtain ⟨a, a0, a1, rfl⟩ := h.onto x0 x1
  obtain ⟨b, b0, b1, rfl⟩ := h.onto y0 y1
  obtain ⟨c, c0, c1, rfl⟩ := h.onto z0 z1
  obtain ⟨p0, p1⟩ := sfun_ok hn k0 k1 a0 a1 b0 b1
  obtain ⟨q0, q1⟩ := sfun_ok hn k0 k1 b0 b1 c0 c1
  rw [e a b a0 a1 b0 b1, e b c b0 b1 c0 c1, e _ c p0 p1 c0 c1, e a _ a0 a1 q0 q1, sfun_assoc hn k0 k1 a0 a1 b0 b1 c0 c1]
def put2 (G : List (List Int)) (a b v : Int) : List (List Int) := G.set a.toNat ((G.getD a.toNat []).set b.toNat v)
theorem at2_put {n : Nat} {G : List (List Int)} (hG : Grid n G) {a b v : Int} (a0 : 0 ≤ a) (a1 : a < n) (b0 : 0 ≤ b) (b1 : b < n) {x y : Int} (x0 : 0 ≤ x) (x1 : x < n) (y0 : 0 ≤ y) (y1 : y < n) :
    at2 (put2 G a b v) x y = if x = a ∧ y = b then v else at2 G x y := by
  obtain ⟨r, hr, hl, _⟩ := hG.get a0 a1
  have ha : a.toNat < G.length := (List.getElem?_eq_some_iff.mp hr).1
  simp only [at2, put2, List.getD_eq_getElem?_getD, hr, Option.getD_some]
  by_cases hx : x = a
  · subst hx
    rw [List.getElem?_set_self ha]
    simp only [Option.getD_some, hr]
    by_cases hy : y = b
    · subst hy
      rw [List.getElem?_set_self (by omega)]
      simp
    · rw [List.getElem?_set_ne (by omega), if_neg (fun h => hy h.2)]
  · rw [List.getElem?_set_ne (by omega), if_neg (fun h => hx h.1)]
theorem grid_put {n : Nat} {G : List (List Int)} (hG : Grid n G) {a b v : Int} (a0 : 0 ≤ a) (a1 : a < n) (v0 : 0 ≤ v) (v1 : v < n) : Grid n (put2 G a b v) := by
  obtain ⟨r, hr, hl, hx⟩ := hG.get a0 a1
  refine ⟨by simp [put2, hG.len], fun s hs => ?_⟩
  unfold put2 at hs
  rw [List.getD_eq_getElem?_getD, hr, Option.getD_some] at hs
  rcases List.mem_or_eq_of_mem_set hs with hs | hs
  · exact hG.row s hs
  · subst hs
    refine ⟨by simp [hl], fun x h => ?_⟩
    rcases List.mem_or_eq_of_mem_set h with h | h
    · exact hx x h
    · subst h; exact ⟨v0, v1⟩
theorem grid_zero (n : Nat) (hn : 0 < n) : Grid n (List.replicate n (List.replicate n 0)) := by
  refine ⟨by simp, fun r hr => ?_⟩
  have := List.eq_of_mem_replicate hr
  subst this
  refine ⟨by simp, fun x hx => ?_⟩
  have := List.eq_of_mem_replicate hx
  subst this
  omega
theorem tuple_rows {B : M} {rest : Mu} (T : List (List Int)) {ρ : G4.Env} (hl : T.length ≤ 1000) : comps newL (some (.ok (.its (T.map rowL)) (some B :: rest))) (tName 11) eYes (eB oTuple (aCons (eVar 11) aNil)) ρ = newL ((T.map rowL).map fun d => match d with | .lst xs => .tup xs | d => d) (some B :: rest) ∨ ρ.length ≤ 11 := by
  by_cases h : ρ.length ≤ 11
  · exact .inr h
  · refine .inl (comps_map _ fun d hd => ?_)
    obtain ⟨r, _, rfl⟩ := List.mem_map.mp hd
    have : (ρ.set 11 (some (rowL r)))[11]? = some (some (rowL r)) := List.getElem?_set_self (by omega)
    simp only [eB_ap, aCons_ap, eVar_ap, this, cons1_ok, aNil_ap, cons2_ok, bnd_ok]
    rfl

theorem oTuple_rowL (r : List Int) (μ : Mu) : oTuple [rowL r] μ = some (.ok (rowT r) μ) := rfl
@[simp] theorem any1_gridD (T : List (List Int)) (μ : Mu) : any1 (some (.ok (gridD T) μ)) = some (.ok (.its (T.map rowL)) μ) := rfl
def untup : D → D
  | .lst xs => .tup xs
  | d => d
theorem map_untup (T : List (List Int)) : (T.map rowL).map untup = T.map rowT := by rw [List.map_map]; rfl
theorem pure_rowT (r : List Int) : (rowT r).pure = true := by simp [rowT, D.pure]
theorem pure_tabD (T : List (List Int)) : (tabD T).pure = true := by
  simp only [tabD, D.pure]
  rw [pures_iff]
  intro d hd
  obtain ⟨r, _, rfl⟩ := List.mem_map.mp hd
  exact pure_rowT r
def TabQ (n : Nat) (rest : Mu) : D → Mu → Prop := fun d μ' => ∃ T B', Tab n T ∧ BoxOk B' ∧ d = tabD T ∧ μ' = some B' :: rest
def CutI (n : Nat) (rest : Mu) : G4.Env → Mu → Prop := fun ρ μ => ∃ B x7, BoxOk B ∧ ρ = [some (.cell 0), some (.int n), none, none, none, none, none, x7, none, none, none, none] ∧ μ = some B :: rest
def SwI (n : Nat) (kind : Int) (x7 : Option D) (rest : Mu) : Nat → G4.Env → Mu → Prop := fun i ρ' μ' => ∃ (B3 : M) (names : List Int) (x4 x6 x8 x9 : Option D), BoxOk B3 ∧ Nm n names ∧
  ρ' = [some (.cell 0), some (.int n), some (.int kind), some (.cell (rest.length + 1)), x4, none, x6, x7, x8, x9, none, none] ∧ μ' = some B3 :: (rest ++ [some (.lst (names.map D.int))])
def gs (rest : Mu) (names : List Int) (G : List (List Int)) (n : Nat) : Mu := some (.lst (names.map D.int)) :: ((G.map fun r => some (M.lst (r.map D.int))) ++ [some (.lst ((List.range n).map fun j => D.cell (rest.length + 1 + (1 + j))))])
def OkTo (n : Nat) (kind : Int) (names : List Int) (G : List (List Int)) (i j : Nat) : Prop := ∀ a b : Nat, a < n → b < n → (a < i ∨ (a = i ∧ b < j)) → at2 G (nmOf names a) (nmOf names b) = nmOf names (sfun kind n a b)
def DbI (n : Nat) (kind : Int) (B3 : M) (names : List Int) (x : List (Option D)) (rest : Mu) : Nat → G4.Env → Mu → Prop := fun i ρ' μ' => ∃ (G : List (List Int)) (x6 x10 : Option D), Grid n G ∧ OkTo n kind names G i 0 ∧
  ρ' = some (.cell 0) :: some (.int n) :: some (.int kind) :: some (.cell (rest.length + 1)) :: x.getD 0 none :: some (.cell (rest.length + 1 + (1 + n))) :: x6 :: x.getD 1 none :: x.getD 2 none :: x.getD 3 none :: x10 :: [none] ∧ μ' = some B3 :: (rest ++ gs rest names G n)
def Db2 (n : Nat) (kind : Int) (B3 : M) (names : List Int) (x : List (Option D)) (rest : Mu) (i : Nat) : Nat → G4.Env → Mu → Prop := fun j ρ' μ' => ∃ (G : List (List Int)) (x10 : Option D), Grid n G ∧ OkTo n kind names G i j ∧
  ρ' = some (.cell 0) :: some (.int n) :: some (.int kind) :: some (.cell (rest.length + 1)) :: x.getD 0 none :: some (.cell (rest.length + 1 + (1 + n))) :: some (.int i) :: x.getD 1 none :: x.getD 2 none :: x.getD 3 none :: x10 :: [none] ∧ μ' = some B3 :: (rest ++ gs rest names G n)
theorem gs_outer (B : M) (rest : Mu) (names : List Int) {G : List (List Int)} {n : Nat} (h : G.length = n) : (some B :: (rest ++ gs rest names G n))[rest.length + 1 + (1 + n)]? = some (some (.lst ((List.range n).map fun j => D.cell (rest.length + 1 + (1 + j))))) := by
  rw [st_get, gs, Nat.add_comm 1 n, List.getElem?_cons_succ, List.getElem?_append_right (by rw [List.length_map]; omega)]
  simp [h]
theorem gs_names (B : M) (rest : Mu) (names : List Int) (G : List (List Int)) (n : Nat) : (some B :: (rest ++ gs rest names G n))[rest.length + 1]? = some (some (.lst (names.map D.int))) := st_get (B := B) (rest := rest) (gs rest names G n) 0
theorem gs_row (B : M) (rest : Mu) (names : List Int) {G : List (List Int)} (n : Nat) {j : Nat} {r : List Int} (h : G[j]? = some r) : (some B :: (rest ++ gs rest names G n))[rest.length + 1 + (1 + j)]? = some (some (.lst (r.map D.int))) := by
  have hj := (List.getElem?_eq_some_iff.mp h).1
  rw [st_get, gs, Nat.add_comm 1 j, List.getElem?_cons_succ, List.getElem?_append_left (by rw [List.length_map]; omega), List.getElem?_map, h]
  rfl
theorem gs_put (B : M) (rest : Mu) (names : List Int) {G : List (List Int)} (n : Nat) {a b v : Int} {r : List Int} (h : G[a.toNat]? = some r) :
    (some B :: (rest ++ gs rest names G n)).set (rest.length + 1 + (1 + a.toNat)) (some (.lst ((r.map D.int).set b.toNat (.int v)))) = some B :: (rest ++ gs rest names (put2 G a b v) n) := by
  have hj := (List.getElem?_eq_some_iff.mp h).1
  rw [st_set, gs, Nat.add_comm 1 a.toNat, List.set_cons_succ, List.set_append_left _ _ (by rw [List.length_map]; omega)]
  simp only [gs, put2, List.map_set, List.getD_eq_getElem?_getD, h, Option.getD_some]
theorem atI_cells {n : Nat} (base : Nat) {a : Int} (h0 : 0 ≤ a) (h1 : a < n) : atI ((List.range n).map fun j => D.cell (base + (1 + j))) a = some (.cell (base + (1 + a.toNat))) :=
  atI_ok h0 (by rw [List.getElem?_map, List.getElem?_range (by omega)]; rfl)
theorem drawn_rows {B : M} (hB : BoxOk B) (rest : Mu) {mk : List D → Mu → Ro D} {ρ : G4.Env} {n : Nat} (hn0 : 0 < n) (hn : n ≤ 1000) (h0 : ∀ d e, ((wipeE (ρ.set 6 (some d)) [10]).set 10 (some e))[0]? = some (some (.cell 0))) (h1 : ∀ d e, ((wipeE (ρ.set 6 (some d)) [10]).set 10 (some e))[1]? = some (some (.int n))) (h2 : ∀ d, (ρ.set 6 (some d))[1]? = some (some (.int n))) :
    ∃ (T : List (List Int)) (B' : M), Grid n T ∧ BoxOk B' ∧
      comps mk (some (.ok (.its (rngD 0 n)) (some B :: rest))) (tName 6) eYes (eComp (iRg1 (aCons (eVar 1) aNil)) (tName 10) eYes (eCall m__law_next (aCons (eVar 0) (aCons (eVar 1) aNil))) [10]) ρ = mk (T.map rowL) (some B' :: rest) := by
  obtain ⟨ys, μ', e, B', T, rfl, rfl, hl, hr, hB'⟩ := comps_rule1 (mk := mk) (ρ := ρ) (k := 6) (te := eComp (iRg1 (aCons (eVar 1) aNil)) (tName 10) eYes (eCall m__law_next (aCons (eVar 0) (aCons (eVar 1) aNil))) [10]) (ds := rngD 0 n) (μ := some B :: rest)
    (fun i μ' acc => ∃ (B' : M) (T : List (List Int)), μ' = some B' :: rest ∧ acc = T.map rowL ∧ T.length = i ∧ (∀ r ∈ T, r.length = n ∧ ∀ x ∈ r, 0 ≤ x ∧ x < (n : Int)) ∧ BoxOk B') ⟨B, [], rfl, rfl, rfl, by simp, hB⟩ (by
      rintro i d μ' acc hd ⟨B', T, rfl, rfl, hl, hr, hB'⟩
      obtain ⟨xs, B2, xl, xr, hB2, e⟩ := comps_draw hB' rest (mk := newL) (ρ := wipeE (ρ.set 6 (some d)) [10]) (k := 10) (bi := 0) (fe := eVar 1) (m := n) (by omega) n (h0 d) (fun d' μ => by rw [eVar_ap, h1 d d'])
      refine ⟨rowL xs, some B2 :: rest, ?_, B2, T ++ [xs], rfl, by simp, by simp [hl], ?_, hB2⟩
      · have hk : rOk (n : Int) = true := rOk_of (by omega) (by omega)
        rw [eComp_ap, iRg1_ap, aCons_ap, eVar_ap, h2 d]
        simp only [cons1_ok, aNil_ap, cons2_ok, bnd_ok, rng1_ok hk, Int.toNat_natCast]
        rw [e, newL_ok (by rw [List.length_map]; omega)]
        rfl
      · intro r hr'
        rcases List.mem_append.mp hr' with h | h
        · exact hr r h
        · have : r = xs := by simpa using h
          subst this; exact ⟨xl, xr⟩)
  exact ⟨T, B', ⟨by rw [hl, rngD_length], hr⟩, hB', e⟩
theorem tuple_rows1 {ρ : G4.Env} {μ : Mu} (T : List (List Int)) (hl : T.length ≤ 1000) (h : ∀ d, (ρ.set 11 (some d))[11]? = some (some d)) : comps newL (some (.ok (.its (T.map rowL)) μ)) (tName 11) eYes (eB oTuple (aCons (eVar 11) aNil)) ρ = some (.ok (.lst (T.map rowT)) μ) := by
  rw [comps_map (f := untup), map_untup, newL_ok (by rw [List.length_map]; omega)]
  intro d hd
  obtain ⟨r, _, rfl⟩ := List.mem_map.mp hd
  rw [eB_ap, aCons_ap, eVar_ap, h]
  rfl
theorem zero_rows {B : M} {rest : Mu} {names : List Int} {mk : List D → Mu → Ro D} {ρ : G4.Env} {n : Nat} (hn : n ≤ 1000) (h2 : ∀ d, (ρ.set 6 (some d))[1]? = some (some (.int n))) :
    comps mk (some (.ok (.its (rngD 0 n)) (some B :: (rest ++ [some (.lst (names.map D.int))])))) (tName 6) eYes (eCompC (iRg1 (aCons (eVar 1) aNil)) (tName 10) eYes (eC (.int 0)) [10]) ρ =
      mk ((List.range n).map fun j => D.cell (rest.length + 1 + (1 + j))) (some B :: (rest ++ some (.lst (names.map D.int)) :: List.replicate n (some (.lst ((List.replicate n 0).map D.int))))) := by
  obtain ⟨ys, μ', e, rfl, rfl⟩ := comps_rule1 (mk := mk) (ρ := ρ) (k := 6) (te := eCompC (iRg1 (aCons (eVar 1) aNil)) (tName 10) eYes (eC (.int 0)) [10]) (ds := rngD 0 n) (μ := some B :: (rest ++ [some (.lst (names.map D.int))]))
    (fun i μ' acc => μ' = some B :: (rest ++ some (.lst (names.map D.int)) :: List.replicate i (some (.lst ((List.replicate n 0).map D.int)))) ∧ acc = (List.range i).map fun j => D.cell (rest.length + 1 + (1 + j))) ⟨rfl, rfl⟩ (by
      rintro i d μ' acc hd ⟨rfl, rfl⟩
      have hk : rOk (n : Int) = true := rOk_of (by omega) (by omega)
      refine ⟨.cell (rest.length + 1 + (1 + i)), _, ?_, rfl, by rw [List.range_succ, List.map_append]; rfl⟩
      rw [eCompC_ap, iRg1_ap, aCons_ap, eVar_ap, h2 d]
      simp only [cons1_ok, aNil_ap, cons2_ok, bnd_ok, rng1_ok hk, Int.toNat_natCast]
      rw [comps_map (f := fun _ => D.int 0) (fun d hd => rfl), List.map_const', rngD_length, newC_ok (by rw [List.length_replicate]; omega)]
      have hlen : (some B :: (rest ++ some (M.lst (names.map D.int)) :: List.replicate i (some (M.lst ((List.replicate n 0).map D.int))))).length = rest.length + 1 + (1 + i) := by simp; omega
      rw [hlen]
      simp only [List.map_replicate, List.cons_append, List.append_assoc, List.replicate_succ'])
  rw [rngD_length] at e
  exact e
def cellT (μ : Mu) : D → D
  | .cell k => (match μ[k]? with
    | some (some (.lst xs)) => .tup xs
    | _ => .non)
  | d => d
theorem cells_rows (B : M) (rest : Mu) (names : List Int) {G : List (List Int)} {n : Nat} (hG : Grid n G) : ((List.range n).map fun j => D.cell (rest.length + 1 + (1 + j))).map (cellT (some B :: (rest ++ gs rest names G n))) = G.map rowT := by
  apply List.ext_getElem?
  intro j
  rw [List.map_map, List.getElem?_map, List.getElem?_map]
  by_cases h : j < n
  · have hjl : j < G.length := by rw [hG.len]; exact h
    have hj : G[j]? = some G[j] := List.getElem?_eq_getElem hjl
    rw [List.getElem?_range h, hj]
    simp only [Option.map_some, Function.comp, cellT, gs_row B rest names n hj]
    rfl
  · rw [List.getElem?_eq_none (by rw [List.length_range]; omega), List.getElem?_eq_none (by rw [hG.len]; omega)]
    rfl
theorem tuple_cells (B : M) (rest : Mu) (names : List Int) {ρ : G4.Env} {G : List (List Int)} {n : Nat} (hG : Grid n G) (hn : n ≤ 1000) (h : ∀ d, (ρ.set 11 (some d))[11]? = some (some d)) :
    comps newL (some (.ok (.cel (rest.length + 1 + (1 + n))) (some B :: (rest ++ gs rest names G n)))) (tName 11) eYes (eB oTuple (aCons (eVar 11) aNil)) ρ = some (.ok (.lst (G.map rowT)) (some B :: (rest ++ gs rest names G n))) := by
  rw [comps_cel_map (cellT (some B :: (rest ++ gs rest names G n))) (gs_outer B rest names hG.len), cells_rows B rest names hG, newL_ok (by rw [List.length_map, hG.len]; omega)]
  intro d hd
  obtain ⟨j, hj, rfl⟩ := List.mem_map.mp hd
  have hj := List.mem_range.mp hj
  have hjl : j < G.length := by rw [hG.len]; exact hj
  have hr : G[j]? = some G[j] := List.getElem?_eq_getElem hjl
  have g := gs_row B rest names n hr
  rw [eB_ap, aCons_ap, eVar_ap, h]
  simp only [cons1_ok, aNil_ap, cons2_ok, bnd_ok]
  rw [oTuple_cell g]
  simp only [cellT, g]
theorem table_spec {B : M} (hB : BoxOk B) (rest : Mu) {n : Nat} (hn0 : 0 < n) (hn : n ≤ 4) :
    ∃ T B', Tab n T ∧ BoxOk B' ∧ m__law_table [.cell 0, .int n] (some B :: rest) = some (.ok (tabD T) (some B' :: rest)) := by
  have key : Rn (m__law_table [.cell 0, .int n] (some B :: rest)) (TabQ n rest) := by
    refine Rn.run ?_
    have hr : rOk (n : Int) = true := rOk_of (by omega) (by omega)
    have hr1 : rOk ((n : Int) - 1) = true := rOk_of (by omega) (by omega)
    obtain ⟨r0, B1, _, _, hB1, e0⟩ := next_spec hB rest (m := 3) (by decide)
    simp [b__law_table, call1_ok e0]
    refine Sk.cut (CutI n rest) ?_ ?_
    · refine Sk.ifs (fun h => ?_) fun h => ?_
      · simp [hr]
        obtain ⟨T, B2, hG, hB2, e1⟩ := drawn_rows hB1 rest (mk := newL) (ρ := [some (.cell 0), some (.int n), none, none, none, none, none, none, none, none, none, none]) hn0 (by omega) (fun _ _ => rfl) (fun _ _ => rfl) (fun _ => rfl)
        rw [e1, newL_ok (by rw [List.length_map, hG.len]; omega)]
        obtain ⟨b, e2, hb⟩ := associative_spec hG (by omega) (some B2 :: rest)
        have e2' : m__law_associative [.lst (T.map rowL)] (some B2 :: rest) = some (.ok (.bl b) (some B2 :: rest)) := e2
        simp [call1_ok e2']
        refine Sk.ifs (fun h => ?_) fun h => ?_
        · simp
          rw [tuple_rows1 T (by rw [hG.len]; omega) (fun _ => rfl)]
          simp
          have hp : (D.tup (T.map rowT)).pure = true := pure_tabD T
          rw [leave_pure hp]
          simp
          exact ⟨T, B2, hb h, hB2, rfl, rfl⟩
        · simp
          exact ⟨B2, _, hB2, rfl, rfl⟩
      · simp
        exact ⟨B1, none, hB1, rfl, rfl⟩
    rintro ρ μ ⟨B, x7, hB, rfl, rfl⟩
    obtain ⟨kind, B2, k0, k1, hB2, e1⟩ := next_spec hB rest (m := 8) (by decide)
    simp [call1_ok e1, hr]
    rw [comps_map (f := id) (by
      intro d hd
      simp), List.map_id, rng_iota, newC_ok (by simp [iota_len]; omega)]
    simp [hr1]
    refine Sk.seq_loop (SwI n kind x7 rest)
      ⟨B2, iota n, none, none, none, none, hB2, List.Perm.refl _, rfl, rfl⟩ ?_ ?_
    · rintro i d ρ' μ' hd ⟨B3, names, x4, x6, x8, x9, hB3, hN, rfl, rfl⟩
      obtain ⟨hi, rfl⟩ := rng_get hd
      rw [turn1_name]
      refine Go.of ?_
      have hin : (i : Int) < n - 1 := by omega
      obtain ⟨r, B4, r0, r1, hB4, e2⟩ := next_spec hB3 (rest ++ [some (.lst (names.map D.int))]) (m := (n : Int) - i) (by omega)
      have g0 : ∀ zs, (some B4 :: (rest ++ [some (M.lst zs)]))[rest.length + 1]? = some (some (.lst zs)) := fun zs => st_get (B := B4) (rest := rest) [some (M.lst zs)] 0
      have z0 : (0 : Int) ≤ i := by omega
      obtain ⟨x, hx, _, _⟩ := hN.get z0 (by omega)
      have z1 : (0 : Int) ≤ (i : Int) + r := by omega
      obtain ⟨y, hy, _, _⟩ := hN.get z1 (by omega)
      have hl : names.length = n := hN.len
      simp [call1_ok e2, oIx_cell (g0 _), atI_ints z0 hx, atI_ints z1 hy]
      rw [tSub_ok (k := rest.length + 1) (j := i) (i := (i : Int)) (xs := names.map D.int) (μ1 := some B4 :: (rest ++ [some (.lst (names.map D.int))])) (μ2 := some B4 :: (rest ++ [some (.lst (names.map D.int))])) (by simp) (by simp) (g0 _) z0 (by simp) (by rw [List.length_map]; omega) (by simp)]
      have s0 : ∀ zs m, (some B4 :: (rest ++ [some (M.lst zs)])).set (rest.length + 1) m = some B4 :: (rest ++ [m]) := fun zs m => st_set (B := B4) (rest := rest) [some (M.lst zs)] 0 m
      rw [s0]
      simp only [tg_ok, seqs_nx, sAsg_ap, eVar_ap, List.getElem?_cons_succ, List.getElem?_cons_zero, asgs_ok]
      rw [tSub_ok (k := rest.length + 1) (j := ((i : Int) + r).toNat) (i := (i : Int) + r) (xs := (names.map D.int).set i (.int y)) (μ1 := some B4 :: (rest ++ [some (.lst ((names.map D.int).set i (.int y)))])) (μ2 := some B4 :: (rest ++ [some (.lst ((names.map D.int).set i (.int y)))])) (by simp) (by simp) (g0 _) z1 rfl (by rw [List.length_set, List.length_map]; omega) (by simp)]
      rw [s0]
      simp only [tg_ok, Sk_ok, Go_nx]
      refine ⟨B4, (names.set i y).set ((i : Int) + r).toNat x, _, _, _, _, hB4, ?_, rfl, by simp [List.map_set]⟩
      have hxe := List.getElem?_eq_some_iff.mp hx
      have hye := List.getElem?_eq_some_iff.mp hy
      obtain ⟨hx1, hx2⟩ := hxe
      obtain ⟨hy1, hy2⟩ := hye
      have := List.set_set_perm (as := names) (i := (i : Int).toNat) (j := ((i : Int) + r).toNat) hx1 hy1
      rw [hx2, hy2] at this
      simp only [Int.toNat_natCast] at this
      exact this.trans hN
    · rintro ρ' μ' ⟨B3, names, x4, x6, x8, x9, hB3, hN, rfl, rfl⟩
      have hl : names.length = n := hN.len
      -- the rows
      simp [hr]
      rw [zero_rows (by omega) (fun _ => rfl), newC_ok (by rw [List.length_map, List.length_range]; omega)]
      have hlen : (some B3 :: (rest ++ some (M.lst (names.map D.int)) :: List.replicate n (some (M.lst ((List.replicate n 0).map D.int))))).length = rest.length + 1 + (1 + n) := by simp; omega
      rw [hlen]
      simp [hr]
      refine Sk.seq_loop (DbI n kind B3 names [x4, x7, x8, x9] rest) ⟨List.replicate n (List.replicate n 0), x6, none, grid_zero n hn0, ?_, rfl, ?_⟩ ?_ ?_
      · intro a b _ _ h; exfalso; omega
      · simp [gs]
      · rintro i d ρ' μ' hd ⟨G, y6, y10, hG, hO, rfl, rfl⟩
        obtain ⟨hi, rfl⟩ := rng_get hd
        rw [turn1_name]
        refine Go.of ?_
        simp [hr]
        refine Sk.loop (Db2 n kind B3 names [x4, x7, x8, x9] rest i) ⟨G, y10, hG, hO, rfl, rfl⟩ ?_ ?_
        · rintro j d ρ' μ' hd ⟨G, z10, hG, hO, rfl, rfl⟩
          obtain ⟨hj, rfl⟩ := rng_get hd
          rw [turn1_name]
          refine Go.of ?_
          have hi' : (i : Int) < n := by omega
          have hj' : (j : Int) < n := by omega
          have z0 : (0 : Int) ≤ i := by omega
          have z1 : (0 : Int) ≤ j := by omega
          obtain ⟨x, hx, x0, x1⟩ := hN.get z0 hi'
          obtain ⟨y, hy, y0, y1⟩ := hN.get z1 hj'
          obtain ⟨s0, s1⟩ := sfun_ok hn k0 k1 z0 hi' z1 hj'
          obtain ⟨v, hv, v0, v1⟩ := hN.get s0 s1
          obtain ⟨r, hr', rl, _⟩ := hG.get x0 x1
          have gn := gs_names B3 rest names G n
          have go := gs_outer B3 rest names hG.len
          have gr := gs_row B3 rest names n hr'
          have sp := simple_spec (kind := kind) (n := n) (a := i) (b := j) (by omega) ⟨z0, by omega⟩ (some B3 :: (rest ++ gs rest names G n))
          simp [call1_ok sp, oIx_cell gn, atI_ints s0 hv]
          rw [tSub_ok (k := rest.length + 1 + (1 + x.toNat)) (j := y.toNat) (i := y) (xs := r.map D.int) (μ1 := some B3 :: (rest ++ gs rest names G n)) (μ2 := some B3 :: (rest ++ gs rest names G n))
            (by simp [oIx_cell gn, oIx_cell go, atI_ints z0 hx, atI_cells (rest.length + 1) x0 x1]) (by simp [oIx_cell gn, atI_ints z1 hy]) gr y0 rfl (by rw [List.length_map]; omega) (by simp [D.pure]), gs_put B3 rest names n hr']
          simp only [tg_ok, Sk_ok, Go_nx]
          refine ⟨put2 G x y v, _, grid_put hG x0 x1 v0 v1, ?_, rfl, rfl⟩
          intro a b ha hb h
          have a0 : (0 : Int) ≤ a := by omega
          have b0 : (0 : Int) ≤ b := by omega
          obtain ⟨p, hp, p0, p1⟩ := hN.get a0 (by omega)
          obtain ⟨q, hq, q0, q1⟩ := hN.get b0 (by omega)
          rw [at2_put hG x0 x1 y0 y1 (by rw [nmOf_eq hp]; exact p0) (by rw [nmOf_eq hp]; exact p1) (by rw [nmOf_eq hq]; exact q0) (by rw [nmOf_eq hq]; exact q1)]
          by_cases e : a = i ∧ b = j
          · obtain ⟨rfl, rfl⟩ := e
            rw [if_pos ⟨nmOf_eq hx, nmOf_eq hy⟩, nmOf_eq hv]
          · rw [if_neg]
            · exact hO a b ha hb (by omega)
            · rintro ⟨e1, e2⟩
              refine e ⟨?_, ?_⟩
              · have := hN.inj a0 (by omega) z0 hi' (by rw [e1, nmOf_eq hx]); omega
              · have := hN.inj b0 (by omega) z1 hj' (by rw [e2, nmOf_eq hy]); omega
        · rintro ρ' μ' ⟨G, z10, hG, hO, rfl, rfl⟩
          rw [Go_nx]
          refine ⟨G, _, _, hG, ?_, rfl, rfl⟩
          intro a b ha hb h
          refine hO a b ha hb ?_
          rw [rngD_length]
          omega
      · rintro ρ' μ' ⟨G, y6, y10, hG, hO, rfl, rfl⟩
        simp [any1_cell (gs_outer B3 rest names hG.len)]
        rw [tuple_cells B3 rest names hG (by omega) (fun _ => rfl)]
        have hp : (D.tup (G.map rowT)).pure = true := pure_tabD G
        simp
        rw [leave_pure hp]
        simp
        refine ⟨G, B3, tab_of_names hn hN hG k0 k1 ?_, hB3, rfl, rfl⟩
        intro a b a0 a1 b0 b1
        have := hO a.toNat b.toNat (by omega) (by omega) (by rw [rngD_length]; omega)
        rw [Int.toNat_of_nonneg a0, Int.toNat_of_nonneg b0] at this
        exact this
  obtain ⟨d, μ', e, T, B', hT, hB', rfl, rfl⟩ := key
  exact ⟨T, B', hT, hB', e⟩

/-! Q0: data of the laws. -/
structure Sgr (n : Nat) (T : List (List Int)) (ls : List Int) : Prop where
  tab : Tab n T
  n0 : 0 < n
  n4 : n ≤ 4
  l0 : 0 < ls.length
  l3 : ls.length ≤ 3
  rng : ∀ x ∈ ls, 0 ≤ x ∧ x < (n : Int)
def intsT (ls : List Int) : D := .tup (ls.map D.int)
def intsL (ls : List Int) : D := .lst (ls.map D.int)
def sgD (T : List (List Int)) (ls : List Int) : D := .tup [tabD T, intsT ls]
theorem pure_intsT (ls : List Int) : (intsT ls).pure = true := by simp [intsT, D.pure]
theorem pure_intsL (ls : List Int) : (intsL ls).pure = true := by simp [intsL, D.pure]
theorem pure_sgD (T : List (List Int)) (ls : List Int) : (sgD T ls).pure = true := by
  simp only [sgD, D.pure, pures, pure_tabD, pure_intsT]; rfl
theorem two_0 (a b : D) : atI [a, b] 0 = some a := atI_ok (by decide) rfl
theorem two_1 (a b : D) : atI [a, b] 1 = some b := atI_ok (by decide) rfl
theorem ix_0 (a : D) (l : List D) : atI (a :: l) 0 = some a := atI_ok (by decide) rfl
theorem ix_1 (a b : D) (l : List D) : atI (a :: b :: l) 1 = some b := atI_ok (by decide) rfl
theorem ix_2 (a b c : D) (l : List D) : atI (a :: b :: c :: l) 2 = some c := atI_ok (by decide) rfl

def SgQ (most : Nat) (rest : Mu) : D → Mu → Prop := fun d μ' => ∃ n T ls B', Sgr n T ls ∧ n ≤ most ∧ BoxOk B' ∧ d = sgD T ls ∧ μ' = some B' :: rest
theorem semigroup_spec {B : M} (hB : BoxOk B) (rest : Mu) {most : Nat} (m0 : 0 < most) (m4 : most ≤ 4) :
    ∃ n T ls B', Sgr n T ls ∧ n ≤ most ∧ BoxOk B' ∧ m__law_semigroup [.cell 0, .int most] (some B :: rest) = some (.ok (sgD T ls) (some B' :: rest)) := by
  have key : Rn (m__law_semigroup [.cell 0, .int most] (some B :: rest)) (SgQ most rest) := by
    refine Rn.run ?_
    obtain ⟨r0, B1, p0, p1, hB1, e0⟩ := next_spec hB rest (m := (most : Int)) (by omega)
    obtain ⟨n, hn⟩ : ∃ n : Nat, 1 + r0 = (n : Int) := ⟨(1 + r0).toNat, by omega⟩
    have n0 : 0 < n := by omega
    have n4 : n ≤ 4 := by omega
    obtain ⟨T, B2, hT, hB2, e1⟩ := table_spec hB1 rest n0 n4
    obtain ⟨r2, B3, q0, q1, hB3, e2⟩ := next_spec hB2 rest (m := 3) (by decide)
    obtain ⟨c, hc⟩ : ∃ c : Nat, 1 + r2 = (c : Int) := ⟨(1 + r2).toNat, by omega⟩
    simp only [b__law_semigroup]
    simp [call1_ok e0, hn]
    simp [call1_ok e1]
    simp [call1_ok e2, hc]
    have hk : rOk (c : Int) = true := rOk_of (by omega) (by omega)
    rw [rng1_ok hk, Int.toNat_natCast]
    obtain ⟨ls, B4, hl, hr, hB4, e3⟩ := comps_draw hB3 rest (mk := newL) (ρ := [some (.cell 0), some (.int most), some (.int n), some (tabD T), none, none]) (k := 5) (bi := 0) (fe := eVar 2) (m := (n : Int)) (by omega) c (fun _ => rfl) (fun _ _ => rfl)
    rw [e3, newL_ok (by rw [List.length_map]; omega)]
    simp
    have hp : (D.tup [tabD T, .tup (ls.map D.int)]).pure = true := pure_sgD T ls
    rw [leave_pure hp]
    simp
    exact ⟨n, T, ls, B4, ⟨hT, n0, n4, by omega, by omega, hr⟩, by omega, hB4, rfl, rfl⟩
  obtain ⟨d, μ', e, n, T, ls, B', h1, h2, h3, rfl, rfl⟩ := key
  exact ⟨n, T, ls, B', h1, h2, h3, e⟩

/-! Q4a -/
def InS (n : Nat) (A : List Int) : Prop := A.length ≤ n ∧ ∀ x ∈ A, 0 ≤ x ∧ x < (n : Int)

def SsQ (n : Nat) (rest : Mu) : D → Mu → Prop := fun d μ' => ∃ A B', (InS n A ∧ A.Pairwise (· < ·)) ∧ BoxOk B' ∧ d = intsT A ∧ μ' = some B' :: rest
theorem subset_spec {B : M} (hB : BoxOk B) (rest : Mu) {n : Nat} (hn : n ≤ 1000) : ∃ A B', (InS n A ∧ A.Pairwise (· < ·)) ∧ BoxOk B' ∧ m__law_subset [.cell 0, .int n] (some B :: rest) = some (.ok (intsT A) (some B' :: rest)) := by
  have key : Rn (m__law_subset [.cell 0, .int n] (some B :: rest)) (SsQ n rest) := by
    refine Rn.run ?_
    have hr : rOk (n : Int) = true := rOk_of (by omega) (by omega)
    simp [b__law_subset, hr]
    obtain ⟨ys, μ', e, B', A, rfl, rfl, hl, hA, hB'⟩ := comps_rule (mk := newL) (tg := tName 2) (tt := eTest (eOp oEq (eCall m__law_next (aCons (eVar 0) (aCons (eC (.int 2)) aNil))) (eC (.int 1)))) (te := eVar 2) (ρ := [some (.cell 0), some (.int n), none]) (ds := rngD 0 n) (μ := some B :: rest)
      (fun i μ' acc => ∃ (B' : M) (A : List Int), μ' = some B' :: rest ∧ acc = A.map D.int ∧ A.length ≤ i ∧ ((∀ x ∈ A, 0 ≤ x ∧ x < (n : Int)) ∧ A.Pairwise (· < ·) ∧ ∀ x ∈ A, x < (i : Int)) ∧ BoxOk B') ⟨B, [], rfl, rfl, Nat.le_refl _, ⟨by simp, List.Pairwise.nil, by simp⟩, hB⟩ (by
        rintro i d μ' acc hd ⟨B', A, rfl, rfl, hl, hA, hB'⟩
        obtain ⟨hi, rfl⟩ := rng_get hd
        obtain ⟨r, B2, h0, h1, hB2, e⟩ := next_spec hB' rest (m := 2) (by decide)
        refine ⟨_, _, (r == 1), _, rfl, by simp [call1_ok e], fun _ => ?_, fun _ => ⟨B2, A, rfl, rfl, by omega, ⟨hA.1, hA.2.1, fun x hx => by have := hA.2.2 x hx; omega⟩, hB2⟩⟩
        refine ⟨.int (0 + (i : Int)), _, by simp, B2, A ++ [0 + (i : Int)], rfl, by simp, by simp; omega, ⟨?_, ?_, ?_⟩, hB2⟩
        · intro x hx
          rcases List.mem_append.mp hx with hx | hx
          · exact hA.1 x hx
          · have : x = 0 + (i : Int) := by simpa using hx
            subst this
            omega
        · refine List.pairwise_append.mpr ⟨hA.2.1, by simp, fun a ha b hb => ?_⟩
          have hb : b = 0 + (i : Int) := by simpa using hb
          have := hA.2.2 a ha
          omega
        · intro x hx
          rcases List.mem_append.mp hx with hx | hx
          · have := hA.2.2 x hx
            omega
          · have : x = 0 + (i : Int) := by simpa using hx
            omega)
    rw [rngD_length] at hl
    rw [e, newL_ok (by rw [List.length_map]; omega)]
    simp
    have hp : (D.tup (A.map D.int)).pure = true := pure_intsT A
    rw [leave_pure hp]
    simp
    exact ⟨A, B', ⟨⟨hl, hA.1⟩, hA.2.1⟩, hB', rfl, rfl⟩
  obtain ⟨d, μ', e, A, B', h1, h2, rfl, rfl⟩ := key
  exact ⟨A, B', h1, h2, e⟩

/-! Q3a (the first part of Q3): the law's own value of a word -/
def ltr (ls : List Int) (x : Int) : Int := ls.getD x.toNat 0
def valS (T : List (List Int)) (ls : List Int) : Option Int → Int → Option Int
  | none, x => some (ltr ls x)
  | some a, x => some (at2 T a (ltr ls x))
def valW (T : List (List Int)) (ls : List Int) (w : List Int) : Option Int := w.foldl (valS T ls) none
def oD : Option Int → D
  | none => .non
  | some i => .int i
theorem Sgr.ltr {n : Nat} {T : List (List Int)} {ls : List Int} (h : Sgr n T ls) {x : Int} (x0 : 0 ≤ x) (x1 : x < ls.length) : ls[x.toNat]? = some (Law.ltr ls x) ∧ 0 ≤ Law.ltr ls x ∧ Law.ltr ls x < n := by
  have hl : x.toNat < ls.length := by omega
  have e : Law.ltr ls x = ls[x.toNat] := by simp [Law.ltr, List.getD_eq_getElem?_getD, List.getElem?_eq_getElem hl]
  rw [e]
  exact ⟨List.getElem?_eq_getElem hl, h.rng _ (List.getElem_mem hl)⟩
def InR (n : Nat) : Option Int → Prop
  | none => True
  | some a => 0 ≤ a ∧ a < (n : Int)
theorem Sgr.step {n : Nat} {T : List (List Int)} {ls : List Int} (h : Sgr n T ls) {v : Option Int} (hv : InR n v) {x : Int} (x0 : 0 ≤ x) (x1 : x < ls.length) : InR n (valS T ls v x) := by
  obtain ⟨_, a, b⟩ := h.ltr x0 x1
  cases v with
  | none => exact ⟨a, b⟩
  | some c =>
    obtain ⟨r, _, _, p, q⟩ := h.tab.toGrid.get2 hv.1 hv.2 a b
    exact ⟨p, q⟩
theorem valW_step {T : List (List Int)} {ls w : List Int} {i : Nat} {x : Int} (h : w[i]? = some x) : valW T ls (w.take (i + 1)) = valS T ls (valW T ls (w.take i)) x := by
  rw [List.take_add_one, h]
  simp [valW, List.foldl_append]
theorem leave_oD (n : Nat) (v : Option Int) (μ : Mu) : leave n (oD v) μ = some (.ok (oD v) (μ.take n)) := by cases v <;> rfl
def ValQ (T : List (List Int)) (ls w : List Int) (μ : Mu) : D → Mu → Prop := fun d μ' => d = oD (valW T ls w) ∧ μ' = μ
def VlI (T : List (List Int)) (ls w : List Int) (n : Nat) (μ : Mu) : Nat → G4.Env → Mu → Prop := fun i ρ' μ' => ∃ y z, ρ' = [some (sgD T ls), some (intsL w), some (oD (valW T ls (w.take i))), y, z] ∧ μ' = μ ∧ InR n (valW T ls (w.take i))
theorem eNon_non {μ : Mu} : oIsN .non .non μ = some (.ok (.bl true) μ) := rfl
theorem law_value_spec {n : Nat} {T : List (List Int)} {ls : List Int} (h : Sgr n T ls) {w : List Int} (hw : ∀ x ∈ w, 0 ≤ x ∧ x < (ls.length : Int)) (μ : Mu) : m__law_value [sgD T ls, intsL w] μ = some (.ok (oD (valW T ls w)) μ) := by
  have key : Rn (m__law_value [sgD T ls, intsL w] μ) (ValQ T ls w μ) := by
    refine Rn.run ?_
    simp [b__law_value, intsL]
    refine Sk.seq_loop (VlI T ls w n μ) ⟨none, none, rfl, rfl, trivial⟩ ?_ ?_
    · rintro i d ρ' μ' hd ⟨y, z, rfl, rfl, hv⟩
      rw [turn1_name]
      refine Go.of ?_
      rw [List.getElem?_map] at hd
      cases hx : w[i]? with
      | none => rw [hx] at hd; exact absurd hd (by simp)
      | some x =>
        rw [hx] at hd
        obtain rfl : D.int x = d := by simpa using hd
        obtain ⟨x0, x1⟩ := hw x (List.mem_of_getElem? hx)
        obtain ⟨e1, l0, l1⟩ := h.ltr x0 x1
        have hs := h.step hv x0 x1
        have e2 := valW_step (T := T) (ls := ls) hx
        cases hv' : valW T ls (w.take i) with
        | none =>
          rw [hv'] at e2 hs
          simp [sgD, intsT, oD, two_0, two_1, atI_ints x0 e1, D.isNon]
          exact ⟨_, _, by rw [e2]; rfl, rfl, by rw [e2]; exact hs⟩
        | some a =>
          rw [hv'] at e2 hs hv
          obtain ⟨r, g1, g2, _, _⟩ := h.tab.toGrid.get2 hv.1 hv.2 l0 l1
          simp [sgD, tabD, intsT, oD, two_0, two_1, atI_ints x0 e1, D.isNon, atI_T hv.1 g1, oIx_rowT, atI_ints l0 g2]
          exact ⟨_, _, by rw [e2]; rfl, rfl, by rw [e2]; exact hs⟩
    · rintro ρ' μ' ⟨y, z, rfl, rfl, hv⟩
      simp
      rw [leave_oD]
      simp
      exact ⟨rfl, rfl⟩
  obtain ⟨d, μ', e, rfl, rfl⟩ := key
  exact e

/-! Q3b (the rest of Q3) -/
def VoI (T : List (List Int)) (ls w : List Int) (n : Nat) (μ : Mu) : Nat → G4.Env → Mu → Prop := fun i ρ' μ' => ∃ y, ρ' = [some (sgD T ls), some (intsL w), some (oD (valW T ls (w.take i))), y, some (tabD T), some (intsT ls)] ∧ μ' = μ ∧ InR n (valW T ls (w.take i))
theorem value_of_spec {n : Nat} {T : List (List Int)} {ls : List Int} (h : Sgr n T ls) {w : List Int} (hw : ∀ x ∈ w, 0 ≤ x ∧ x < (ls.length : Int)) (μ : Mu) : m_value_of [sgD T ls, intsL w] μ = some (.ok (oD (valW T ls w)) μ) := by
  have key : Rn (m_value_of [sgD T ls, intsL w] μ) (ValQ T ls w μ) := by
    refine Rn.run ?_
    simp [b_value_of, sgD, intsL]
    refine Sk.seq_loop (VoI T ls w n μ) ⟨none, rfl, rfl, trivial⟩ ?_ ?_
    · rintro i d ρ' μ' hd ⟨y, rfl, rfl, hv⟩
      rw [turn1_name]
      refine Go.of ?_
      rw [List.getElem?_map] at hd
      cases hx : w[i]? with
      | none => rw [hx] at hd; exact absurd hd (by simp)
      | some x =>
        rw [hx] at hd
        obtain rfl : D.int x = d := by simpa using hd
        obtain ⟨x0, x1⟩ := hw x (List.mem_of_getElem? hx)
        obtain ⟨e1, l0, l1⟩ := h.ltr x0 x1
        have hs := h.step hv x0 x1
        have e2 := valW_step (T := T) (ls := ls) hx
        cases hv' : valW T ls (w.take i) with
        | none =>
          rw [hv'] at e2 hs
          simp [sgD, intsT, oD, two_0, two_1, atI_ints x0 e1, D.isNon]
          exact ⟨_, by rw [e2]; rfl, rfl, by rw [e2]; exact hs⟩
        | some a =>
          rw [hv'] at e2 hs hv
          obtain ⟨r, g1, g2, _, _⟩ := h.tab.toGrid.get2 hv.1 hv.2 l0 l1
          simp [sgD, tabD, intsT, oD, two_0, two_1, atI_ints x0 e1, D.isNon, atI_T hv.1 g1, oIx_rowT, atI_ints l0 g2]
          exact ⟨_, by rw [e2]; rfl, rfl, by rw [e2]; exact hs⟩
    · rintro ρ' μ' ⟨y, rfl, rfl, hv⟩
      simp
      rw [leave_oD]
      simp
      exact ⟨rfl, rfl⟩
  obtain ⟨d, μ', e, rfl, rfl⟩ := key
  exact e

/-! ### the powers come again -/
theorem nodup_le {α : Type} [DecidableEq α] : ∀ {l m : List α}, l.Nodup → (∀ x ∈ l, x ∈ m) → l.length ≤ m.length
  | [], m, _, _ => Nat.zero_le _
  | x :: l, m, h, s => by
    have h' := List.nodup_cons.mp h
    have hx := s x (List.mem_cons_self ..)
    have := nodup_le (l := l) (m := m.erase x) h'.2 fun y hy => by
      have hne : y ≠ x := fun e => h'.1 (e ▸ hy)
      exact (List.mem_erase_of_ne hne).mpr (s y (List.mem_cons_of_mem _ hy))
    rw [List.length_erase_of_mem hx] at this
    have hp : 0 < m.length := List.length_pos_of_mem hx
    rw [List.length_cons]
    omega
/-! ### powers of a set -/
def Rg (n : Nat) (A : List Int) : Prop := ∀ x ∈ A, 0 ≤ x ∧ x < (n : Int)
theorem iota_get {n j : Nat} (h : j < n) : (iota n)[j]? = some (j : Int) := by
  unfold iota
  rw [List.getElem?_map, List.getElem?_range h]
  rfl
/-! Q6a -/
theorem iota_sorted (n : Nat) : (iota n).Pairwise (· < ·) := by
  unfold iota
  exact List.pairwise_map.mpr (List.pairwise_lt_range.imp fun h => by omega)

/-! W1: the first word of a length: plain. -/
def nwv (T : List (List Int)) (ls : List Int) : Option Int → Int → Int
  | none, c => ltr ls c
  | some a, c => at2 T a (ltr ls c)
theorem valS_nwv (T : List (List Int)) (ls : List Int) (v : Option Int) (c : Int) : valS T ls v c = some (nwv T ls v c) := by cases v <;> rfl
theorem valW_snoc (T : List (List Int)) (ls : List Int) (w : List Int) (c : Int) : valW T ls (w ++ [c]) = some (nwv T ls (valW T ls w) c) := by
  rw [← valS_nwv]
  simp [valW, List.foldl_append]
theorem mem_iota {n : Nat} {x : Int} (h0 : 0 ≤ x) (h1 : x < n) : x ∈ iota n := by
  unfold iota
  exact List.mem_map.mpr ⟨x.toNat, List.mem_range.mpr (by omega), by omega⟩
/-! U1: first words, plain. -/
section
variable {n : Nat} {T : List (List Int)} {ls : List Int}
def vw (T : List (List Int)) (ls : List Int) (w : List Int) : Int := (valW T ls w).getD 0
def addF (F : List (Int × List Int)) (v : Int) (w : List Int) : List (Int × List Int) := if v ∈ F.map Prod.fst then F else F ++ [(v, w)]
def runF (T : List (List Int)) (ls : List Int) (F : List (Int × List Int)) (ws : List (List Int)) : List (Int × List Int) := ws.foldl (fun F w => addF F (vw T ls w) w) F
def extw (q : Nat) (w : List Int) : List (List Int) := (List.range q).map fun (c : Nat) => w ++ [(c : Int)]
theorem runF_nil (F : List (Int × List Int)) : runF T ls F [] = F := rfl
theorem runF_cons (F : List (Int × List Int)) (w : List Int) (ws : List (List Int)) : runF T ls F (w :: ws) = runF T ls (addF F (vw T ls w) w) ws := rfl
theorem runF_app (F : List (Int × List Int)) (a b : List (List Int)) : runF T ls F (a ++ b) = runF T ls (runF T ls F a) b := by simp [runF, List.foldl_append]
theorem addF_pre (F : List (Int × List Int)) (v : Int) (w : List Int) : ∃ N, addF F v w = F ++ N := by
  unfold addF
  split
  · exact ⟨[], by simp⟩
  · exact ⟨_, rfl⟩
theorem runF_pre (ws : List (List Int)) : ∀ F : List (Int × List Int), ∃ N, runF T ls F ws = F ++ N := by
  induction ws with
  | nil => intro F; exact ⟨[], by simp [runF]⟩
  | cons w ws ih =>
    intro F
    obtain ⟨N, hN⟩ := addF_pre F (vw T ls w) w
    obtain ⟨N2, h2⟩ := ih (addF F (vw T ls w) w)
    exact ⟨N ++ N2, by rw [runF_cons, h2, hN, List.append_assoc]⟩
theorem addF_has (F : List (Int × List Int)) (v : Int) (w : List Int) : v ∈ (addF F v w).map Prod.fst := by
  unfold addF
  split
  · assumption
  · simp
theorem mem_runF {F : List (Int × List Int)} {ws : List (List Int)} {v : Int} (h : v ∈ F.map Prod.fst) : v ∈ (runF T ls F ws).map Prod.fst := by
  obtain ⟨N, hN⟩ := runF_pre (T := T) (ls := ls) ws F
  rw [hN, List.map_append]
  exact List.mem_append_left _ h
theorem runF_has : ∀ (ws : List (List Int)) (F : List (Int × List Int)) {w : List Int}, w ∈ ws → vw T ls w ∈ (runF T ls F ws).map Prod.fst
  | w' :: ws, F, w, h => by
    rw [runF_cons]
    rcases List.mem_cons.mp h with rfl | h
    · exact mem_runF (addF_has ..)
    · exact runF_has ws _ h
theorem runF_old : ∀ (ws : List (List Int)) (F : List (Int × List Int)), (∀ w ∈ ws, vw T ls w ∈ F.map Prod.fst) → runF T ls F ws = F
  | [], F, _ => rfl
  | w :: ws, F, h => by
    rw [runF_cons]
    have e : addF F (vw T ls w) w = F := by unfold addF; rw [if_pos (h w (List.mem_cons_self ..))]
    rw [e]
    exact runF_old ws F fun w' hw => h w' (List.mem_cons_of_mem _ hw)
/-- the words that bring a new value -/
def newW (T : List (List Int)) (ls : List Int) (S : List Int) : List (List Int) → List (List Int)
  | [] => []
  | w :: ws => if vw T ls w ∈ S then newW T ls S ws else w :: newW T ls (S ++ [vw T ls w]) ws
def prW (T : List (List Int)) (ls : List Int) (w : List Int) : Int × List Int := (vw T ls w, w)
theorem runF_newW : ∀ (ws : List (List Int)) (F : List (Int × List Int)), runF T ls F ws = F ++ (newW T ls (F.map Prod.fst) ws).map (prW T ls)
  | [], F => by simp [runF, newW]
  | w :: ws, F => by
    rw [runF_cons, newW]
    unfold addF
    split
    · rw [runF_newW ws F]
    · rw [runF_newW ws _, List.map_append]
      simp [prW]
theorem newW_sub : ∀ (ws : List (List Int)) (S : List Int) {w : List Int}, w ∈ newW T ls S ws → w ∈ ws
  | w' :: ws, S, w, h => by
    rw [newW] at h
    split at h
    · exact List.mem_cons_of_mem _ (newW_sub ws S h)
    · rcases List.mem_cons.mp h with rfl | h
      · exact List.mem_cons_self ..
      · exact List.mem_cons_of_mem _ (newW_sub ws _ h)
/-- going on from new words alone is enough -/
theorem pass (q : Nat) : ∀ (W : List (List Int)) (S : List Int) (G : List (Int × List Int)),
    (∀ w w' : List Int, w ∈ W → vw T ls w = vw T ls w' → ∀ c : Nat, c < q → vw T ls (w ++ [(c : Int)]) = vw T ls (w ++ [(c : Int)])) →
    (∀ w ∈ W, vw T ls w ∈ S → ∀ c : Nat, c < q → vw T ls (w ++ [(c : Int)]) ∈ G.map Prod.fst) →
    (∀ w u : List Int, w ∈ W → u ∈ W → vw T ls w = vw T ls u → ∀ c : Nat, c < q → vw T ls (w ++ [(c : Int)]) = vw T ls (u ++ [(c : Int)])) →
    runF T ls G (W.flatMap (extw q)) = runF T ls G ((newW T ls S W).flatMap (extw q))
  | [], S, G, _, _, _ => rfl
  | w :: W, S, G, h0, h1, h2 => by
    rw [newW, List.flatMap_cons, runF_app]
    split
    · rename_i hS
      have e : runF T ls G (extw q w) = G := runF_old _ _ fun u hu => by
        unfold extw at hu
        obtain ⟨c, hc, rfl⟩ := List.mem_map.mp hu
        exact h1 w (List.mem_cons_self ..) hS c (List.mem_range.mp hc)
      rw [e]
      exact pass q W S G (fun _ _ _ _ _ _ => rfl) (fun u hu => h1 u (List.mem_cons_of_mem _ hu)) (fun a b ha hb => h2 a b (List.mem_cons_of_mem _ ha) (List.mem_cons_of_mem _ hb))
    · rw [List.flatMap_cons, runF_app]
      refine pass q W (S ++ [vw T ls w]) _ (fun _ _ _ _ _ _ => rfl) (fun u hu hS c hc => ?_) (fun a b ha hb => h2 a b (List.mem_cons_of_mem _ ha) (List.mem_cons_of_mem _ hb))
      rcases List.mem_append.mp hS with hS | hS
      · exact mem_runF (h1 u (List.mem_cons_of_mem _ hu) hS c hc)
      · have e : vw T ls u = vw T ls w := by simpa using hS
        rw [h2 u w (List.mem_cons_of_mem _ hu) (List.mem_cons_self ..) e c hc]
        exact runF_has _ _ (by unfold extw; exact List.mem_map.mpr ⟨c, List.mem_range.mpr hc, rfl⟩)
/-! the levels -/
def lev (q : Nat) : Nat → List (List Int)
  | 0 => [[]]
  | k + 1 => (lev q k).flatMap (extw q)
def fk (T : List (List Int)) (ls : List Int) : Nat → List (Int × List Int)
  | 0 => []
  | k + 1 => runF T ls (fk T ls k) (lev ls.length (k + 1))
def nk (T : List (List Int)) (ls : List Int) (k : Nat) : List (List Int) := newW T ls ((fk T ls k).map Prod.fst) (lev ls.length (k + 1))
theorem fk_succ (k : Nat) : fk T ls (k + 1) = fk T ls k ++ (nk T ls k).map (prW T ls) := by rw [fk, runF_newW]; rfl
def InW (q : Nat) (w : List Int) : Prop := ∀ x ∈ w, 0 ≤ x ∧ x < (q : Int)
theorem lev_mem {q : Nat} : ∀ (k : Nat) {w : List Int}, w ∈ lev q k ↔ w.length = k ∧ InW q w
  | 0, w => by
    simp only [lev, List.mem_singleton]
    constructor
    · rintro rfl; exact ⟨rfl, fun x hx => by simp at hx⟩
    · intro h; exact List.length_eq_zero_iff.mp h.1
  | k + 1, w => by
    rw [lev, List.mem_flatMap]
    constructor
    · rintro ⟨u, hu, hw⟩
      have hu := (lev_mem k).mp hu
      unfold extw at hw
      obtain ⟨c, hc, rfl⟩ := List.mem_map.mp hw
      have hc := List.mem_range.mp hc
      refine ⟨by simp [hu.1], fun x hx => ?_⟩
      rcases List.mem_append.mp hx with hx | hx
      · exact hu.2 x hx
      · have : x = (c : Int) := by simpa using hx
        omega
    · rintro ⟨hl, hr⟩
      have hne : w ≠ [] := fun z => by rw [z] at hl; simp at hl
      have ew := (List.dropLast_concat_getLast hne).symm
      have hg := hr (w.getLast hne) (List.getLast_mem hne)
      refine ⟨w.dropLast, (lev_mem k).mpr ⟨by simp [hl], fun x hx => hr x ((List.dropLast_sublist w).subset hx)⟩, ?_⟩
      unfold extw
      refine List.mem_map.mpr ⟨(w.getLast hne).toNat, List.mem_range.mpr (by omega), ?_⟩
      rw [Int.toNat_of_nonneg hg.1]
      exact List.dropLast_concat_getLast hne
theorem vw_some {w : List Int} (hw : w ≠ []) : valW T ls w = some (vw T ls w) := by
  have ew := (List.dropLast_concat_getLast hw).symm
  unfold vw
  rw [ew, valW_snoc]
  rfl
theorem vw_snoc {w : List Int} (hw : w ≠ []) (c : Int) : vw T ls (w ++ [c]) = at2 T (vw T ls w) (ltr ls c) := by
  have : valW T ls (w ++ [c]) = some (at2 T (vw T ls w) (ltr ls c)) := by rw [valW_snoc, vw_some hw]; rfl
  unfold vw at *
  rw [this]
  rfl
theorem vw_cong {w u : List Int} (hw : w ≠ []) (hu : u ≠ []) (h : vw T ls w = vw T ls u) (c : Int) : vw T ls (w ++ [c]) = vw T ls (u ++ [c]) := by
  rw [vw_snoc hw, vw_snoc hu, h]
/-- each level from the new words of the one before -/
theorem fk_step (k : Nat) : fk T ls (k + 2) = runF T ls (fk T ls (k + 1)) ((nk T ls k).flatMap (extw ls.length)) := by
  show runF T ls (fk T ls (k + 1)) ((lev ls.length (k + 1)).flatMap (extw ls.length)) = _
  have ne : ∀ w ∈ lev ls.length (k + 1), w ≠ [] := fun w hw z => by
    have := ((lev_mem (k + 1)).mp hw).1
    rw [z] at this
    simp at this
  refine pass ls.length (lev ls.length (k + 1)) ((fk T ls k).map Prod.fst) _ (fun _ _ _ _ _ _ => rfl) (fun w hw hS c hc => ?_) (fun w u hw hu e c _ => vw_cong (ne w hw) (ne u hu) e c)
  -- an older word with this value
  cases k with
  | zero => simp [fk] at hS
  | succ k =>
    obtain ⟨p, hp, hv⟩ := List.mem_map.mp hS
    have gen : ∀ (j : Nat) (p : Int × List Int), p ∈ fk T ls j → ∃ i, i < j ∧ p.2 ∈ lev ls.length (i + 1) ∧ p.1 = vw T ls p.2 := by
      intro j
      induction j with
      | zero => intro p hp; simp [fk] at hp
      | succ j ih =>
        intro p hp
        rw [fk_succ] at hp
        rcases List.mem_append.mp hp with hp | hp
        · obtain ⟨i, hi, h⟩ := ih p hp
          exact ⟨i, by omega, h⟩
        · obtain ⟨u, hu, rfl⟩ := List.mem_map.mp hp
          exact ⟨j, by omega, newW_sub _ _ hu, rfl⟩
    obtain ⟨i, hi, hl, hv2⟩ := gen _ p hp
    have hlm := (lev_mem (i + 1)).mp hl
    have pne : p.2 ≠ [] := fun z => by rw [z] at hlm; simp at hlm
    have e : vw T ls w = vw T ls p.2 := by rw [← hv2, hv]
    rw [vw_cong (ne w hw) pne e c]
    have hin : p.2 ++ [(c : Int)] ∈ lev ls.length (i + 1 + 1) := by
      rw [lev, List.mem_flatMap]
      exact ⟨p.2, hl, by unfold extw; exact List.mem_map.mpr ⟨c, List.mem_range.mpr hc, rfl⟩⟩
    have up : ∀ j, i + 2 ≤ j → vw T ls (p.2 ++ [(c : Int)]) ∈ (fk T ls j).map Prod.fst := by
      intro j hj
      induction j with
      | zero => omega
      | succ j ih =>
        by_cases hji : i + 2 ≤ j
        · rw [fk]; exact mem_runF (ih hji)
        · have : j = i + 1 := by omega
          subst this
          rw [fk]
          exact runF_has _ _ hin
    exact up (k + 1 + 1) (by omega)
theorem fk_pre (k : Nat) : ∃ N, fk T ls (k + 1) = fk T ls k ++ N := ⟨_, fk_succ k⟩
theorem fk_mem : ∀ (j : Nat) (p : Int × List Int), p ∈ fk T ls j → ∃ i, i < j ∧ p.2 ∈ lev ls.length (i + 1) ∧ p.1 = vw T ls p.2 := by
  intro j
  induction j with
  | zero => intro p hp; simp [fk] at hp
  | succ j ih =>
    intro p hp
    rw [fk_succ] at hp
    rcases List.mem_append.mp hp with hp | hp
    · obtain ⟨i, hi, h⟩ := ih p hp
      exact ⟨i, by omega, h⟩
    · obtain ⟨u, hu, rfl⟩ := List.mem_map.mp hp
      exact ⟨j, by omega, newW_sub _ _ hu, rfl⟩
theorem runF_nodup : ∀ (ws : List (List Int)) (F : List (Int × List Int)), (F.map Prod.fst).Nodup → ((runF T ls F ws).map Prod.fst).Nodup
  | [], F, h => h
  | w :: ws, F, h => by
    rw [runF_cons]
    refine runF_nodup ws _ ?_
    unfold addF
    split
    · exact h
    · rename_i hv
      rw [List.map_append]
      refine List.nodup_append.mpr ⟨h, by simp, fun x hx y hy => ?_⟩
      have : y = vw T ls w := by simpa using hy
      subst this
      intro e; subst e; exact hv hx
theorem fk_nodup : ∀ k, ((fk T ls k).map Prod.fst).Nodup
  | 0 => List.Pairwise.nil
  | k + 1 => by rw [fk]; exact runF_nodup _ _ (fk_nodup k)
theorem vw_rg (S : Sgr n T ls) {w : List Int} (hw : w ≠ []) (hr : InW ls.length w) : 0 ≤ vw T ls w ∧ vw T ls w < n := by
  obtain ⟨q, hq⟩ : ∃ q, w.length = q + 1 := ⟨w.length - 1, by have := List.length_pos_iff.mpr hw; omega⟩
  have gen : ∀ (q : Nat) (w : List Int), w.length = q + 1 → InW ls.length w → 0 ≤ vw T ls w ∧ vw T ls w < n := by
    intro q
    induction q with
    | zero =>
      intro w hl hr
      match w, hl with
      | [x], _ =>
        have hx := hr x (by simp)
        exact (S.ltr hx.1 hx.2).2
    | succ q ih =>
      intro w hl hr
      have hne : w ≠ [] := fun z => by rw [z] at hl; simp at hl
      obtain ⟨u, x, rfl⟩ : ∃ u x, w = u ++ [x] := ⟨w.dropLast, w.getLast hne, (List.dropLast_concat_getLast hne).symm⟩
      have hul : u.length = q + 1 := by simpa using hl
      have hu := ih u hul fun y hy => hr y (List.mem_append_left _ hy)
      have une : u ≠ [] := fun z => by rw [z] at hul; simp at hul
      have hx := hr x (by simp)
      have lx := (S.ltr hx.1 hx.2).2
      rw [vw_snoc une]
      obtain ⟨_, _, _, p0, p1⟩ := S.tab.toGrid.get2 hu.1 hu.2 lx.1 lx.2
      exact ⟨p0, p1⟩
  exact gen q w hq hr
theorem fk_rg (S : Sgr n T ls) (k : Nat) : ∀ v ∈ (fk T ls k).map Prod.fst, 0 ≤ v ∧ v < (n : Int) := by
  intro v hv
  obtain ⟨p, hp, rfl⟩ := List.mem_map.mp hv
  obtain ⟨i, _, hl, e⟩ := fk_mem k p hp
  have hlm := (lev_mem (i + 1)).mp hl
  rw [e]
  exact vw_rg S (fun z => by rw [z] at hlm; simp at hlm) hlm.2
theorem fk_len (S : Sgr n T ls) (k : Nat) : (fk T ls k).length ≤ n := by
  have := nodup_le (fk_nodup (T := T) (ls := ls) k) (m := iota n) fun v hv => by
    have := fk_rg S k v hv
    exact mem_iota this.1 this.2
  rwa [List.length_map, iota_len] at this
theorem nk_stop {k : Nat} (h : nk T ls k = []) : nk T ls (k + 1) = [] ∧ fk T ls (k + 2) = fk T ls (k + 1) := by
  have e := fk_step (T := T) (ls := ls) k
  rw [h] at e
  have e : fk T ls (k + 2) = fk T ls (k + 1) := e
  refine ⟨?_, e⟩
  have e2 := fk_succ (T := T) (ls := ls) (k + 1)
  rw [e] at e2
  have : ((nk T ls (k + 1)).map (prW T ls)).length = 0 := by
    have := congrArg List.length e2
    rw [List.length_append] at this
    omega
  simpa using this
/-- after four levels all values are met -/
theorem closed4 (S : Sgr n T ls) : ∀ {w : List Int}, w ≠ [] → InW ls.length w → vw T ls w ∈ (fk T ls 4).map Prod.fst := by
  have n4 := S.n4
  have all : ∀ k, 4 ≤ k → (fk T ls k).map Prod.fst ⊆ (fk T ls 4).map Prod.fst := by
    by_cases h : nk T ls 3 = []
    · have st : ∀ k, 4 ≤ k → fk T ls k = fk T ls 4 ∧ nk T ls (k - 1) = [] := by
        intro k hk
        induction k with
        | zero => omega
        | succ k ih =>
          by_cases hk4 : k + 1 = 4
          · rw [hk4]; exact ⟨rfl, h⟩
          · obtain ⟨e1, e2⟩ := ih (by omega)
            obtain ⟨j, rfl⟩ : ∃ j, k = j + 1 := ⟨k - 1, by omega⟩
            obtain ⟨a, b⟩ := nk_stop (k := j) e2
            exact ⟨b.trans e1, a⟩
      intro k hk
      rw [(st k hk).1]
      exact List.Subset.refl _
    · have pos : ∀ k, k ≤ 3 → nk T ls k ≠ [] := by
        intro k hk z
        have : ∀ j, k ≤ j → nk T ls j = [] := by
          intro j hj
          induction j with
          | zero => rw [show k = 0 by omega] at z; exact z
          | succ j ih =>
            by_cases hjk : k ≤ j
            · exact (nk_stop (ih hjk)).1
            · rw [show k = j + 1 by omega] at z; exact z
        exact h (this 3 hk)
      have lens : ∀ k, k ≤ 4 → k ≤ (fk T ls k).length := by
        intro k hk
        induction k with
        | zero => exact Nat.zero_le _
        | succ k ih =>
          have h1 := List.length_pos_iff.mpr (pos k (by omega))
          have h2 := ih (by omega)
          rw [fk_succ, List.length_append, List.length_map]
          omega
      have l4 := lens 4 (Nat.le_refl _)
      intro k hk v hv
      have hr := fk_rg S k v hv
      -- all values are there
      by_cases hin : v ∈ (fk T ls 4).map Prod.fst
      · exact hin
      · exfalso
        have nd : (v :: (fk T ls 4).map Prod.fst).Nodup := List.nodup_cons.mpr ⟨hin, fk_nodup 4⟩
        have := nodup_le nd (m := iota n) fun x hx => by
          rcases List.mem_cons.mp hx with rfl | hx
          · exact mem_iota hr.1 hr.2
          · have := fk_rg S 4 x hx
            exact mem_iota this.1 this.2
        rw [List.length_cons, List.length_map, iota_len] at this
        omega
  intro w hw hr
  obtain ⟨q, hq⟩ : ∃ q, w.length = q + 1 := ⟨w.length - 1, by have := List.length_pos_iff.mpr hw; omega⟩
  have hin : vw T ls w ∈ (fk T ls (q + 1)).map Prod.fst := by
    rw [fk]
    exact runF_has _ _ ((lev_mem (q + 1)).mpr ⟨hq, hr⟩)
  by_cases h4 : 4 ≤ q + 1
  · exact all _ h4 hin
  · have up : ∀ j, q + 1 ≤ j → vw T ls w ∈ (fk T ls j).map Prod.fst := by
      intro j hj
      induction j with
      | zero => omega
      | succ j ih =>
        by_cases hjq : q + 1 ≤ j
        · rw [fk]; exact mem_runF (ih hjq)
        · rw [show j + 1 = q + 1 by omega]; exact hin
    exact up 4 (by omega)
/-! the queue -/
def gq (T : List (List Int)) (ls : List Int) : Nat → List (Int × List Int)
  | 0 => fk T ls 1
  | j + 1 => match (gq T ls j)[j]? with
    | some p => runF T ls (gq T ls j) (extw ls.length p.2)
    | none => gq T ls j
theorem gq_lev (k i : Nat) (h0 : gq T ls (fk T ls k).length = fk T ls (k + 1)) : i ≤ (nk T ls k).length → gq T ls ((fk T ls k).length + i) = runF T ls (fk T ls (k + 1)) (((nk T ls k).take i).flatMap (extw ls.length)) := by
  induction i with
  | zero => intro _; rw [Nat.add_zero, h0]; rfl
  | succ i ih =>
    intro hi
    have e := ih (by omega)
    obtain ⟨N, hN⟩ := runF_pre (T := T) (ls := ls) (((nk T ls k).take i).flatMap (extw ls.length)) (fk T ls (k + 1))
    have hw : (nk T ls k)[i]? = some (nk T ls k)[i] := List.getElem?_eq_getElem (by omega)
    have hg : (gq T ls ((fk T ls k).length + i))[(fk T ls k).length + i]? = some (prW T ls (nk T ls k)[i]) := by
      rw [e, hN, fk_succ, List.append_assoc, List.getElem?_append_right (by omega), Nat.add_sub_cancel_left, List.getElem?_append_left (by rw [List.length_map]; omega), List.getElem?_map, hw]
      rfl
    rw [show (fk T ls k).length + (i + 1) = ((fk T ls k).length + i) + 1 by omega, gq, hg, e]
    show runF T ls _ (extw ls.length (nk T ls k)[i]) = _
    rw [List.take_add_one, hw, List.flatMap_append, runF_app]
    simp
theorem gq_at (k : Nat) : gq T ls (fk T ls k).length = fk T ls (k + 1) := by
  induction k with
  | zero => rfl
  | succ k ih =>
    have h := gq_lev k (nk T ls k).length ih (Nat.le_refl _)
    rw [List.take_length, ← fk_step] at h
    have e : (fk T ls (k + 1)).length = (fk T ls k).length + (nk T ls k).length := by rw [fk_succ, List.length_append, List.length_map]
    rw [e]
    exact h
theorem gq_mem (j : Nat) : ∀ p ∈ gq T ls j, p.2 ≠ [] ∧ InW ls.length p.2 ∧ p.1 = vw T ls p.2 := by
  induction j with
  | zero =>
    intro p hp
    obtain ⟨i, _, hl, e⟩ := fk_mem 1 p hp
    have hlm := (lev_mem (i + 1)).mp hl
    exact ⟨fun z => (by rw [z] at hlm; simp at hlm), hlm.2, e⟩
  | succ j ih =>
    intro p hp
    rw [gq] at hp
    cases hg : (gq T ls j)[j]? with
    | none => rw [hg] at hp; exact ih p hp
    | some q =>
      rw [hg] at hp
      have hq := ih q (List.mem_of_getElem? hg)
      have hp : p ∈ runF T ls (gq T ls j) (extw ls.length q.2) := hp
      rw [runF_newW] at hp
      rcases List.mem_append.mp hp with hp | hp
      · exact ih p hp
      · obtain ⟨u, hu, rfl⟩ := List.mem_map.mp hp
        have hu := newW_sub _ _ hu
        unfold extw at hu
        obtain ⟨c, hc, rfl⟩ := List.mem_map.mp hu
        have hc := List.mem_range.mp hc
        refine ⟨by simp [prW], fun x hx => ?_, rfl⟩
        rcases List.mem_append.mp hx with hx | hx
        · exact hq.2.1 x hx
        · have : x = (c : Int) := by simpa using hx
          omega
theorem gq_wl (j : Nat) : ∀ p ∈ gq T ls j, p.2.length ≤ j + 1 := by
  induction j with
  | zero =>
    intro p hp
    obtain ⟨i, hi, hl, e⟩ := fk_mem 1 p hp
    have hlm := (lev_mem (i + 1)).mp hl
    omega
  | succ j ih =>
    intro p hp
    rw [gq] at hp
    cases hg : (gq T ls j)[j]? with
    | none => rw [hg] at hp; have := ih p hp; omega
    | some q =>
      rw [hg] at hp
      have hq := ih q (List.mem_of_getElem? hg)
      have hp : p ∈ runF T ls (gq T ls j) (extw ls.length q.2) := hp
      rw [runF_newW] at hp
      rcases List.mem_append.mp hp with hp | hp
      · have := ih p hp; omega
      · obtain ⟨u, hu, rfl⟩ := List.mem_map.mp hp
        have hu := newW_sub _ _ hu
        unfold extw at hu
        obtain ⟨c, hc, rfl⟩ := List.mem_map.mp hu
        simp [prW]
        omega
theorem gq_4 (S : Sgr n T ls) : gq T ls 4 = fk T ls 4 := by
  have h3 := gq_at (T := T) (ls := ls) 3
  have l3 := fk_len S 3
  have n4 := S.n4
  have st : ∀ j, (fk T ls 3).length ≤ j → gq T ls j = fk T ls 4 := by
    intro j hj
    induction j with
    | zero => rw [show 0 = (fk T ls 3).length by omega]; exact h3
    | succ j ih =>
      by_cases hjl : (fk T ls 3).length ≤ j
      · have e := ih hjl
        rw [gq]
        cases hg : (gq T ls j)[j]? with
        | none => exact e
        | some q =>
          have hq := gq_mem (T := T) (ls := ls) j q (List.mem_of_getElem? hg)
          show runF T ls (gq T ls j) (extw ls.length q.2) = _
          rw [e]
          refine runF_old _ _ fun u hu => ?_
          unfold extw at hu
          obtain ⟨c, hc, rfl⟩ := List.mem_map.mp hu
          have hc := List.mem_range.mp hc
          refine closed4 S (by simp) fun x hx => ?_
          rcases List.mem_append.mp hx with hx | hx
          · exact hq.2.1 x hx
          · have : x = (c : Int) := by simpa using hx
            omega
      · rw [show j + 1 = (fk T ls 3).length by omega]; exact h3
  exact st 4 (by omega)
end

/-! U2: first_words. -/
def fwD (p : Int × List Int) : D := .tup [.int p.1, .lst (p.2.map D.int)]
theorem pure_fwD (p : Int × List Int) : (fwD p).pure = true := by simp [fwD, D.pure, pures]
theorem pures_fw (F : List (Int × List Int)) : pures (F.map fwD) = true := by
  rw [pures_iff]
  intro d hd
  obtain ⟨p, _, rfl⟩ := List.mem_map.mp hd
  exact pure_fwD p
def fwS (μ : Mu) (F : List (Int × List Int)) : Mu := μ ++ [some (.lst (F.map fwD)), some (.set (F.map Prod.fst))]
theorem fwS_0 (μ : Mu) (F : List (Int × List Int)) : (fwS μ F)[μ.length]? = some (some (.lst (F.map fwD))) := by simp [fwS]
theorem fwS_1 (μ : Mu) (F : List (Int × List Int)) : (fwS μ F)[μ.length + 1]? = some (some (.set (F.map Prod.fst))) := by simp [fwS]
theorem fwS_put (μ : Mu) (F : List (Int × List Int)) (v : Int) (w : List Int) : (((fwS μ F).set (μ.length + 1) (some (.set (F.map Prod.fst ++ [v])))).set μ.length (some (.lst (F.map fwD ++ [fwD (v, w)])))) = fwS μ (F ++ [(v, w)]) := by
  unfold fwS
  rw [List.set_append_right _ _ (by omega), show μ.length + 1 - μ.length = 1 by omega, List.set_append_right _ _ (by omega), Nat.sub_self]
  simp
section
variable {n : Nat} {T : List (List Int)} {ls : List Int}
def FwA (T : List (List Int)) (ls : List Int) (μ : Mu) : Nat → G4.Env → Mu → Prop := fun i ρ μ' => ∃ z6 z7, ρ = [some (sgD T ls), some (.cell μ.length), some (.cell (μ.length + 1)), none, some (tabD T), some (intsT ls), z6, z7, none, none, none] ∧ μ' = fwS μ (runF T ls [] ((extw ls.length []).take i))
def FwB (T : List (List Int)) (ls : List Int) (μ : Mu) : Nat → G4.Env → Mu → Prop := fun m ρ μ' => ∃ j z6 z7 z8 z9 z10, m + j = 5 ∧ j ≤ (gq T ls j).length ∧ ρ = [some (sgD T ls), some (.cell μ.length), some (.cell (μ.length + 1)), some (.int (j : Nat)), some (tabD T), some (intsT ls), z6, z7, z8, z9, z10] ∧ μ' = fwS μ (gq T ls j)
def FwC (T : List (List Int)) (ls : List Int) (G : List (Int × List Int)) (a : Int) (p : Int × List Int) (μ : Mu) : Nat → G4.Env → Mu → Prop := fun i ρ μ' => ∃ z6 z9 z10, ρ = [some (sgD T ls), some (.cell μ.length), some (.cell (μ.length + 1)), some (.int a), some (tabD T), some (intsT ls), z6, some (.int p.1), some (.lst (p.2.map D.int)), z9, z10] ∧ μ' = fwS μ (runF T ls G ((extw ls.length p.2).take i))
theorem extw_get {q c : Nat} (h : c < q) (w : List Int) : (extw q w)[c]? = some (w ++ [(c : Int)]) := by
  unfold extw
  rw [List.getElem?_map, List.getElem?_range h]
  rfl
theorem extw_len (q : Nat) (w : List Int) : (extw q w).length = q := by simp [extw]
theorem runF_take {q c : Nat} (h : c < q) (w : List Int) (G : List (Int × List Int)) : runF T ls G ((extw q w).take (c + 1)) = addF (runF T ls G ((extw q w).take c)) (vw T ls (w ++ [(c : Int)])) (w ++ [(c : Int)]) := by
  rw [List.take_add_one, extw_get h, runF_app]
  rfl
theorem gq_len (S : Sgr n T ls) (j : Nat) : (gq T ls j).length ≤ n := by
  have nd : ((gq T ls j).map Prod.fst).Nodup := by
    induction j with
    | zero => exact fk_nodup 1
    | succ j ih =>
      rw [gq]
      split
      · exact runF_nodup _ _ ih
      · exact ih
  have := nodup_le nd (m := iota n) fun v hv => by
    obtain ⟨p, hp, rfl⟩ := List.mem_map.mp hv
    obtain ⟨h1, h2, h3⟩ := gq_mem j p hp
    have := vw_rg S h1 h2
    rw [h3]
    exact mem_iota this.1 this.2
  rwa [List.length_map, iota_len] at this
theorem run_len (S : Sgr n T ls) {j : Nat} {p : Int × List Int} (hp : p ∈ gq T ls j) (i : Nat) : (runF T ls (gq T ls j) ((extw ls.length p.2).take i)).length ≤ n := by
  have nd : ((gq T ls j).map Prod.fst).Nodup := by
    induction j with
    | zero => exact fk_nodup 1
    | succ j ih =>
      by_cases hq : ∃ q, (gq T ls j)[j]? = some q
      · obtain ⟨q, hq⟩ := hq
        rw [gq, hq]
        exact runF_nodup _ _ (by
          have gen : ∀ j, ((gq T ls j).map Prod.fst).Nodup := by
            intro j
            induction j with
            | zero => exact fk_nodup 1
            | succ j ih =>
              rw [gq]
              split
              · exact runF_nodup _ _ ih
              · exact ih
          exact gen j)
      · have : (gq T ls j)[j]? = none := by
          cases h : (gq T ls j)[j]? with
          | none => rfl
          | some q => exact absurd ⟨q, h⟩ hq
        rw [gq, this]
        have gen : ∀ j, ((gq T ls j).map Prod.fst).Nodup := by
          intro j
          induction j with
          | zero => exact fk_nodup 1
          | succ j ih =>
            rw [gq]
            split
            · exact runF_nodup _ _ ih
            · exact ih
        exact gen j
  have nd2 := runF_nodup (T := T) (ls := ls) ((extw ls.length p.2).take i) _ nd
  have hpm := gq_mem j p hp
  have := nodup_le nd2 (m := iota n) fun v hv => by
    rw [runF_newW] at hv
    rw [List.map_append] at hv
    rcases List.mem_append.mp hv with hv | hv
    · obtain ⟨p, hp, rfl⟩ := List.mem_map.mp hv
      obtain ⟨h1, h2, h3⟩ := gq_mem j p hp
      have := vw_rg S h1 h2
      rw [h3]
      exact mem_iota this.1 this.2
    · rw [List.map_map] at hv
      obtain ⟨u, hu, rfl⟩ := List.mem_map.mp hv
      have hu := List.mem_of_mem_take (newW_sub _ _ hu)
      unfold extw at hu
      obtain ⟨c, hc, rfl⟩ := List.mem_map.mp hu
      have hc := List.mem_range.mp hc
      have := vw_rg S (w := p.2 ++ [(c : Int)]) (by simp) fun x hx => by
        rcases List.mem_append.mp hx with hx | hx
        · exact hpm.2.1 x hx
        · have : x = (c : Int) := by simpa using hx
          omega
      exact mem_iota this.1 this.2
  rwa [List.length_map, iota_len] at this
def FwQ (T : List (List Int)) (ls : List Int) (μ : Mu) : D → Mu → Prop := fun d μ' => d = .lst ((fk T ls 4).map fwD) ∧ μ' = μ
theorem first_words_spec (S : Sgr n T ls) (μ : Mu) : m_first_words [sgD T ls] μ = some (.ok (.lst ((fk T ls 4).map fwD)) μ) := by
  have key : Rn (m_first_words [sgD T ls] μ) (FwQ T ls μ) := by
    refine Rn.run ?_
    have hsg : ∀ {u : Tvs} {ρ : G4.Env} {μ : Mu}, tTupT 2 u (sgD T ls) ρ μ = u [tabD T, intsT ls] ρ μ := fun {_ _ _} => rfl
    have en : ∀ μ, enA1 [intsT ls] μ = some (.ok (.its (pairs 0 (ls.map D.int))) μ) := fun μ => rfl
    have n4 := S.n4
    have l3 := S.l3
    simp [b_first_words, hsg, en]
    refine Sk.seq_loop (FwA T ls μ) ⟨none, none, rfl, by simp [fwS, runF]⟩ ?_ ?_
    · rintro i d ρ μ' hd ⟨z6, z7, rfl, rfl⟩
      rw [pairs_get, List.getElem?_map] at hd
      cases hx : ls[i]? with
      | none => rw [hx] at hd; exact absurd hd (by simp)
      | some x =>
        rw [hx] at hd
        obtain rfl : D.tup [.int (i : Int), .int x] = d := by simpa using hd
        have hil := (List.getElem?_eq_some_iff.mp hx).1
        have hv : vw T ls ([] ++ [(i : Int)]) = x := by
          unfold vw valW valS ltr
          simp [List.getD_eq_getElem?_getD, hx]
        have ht := runF_take (T := T) (ls := ls) hil [] []
        rw [hv] at ht
        have fl : (runF T ls [] ((extw ls.length []).take i)).length ≤ 3 := by
          have gen : ∀ (ws : List (List Int)) (F : List (Int × List Int)), (runF T ls F ws).length ≤ F.length + ws.length := by
            intro ws
            induction ws with
            | nil => intro F; exact Nat.le_refl _
            | cons w ws ih =>
              intro F
              have := ih (addF F (vw T ls w) w)
              rw [runF_cons]
              have h2 : (addF F (vw T ls w) w).length ≤ F.length + 1 := by unfold addF; split <;> simp
              rw [List.length_cons]
              omega
          have := gen ((extw ls.length []).take i) []
          rw [List.length_take, extw_len] at this
          simp at this
          omega
        generalize runF T ls [] ((extw ls.length []).take i) = F at *
        refine Go.of ?_
        simp [turn1, oSIn_ok true x (fwS_1 μ F)]
        refine Sk.ifs (fun h => ?_) fun h => ?_
        · have hm : x ∉ F.map Prod.fst := by simpa using h
          simp
          rw [sadd1_ok (μ1 := fwS μ F) (xs := F.map Prod.fst) (ys := F.map Prod.fst) (i := x) (fwS_1 μ F) (by simp) (fwS_1 μ F) (by rw [List.length_map]; omega)]
          have g0 : ((fwS μ F).set (μ.length + 1) (some (.set (F.map Prod.fst ++ [x]))))[μ.length]? = some (some (.lst (F.map fwD))) := by
            rw [List.getElem?_set_ne (by omega)]
            exact fwS_0 μ F
          simp
          rw [mt1_ok (xs := F.map fwD) (ys := F.map fwD) (as := [fwD (x, [(i : Int)])]) g0 (by simp; rfl) g0, oAppend_ok (by rw [List.length_map]; omega) (by simp)]
          rw [fwS_put]
          simp only [drops_ok, Sk_ok, Go_nx]
          refine ⟨_, _, rfl, ?_⟩
          rw [ht]
          unfold addF
          rw [if_neg hm]
          rfl
        · have hm : x ∈ F.map Prod.fst := by simpa using h
          simp
          refine ⟨_, _, rfl, ?_⟩
          rw [ht]
          unfold addF
          rw [if_pos hm]
    · rintro ρ μ' ⟨z6, z7, rfl, rfl⟩
      rw [G4.pairs_len, List.length_map]
      have e1 : (extw ls.length []).take ls.length = extw ls.length [] := by rw [List.take_of_length_le (by rw [extw_len]; exact Nat.le_refl _)]
      have e2 : runF T ls [] (extw ls.length []) = gq T ls 0 := by
        show _ = runF T ls [] ((lev ls.length 0).flatMap (extw ls.length))
        simp [lev]
      rw [e1, e2]
      simp
      refine Sk.seq_while (FwB T ls μ) 5 (by unfold fuel; omega) ⟨0, _, _, none, none, none, rfl, Nat.zero_le _, rfl, rfl⟩ ?_
      rintro m ρ' μ' ⟨j, z6, z7, z8, z9, z10, hm, hjl, rfl, rfl⟩
      have le := oLen_cell (fwS_0 μ (gq T ls j))
      refine ⟨decide (j < (gq T ls j).length), fwS μ (gq T ls j), by simp [le], fun hb => ?_, fun hb => ?_⟩
      · have hb : (gq T ls j).length ≤ j := by simpa using hb
        have st : ∀ i, gq T ls (j + i) = gq T ls j := by
          intro i
          induction i with
          | zero => rfl
          | succ i ih =>
            rw [show j + (i + 1) = (j + i) + 1 by omega, gq, ih, List.getElem?_eq_none (by omega)]
        have g4 := gq_len S j
        have hj4 : j ≤ 4 := by omega
        have e := st (4 - j)
        rw [show j + (4 - j) = 4 by omega, gq_4 S] at e
        rw [← e]
        simp
        rw [frz1_cell (fwS_0 μ _) (pures_fw _)]
        simp
        have hp : (D.lst ((fk T ls 4).map fwD)).pure = true := pures_fw _
        rw [leave_pure hp]
        exact ⟨_, _, rfl, rfl, by simp [fwS]⟩
      · have hb : j < (gq T ls j).length := by simpa using hb
        have gl := gq_len S j
        refine ⟨m - 1, by omega, Go.of ?_⟩
        have hp : (gq T ls j)[j]? = some (gq T ls j)[j] := List.getElem?_eq_getElem hb
        have hpm := List.getElem_mem hb
        obtain ⟨pn, pi, pv⟩ := gq_mem j _ hpm
        have rl := fun i => run_len S hpm i
        have wl := gq_wl j _ hpm
        have gn : gq T ls (j + 1) = runF T ls (gq T ls j) (extw ls.length (gq T ls j)[j].2) := by rw [gq, hp]
        have ai : atI ((gq T ls j).map fwD) (j : Int) = some (fwD (gq T ls j)[j]) := atI_ok (by omega) (by rw [List.getElem?_map, Int.toNat_natCast, hp]; rfl)
        generalize (gq T ls j)[j] = p at *
        have tp : ∀ {u : Tvs} {ρ : G4.Env} {μ : Mu}, tTupT 2 u (fwD p) ρ μ = u [.int p.1, .lst (p.2.map D.int)] ρ μ := fun {_ _ _} => rfl
        simp [oIx_cell (fwS_0 μ _), ai, tp, en]
        refine Sk.loop (FwC T ls (gq T ls j) ((j : Int) + 1) p μ) ⟨_, _, _, rfl, by simp [runF]⟩ ?_ ?_
        · rintro c d ρ' μ' hd ⟨z6, z9, z10, rfl, rfl⟩
          rw [pairs_get, List.getElem?_map] at hd
          cases hx : ls[c]? with
          | none => rw [hx] at hd; exact absurd hd (by simp)
          | some x =>
            rw [hx] at hd
            obtain rfl : D.tup [.int (c : Int), .int x] = d := by simpa using hd
            have hcl := (List.getElem?_eq_some_iff.mp hx).1
            have hxr := S.rng x (List.mem_of_getElem? hx)
            have hlt : ltr ls (c : Int) = x := by unfold ltr; rw [Int.toNat_natCast, List.getD_eq_getElem?_getD, hx]; rfl
            have pr := vw_rg S pn pi
            rw [← pv] at pr
            have hv : vw T ls (p.2 ++ [(c : Int)]) = at2 T p.1 x := by rw [vw_snoc pn, ← pv, hlt]
            have ht := runF_take (T := T) (ls := ls) hcl p.2 (gq T ls j)
            rw [hv] at ht
            have fl := rl c
            obtain ⟨r, q1, q2, _, _⟩ := S.tab.toGrid.get2 pr.1 pr.2 hxr.1 hxr.2
            generalize runF T ls (gq T ls j) ((extw ls.length p.2).take c) = F at *
            refine Go.of ?_
            simp [turn1, tabD, atI_T pr.1 q1, oIx_rowT, atI_ints hxr.1 q2, oSIn_ok true (at2 T p.1 x) (fwS_1 μ F)]
            refine Sk.ifs (fun h => ?_) fun h => ?_
            · have hm : at2 T p.1 x ∉ F.map Prod.fst := by simpa using h
              simp
              rw [sadd1_ok (μ1 := fwS μ F) (xs := F.map Prod.fst) (ys := F.map Prod.fst) (i := at2 T p.1 x) (fwS_1 μ F) (by simp) (fwS_1 μ F) (by rw [List.length_map]; omega)]
              have g0 : ((fwS μ F).set (μ.length + 1) (some (.set (F.map Prod.fst ++ [at2 T p.1 x]))))[μ.length]? = some (some (.lst (F.map fwD))) := by
                rw [List.getElem?_set_ne (by omega)]
                exact fwS_0 μ F
              simp
              rw [mt1_ok (xs := F.map fwD) (ys := F.map fwD) (as := [fwD (at2 T p.1 x, p.2 ++ [(c : Int)])]) g0 (by
                simp
                rw [newL_ok (by simp; omega)]
                simp [fwD]) g0, oAppend_ok (by rw [List.length_map]; omega) (by simp)]
              rw [fwS_put]
              simp only [drops_ok, Sk_ok, Go_nx]
              refine ⟨_, _, _, rfl, ?_⟩
              rw [ht]
              unfold addF
              rw [if_neg hm]
            · have hm : at2 T p.1 x ∈ F.map Prod.fst := by simpa using h
              simp
              refine ⟨_, _, _, rfl, ?_⟩
              rw [ht]
              unfold addF
              rw [if_pos hm]
        · rintro ρ' μ' ⟨z6, z9, z10, rfl, rfl⟩
          rw [G4.pairs_len, List.length_map]
          have e1 : (extw ls.length p.2).take ls.length = extw ls.length p.2 := by rw [List.take_of_length_le (by rw [extw_len]; exact Nat.le_refl _)]
          rw [e1, ← gn, Go_nx]
          have hgl : (gq T ls j).length ≤ (gq T ls (j + 1)).length := by
            obtain ⟨N, hN⟩ := runF_pre (T := T) (ls := ls) (extw ls.length p.2) (gq T ls j)
            rw [gn, hN, List.length_append]
            omega
          exact ⟨j + 1, _, _, _, _, _, by omega, by omega, rfl, rfl⟩
  obtain ⟨d, μ', e, rfl, rfl⟩ := key
  exact e
end

/-! U3: the law's own first words; a word of both sets. -/
section
variable {n : Nat} {T : List (List Int)} {ls : List Int}
def wdD (w : List Int) : D := .lst (w.map D.int)
theorem pures_W (W : List (List Int)) : pures (W.map wdD) = true := by
  rw [pures_iff]
  intro d hd
  obtain ⟨p, _, rfl⟩ := List.mem_map.mp hd
  exact pures_ints p
theorem lev_len (q : Nat) : ∀ k, (lev q k).length = q ^ k
  | 0 => rfl
  | k + 1 => by
    rw [lev, List.length_flatMap]
    have : (lev q k).map (fun w => (extw q w).length) = List.replicate (lev q k).length q := by
      rw [List.eq_replicate_iff]
      refine ⟨by simp, fun x hx => ?_⟩
      obtain ⟨w, _, rfl⟩ := List.mem_map.mp hx
      exact extw_len q w
    rw [this, List.sum_replicate_nat, lev_len q k, Nat.pow_succ]
theorem get_last (μ : Mu) (x : Option M) : (μ ++ [x])[μ.length]? = some x := by simp
theorem set_last (μ : Mu) (x y : Option M) : (μ ++ [x]).set μ.length y = μ ++ [y] := by simp
theorem flat_len {q : Nat} (R : List (List Int)) : (R.flatMap (extw q)).length = R.length * q := by
  induction R with
  | nil => simp
  | cons w R ih => rw [List.flatMap_cons, List.length_append, ih, extw_len, List.length_cons, Nat.succ_mul]; omega
end

/-! V5: spans, takes. -/
@[simp] theorem eCallX_ap {ρ : G4.Env} {μ : Mu} (m : Fd) (f : Ev (List D)) : eCallX m f ρ μ = Ro.bnd (f ρ μ) m := rfl
/-! Q7: the fault of a semigroup. -/
def out1 (n v : Int) : Bool := !(decide (0 ≤ v) && decide (v < n))
def assB (n : Nat) (T : List (List Int)) : Bool := (iota n).all fun a => (iota n).all fun b => (iota n).all fun c => at2 T (at2 T a b) c == at2 T a (at2 T b c)
def SpQ (v : D) (μ : Mu) : D → Mu → Prop := fun d μ' => d = v ∧ μ' = μ
theorem SpQ.out {r : Ro D} {d : D} {μ : Mu} (h : Rn r (SpQ d μ)) : r = some (.ok d μ) := by
  obtain ⟨d', μ', e, rfl, rfl⟩ := h
  exact e
theorem SpQ.ret {d v : D} {μ : Mu} (hp : d.pure = true) (h : d = v) : ∃ d' μ', leave μ.length d μ = some (.ok d' μ') ∧ SpQ v μ d' μ' := ⟨v, μ, by rw [leave_pure hp, List.take_length, h], rfl, rfl⟩
theorem any_not {α : Type} (xs : List α) (f : α → Bool) : (xs.any fun x => !f x) = !xs.all f := by
  induction xs with
  | nil => rfl
  | cons x xs ih => simp [ih]
theorem is_associative_spec {n : Nat} {T : List (List Int)} (hT : Grid n T) (hn : n ≤ 1000) (μ : Mu) : m_is_associative [tabD T] μ = some (.ok (.bl (assB n T)) μ) := SpQ.out (by
  refine Rn.run ?_
  have ln : oLen [tabD T] μ = some (.ok (.int n) μ) := by simp [tabD, hT.len]
  have hr : rOk (n : Int) = true := rOk_of (by omega) (by omega)
  simp [b_is_associative, ln, lrg_ok hr (show (n : Int) ≤ 16777216 by omega)]
  have cur : ∀ μ, Src.cur μ (.its (rngD 0 n)) = some ((iota n).map D.int) := fun μ => by rw [rng_iota]; rfl
  have it : ∀ (m : Nat) ρ (h : ρ[1]? = some (some (.lst (rngD 0 n)))), iAnyD (eVar 1) ρ μ = some (.ok (.its (rngD 0 n)) μ) := fun m ρ h => by
    show Ro.bnd (eVar 1 ρ μ) _ = _
    rw [eVar_ap, h]
    rfl
  rw [gens_run (b := !assB n T) (μ1 := μ)]
  · cases assB n T <;> simp [SpQ]
  · unfold assB
    rw [← any_not]
    refine gRun_name D.int _ (cur μ) fun a ha => ?_
    have ha := iota_mem ha
    rw [bFor_ap, it 0 _ rfl]
    simp only [bnd_ok]
    rw [← any_not]
    refine gRun_name D.int _ (cur μ) fun b hb => ?_
    have hb := iota_mem hb
    rw [bFor_ap, it 0 _ rfl]
    simp only [bnd_ok]
    rw [← any_not]
    refine gRun_name D.int _ (cur μ) fun c hc => ?_
    have hc := iota_mem hc
    obtain ⟨r1, e1, e2, p0, p1⟩ := hT.get2 ha.1 ha.2 hb.1 hb.2
    obtain ⟨r2, e3, e4, q0, q1⟩ := hT.get2 hb.1 hb.2 hc.1 hc.2
    obtain ⟨r3, e5, e6, _, _⟩ := hT.get2 p0 p1 hc.1 hc.2
    obtain ⟨r4, e7, e8, _, _⟩ := hT.get2 ha.1 ha.2 q0 q1
    rw [e1] at e7
    cases e7
    simp [tabD, atI_T ha.1 e1, oIx_rowT, atI_ints hb.1 e2, atI_T hb.1 e3, atI_ints hc.1 e4, atI_T p0 e5, atI_ints hc.1 e6, atI_ints q0 e8])
def badR (T : List (List Int)) : Bool := T.any fun r => r.length != T.length
def outT (T : List (List Int)) : Bool := T.any fun r => r.any (out1 T.length)
def outL (n : Nat) (ls : List Int) : Bool := ls.any (out1 n)
def fltS (T : List (List Int)) (ls : List Int) : D :=
  if (!decide ((1 : Int) ≤ T.length) || !decide ((T.length : Int) ≤ 4) || badR T) = true then .str "table"
  else if outT T = true then .str "table"
  else if (!decide ((1 : Int) ≤ ls.length) || !decide ((ls.length : Int) ≤ 3) || outL T.length ls) = true then .str "letters"
  else if assB T.length T = true then .non else .str "associative"
def bad1 (T : List (List Int)) : Bool := !decide ((1 : Int) ≤ T.length) || !decide ((T.length : Int) ≤ 4) || badR T
def bad3 (T : List (List Int)) (ls : List Int) : Bool := !decide ((1 : Int) ≤ ls.length) || !decide ((ls.length : Int) ≤ 3) || outL T.length ls
section
variable {T : List (List Int)} {ls : List Int}
theorem flt_1 (h : bad1 T = true) : .str "table" = fltS T ls := (if_pos h).symm
theorem flt_2 (h : bad1 T = false) (h2 : outT T = true) : .str "table" = fltS T ls := ((if_neg (fun e => absurd (h.symm.trans e) Bool.false_ne_true)).trans (if_pos h2)).symm
theorem flt_3 (h : bad1 T = false) (h2 : outT T = false) (h3 : bad3 T ls = true) : .str "letters" = fltS T ls := ((if_neg (fun e => absurd (h.symm.trans e) Bool.false_ne_true)).trans ((if_neg (fun e => absurd (h2.symm.trans e) Bool.false_ne_true)).trans (if_pos h3))).symm
theorem flt_4 (h : bad1 T = false) (h2 : outT T = false) (h3 : bad3 T ls = false) (h4 : assB T.length T = false) : .str "associative" = fltS T ls := ((if_neg (fun e => absurd (h.symm.trans e) Bool.false_ne_true)).trans ((if_neg (fun e => absurd (h2.symm.trans e) Bool.false_ne_true)).trans ((if_neg (fun e => absurd (h3.symm.trans e) Bool.false_ne_true)).trans (if_neg (fun e => absurd (h4.symm.trans e) Bool.false_ne_true))))).symm
theorem flt_5 (h : bad1 T = false) (h2 : outT T = false) (h3 : bad3 T ls = false) (h4 : assB T.length T = true) : .non = fltS T ls := ((if_neg (fun e => absurd (h.symm.trans e) Bool.false_ne_true)).trans ((if_neg (fun e => absurd (h2.symm.trans e) Bool.false_ne_true)).trans ((if_neg (fun e => absurd (h3.symm.trans e) Bool.false_ne_true)).trans (if_pos h4)))).symm
end
theorem beq_cast (a b : Nat) : ((a : Int) == (b : Int)) = (a == b) := by
  by_cases h : a = b
  · subst h; simp
  · rw [beq_eq_false_iff_ne.mpr h, beq_eq_false_iff_ne.mpr (by omega)]
theorem grid_of {T : List (List Int)} (h1 : badR T = false) (h2 : outT T = false) : Grid T.length T := by
  refine ⟨rfl, fun r hr => ⟨?_, fun x hx => ?_⟩⟩
  · have := List.any_eq_false.mp h1 r hr
    simpa [bne] using this
  · have := List.any_eq_false.mp h2 r hr
    have := List.any_eq_false.mp (by simpa using this) x hx
    simp [out1] at this
    exact ⟨this.1, this.2⟩
theorem fault_of_spec (T : List (List Int)) (ls : List Int) (μ : Mu) : m_fault_of [sgD T ls] μ = some (.ok (fltS T ls) μ) := SpQ.out (by
  refine Rn.run ?_
  simp [b_fault_of, sgD]
  have ln : oLen [tabD T] μ = some (.ok (.int T.length) μ) := by simp [tabD]
  have ln2 : oLen [intsT ls] μ = some (.ok (.int ls.length) μ) := by simp [intsT]
  have itT : any1 (some (.ok (tabD T) μ)) = some (.ok (.its (T.map rowT)) μ) := rfl
  have itl : any1 (some (.ok (intsT ls) μ)) = some (.ok (.its (ls.map D.int)) μ) := rfl
  simp [ln, chain2_p, or2_p, itT]
  rw [gens_any rowT (fun r => r.length != T.length) rfl (fun r _ => by simp [rowT, bne, beq_cast])]
  rw [show (T.any fun r => r.length != T.length) = badR T from rfl]
  simp
  refine Sk.seq_ifs (fun h1 => ?_) fun h1 => ?_
  · simp
    exact SpQ.ret rfl (flt_1 h1)
  simp [itT]
  rw [gens_run (b := outT T) (μ1 := μ) (gRun_name rowT (fun r => r.any (out1 T.length)) rfl fun r hr => by
    rw [bFor_ap]
    show Ro.bnd (some (.ok (Src.its (r.map D.int)) μ)) _ = _
    simp only [bnd_ok]
    refine gRun_name D.int _ rfl fun v hv => ?_
    simp [chain2_p, out1])]
  simp
  refine Sk.seq_ifs (fun h2 => ?_) fun h2 => ?_
  · simp
    exact SpQ.ret rfl (flt_2 h1 h2)
  simp [ln2, chain2_p, or2_p, itl]
  rw [gens_any D.int (out1 T.length) rfl (fun r _ => by simp [chain2_p, out1])]
  rw [show (ls.any (out1 (T.length : Int))) = outL T.length ls from rfl]
  simp
  refine Sk.seq_ifs (fun h3 => ?_) fun h3 => ?_
  · simp
    exact SpQ.ret rfl (flt_3 h1 h2 h3)
  have hh := h1
  simp at hh
  have g : Grid T.length T := grid_of hh.2 h2
  simp [call1_ok (is_associative_spec g (by omega) μ)]
  refine Sk.seq_ifs (fun h4 => ?_) fun h4 => ?_
  · simp
    exact SpQ.ret rfl (flt_4 h1 h2 h3 (by simpa using h4))
  · simp
    exact ⟨flt_5 h1 h2 h3 (by simpa using h4), rfl⟩)

/-! Q9a: valid semigroups pass the check. -/
theorem good_of {n : Nat} {T : List (List Int)} (h : Grid n T) (h0 : 0 < n) (h4 : n ≤ 4) : bad1 T = false ∧ outT T = false := by
  have tl := h.len
  constructor
  · have : badR T = false := by
      unfold badR
      rw [List.any_eq_false]
      intro r hr
      have := (h.row r hr).1
      simp [bne, tl, this]
    simp [bad1, this]
    omega
  · unfold outT
    rw [List.any_eq_false]
    intro r hr
    rw [Bool.not_eq_true, List.any_eq_false]
    intro x hx
    have := (h.row r hr).2 x hx
    simp [out1]
    omega
theorem assB_iff {n : Nat} {T : List (List Int)} : assB n T = true ↔ ∀ a b c : Int, 0 ≤ a → a < n → 0 ≤ b → b < n → 0 ≤ c → c < n → at2 T (at2 T a b) c = at2 T a (at2 T b c) := by
  unfold assB
  constructor
  · intro h a b c a0 a1 b0 b1 c0 c1
    have m : ∀ {x : Int}, 0 ≤ x → x < n → x ∈ iota n := fun {x} x0 x1 => by
      unfold iota
      exact List.mem_map.mpr ⟨x.toNat, List.mem_range.mpr (by omega), Int.toNat_of_nonneg x0⟩
    have := List.all_eq_true.mp (List.all_eq_true.mp (List.all_eq_true.mp h a (m a0 a1)) b (m b0 b1)) c (m c0 c1)
    simpa using this
  · intro h
    refine List.all_eq_true.mpr fun a ha => List.all_eq_true.mpr fun b hb => List.all_eq_true.mpr fun c hc => ?_
    have ha := iota_mem ha
    have hb := iota_mem hb
    have hc := iota_mem hc
    simpa using h a b c ha.1 ha.2 hb.1 hb.2 hc.1 hc.2
theorem flt_ok {n : Nat} {T : List (List Int)} {ls : List Int} (S : Sgr n T ls) : fltS T ls = .non := by
  have g := good_of S.tab.toGrid S.n0 S.n4
  have l0 := S.l0
  have l3 := S.l3
  refine (flt_5 g.1 g.2 ?_ (assB_iff.mpr ?_)).symm
  · have : outL T.length ls = false := by
      unfold outL
      rw [List.any_eq_false]
      intro x hx
      have := S.rng x hx
      have := S.tab.len
      simp [out1]
      omega
    simp [bad3, this]
    omega
  · have := S.tab.assoc
    rw [S.tab.len]
    exact this
theorem check_spec {n : Nat} {T : List (List Int)} {ls : List Int} (S : Sgr n T ls) (μ : Mu) : m_check [sgD T ls] μ = some (.ok .non μ) := SpQ.out (by
  refine Rn.run ?_
  have f := fault_of_spec T ls μ
  rw [flt_ok S] at f
  simp [b_check, call1_ok f]
  exact ⟨rfl, rfl⟩)

/-! R0: powers, as the program multiplies. -/
theorem inS_of {n : Nat} {A : List Int} (hA : Rg n A) (hs : A.Pairwise (· < ·)) : InS n A := by
  refine ⟨?_, hA⟩
  have nd : A.Nodup := hs.imp fun h e => by omega
  have := nodup_le nd (m := iota n) fun x hx => by
    have := hA x hx
    unfold iota
    exact List.mem_map.mpr ⟨x.toNat, List.mem_range.mpr (by omega), by omega⟩
  rwa [iota_len] at this
theorem oIn_T (k : Int) (xs : List Int) (μ : Mu) : oIn (.int k) (intsT xs) μ = some (.ok (.bl (decide (k ∈ xs))) μ) := by
  have h : nices 59 (xs.map D.int) = true := nices_ints 59 xs
  have e : (xs.map D.int).any (fun y => y.eqv (.int k)) = decide (k ∈ xs) := by
    rw [Bool.eq_iff_iff]
    simp
  have f : (xs.map D.int).all D.flat = true := by
    rw [List.all_eq_true]
    intro d hd
    obtain ⟨x, _, rfl⟩ := List.mem_map.mp hd
    rfl
  show (if ((D.int k).flat && (xs.map D.int).all D.flat) = true then some (Rs.ok (D.bl (false ^^ (xs.map D.int).any fun z => z.eqv (.int k))) μ) else none) = _
  rw [f, e]
  simp
  rfl
def EqQ (v : D) (μ : Mu) : D → Mu → Prop := fun d μ' => d = v ∧ μ' = μ
theorem EqQ.out {r : Ro D} {d : D} {μ : Mu} (h : Rn r (EqQ d μ)) : r = some (.ok d μ) := by
  obtain ⟨d', μ', e, rfl, rfl⟩ := h
  exact e
/-! L3: sets that are checked, reduced lengths. -/
theorem at_T {A : List Int} {j : Nat} (h : j < A.length) : atI (A.map D.int) (j : Int) = some (.int (A.getD j 0)) := atI_ok (by omega) (by
  rw [List.getElem?_map, Int.toNat_natCast, List.getD_eq_getElem?_getD, List.getElem?_eq_getElem h]
  rfl)
theorem is_value_set_spec {n : Nat} {A : List Int} (hA : Rg n A) (hs : A.Pairwise (· < ·)) (hl : A.length ≤ 1000) (μ : Mu) : m_is_value_set [.int n, intsT A] μ = some (.ok (.bl true) μ) := EqQ.out (by
  refine Rn.run ?_
  have it : any1 (some (.ok (intsT A) μ)) = some (.ok (.its (A.map D.int)) μ) := rfl
  have la : ∀ μ, oLen [intsT A] μ = some (.ok (.int A.length) μ) := fun μ => by simp [intsT]
  simp [b_is_value_set, it]
  rw [gens_any D.int (fun x => !(decide (0 ≤ x) && decide (x < (n : Int)))) rfl (fun x _ => by simp [chain2_p])]
  have e1 : (A.any fun x => !(decide (0 ≤ x) && decide (x < (n : Int)))) = false := by
    rw [List.any_eq_false]
    intro x hx
    have := hA x hx
    simp
    omega
  rw [e1]
  have hr : rOk ((A.length : Int) - 1) = true := rOk_of (by omega) (by omega)
  simp [la]
  rw [rng1_ok hr]
  rw [gens_all (fun j : Nat => D.int (0 + (j : Nat))) (xs := List.range ((A.length : Int) - 1).toNat) (fun j => decide (A.getD j 0 < A.getD (j + 1) 0)) rfl (fun j hj => by
    have hj := List.mem_range.mp hj
    have h1 : j < A.length := by omega
    have h2 : j + 1 < A.length := by omega
    have a1 := at_T h1
    have a2 := at_T h2
    rw [Int.natCast_add] at a2
    simp at a1 a2
    simp [intsT, a1, a2])]
  have e2 : ((List.range ((A.length : Int) - 1).toNat).all fun j => decide (A.getD j 0 < A.getD (j + 1) 0)) = true := by
    rw [List.all_eq_true]
    intro j hj
    have hj := List.mem_range.mp hj
    have h1 : j < A.length := by omega
    have h2 : j + 1 < A.length := by omega
    rw [List.getD_eq_getElem?_getD, List.getElem?_eq_getElem h1, List.getD_eq_getElem?_getD, List.getElem?_eq_getElem h2]
    exact decide_eq_true (List.pairwise_iff_getElem.mp hs j (j + 1) h1 h2 (by omega))
  rw [e2]
  simp
  exact ⟨rfl, rfl⟩)
theorem check_sets_spec {n : Nat} {T : List (List Int)} {ls U V : List Int} (S : Sgr n T ls) (hU : Rg n U ∧ U.Pairwise (· < ·)) (hV : Rg n V ∧ V.Pairwise (· < ·)) (μ : Mu) : m_check_sets [sgD T ls, .lst [intsT U, intsT V]] μ = some (.ok .non μ) := EqQ.out (by
  refine Rn.run ?_
  have ln : ∀ μ, oLen [tabD T] μ = some (.ok (.int n) μ) := fun μ => by simp [tabD, S.tab.toGrid.len]
  have s0 : ∀ {μ : Mu}, oIx (sgD T ls) (.int 0) μ = some (.ok (tabD T) μ) := fun {μ} => by simp [sgD, two_0]
  have n4 := S.n4
  have lU := (inS_of hU.1 hU.2).1
  have lV := (inS_of hV.1 hV.2).1
  simp [b_check_sets, call1_ok (check_spec S μ)]
  have it : any1 (some (.ok (D.lst [intsT U, intsT V]) μ)) = some (.ok (.its ([U, V].map intsT)) μ) := rfl
  rw [gens_any intsT (fun _ => false) (xs := [U, V]) rfl (fun X hX => by
    have h : m_is_value_set [.int n, intsT X] μ = some (.ok (.bl true) μ) := by
      rcases List.mem_cons.mp hX with e | e
      · subst e; exact is_value_set_spec hU.1 hU.2 (by omega) μ
      · rw [List.mem_singleton.mp e]; exact is_value_set_spec hV.1 hV.2 (by omega) μ
    simp [s0, ln, call1_ok h])]
  simp
  exact ⟨rfl, rfl⟩)
/-! X1: answers that may be exceptions. -/
def Rt (r : Ro D) (P : Rs D → Prop) : Prop := ∃ q, r = some q ∧ P q
theorem Rt.run {N : Nat} {body : Nat → Sv} {ds : List D} {μ : Mu} {P : Rs D → Prop} (h : Sk (body μ.length (ds.map some ++ List.replicate (N - ds.length) none) μ) fun fl => Rt (ends μ.length (some fl)) P) : Rt (runD N body ds μ) P := by
  obtain ⟨fl, e, h⟩ := h
  rw [runD_ap, e]
  exact h
@[simp] theorem Rt_ok (q : Rs D) (P : Rs D → Prop) : Rt (some q) P ↔ P q := ⟨fun ⟨_, e, h⟩ => by cases e; exact h, fun h => ⟨_, rfl, h⟩⟩
@[simp] theorem Go_ex {ρ : G4.Env} {μ : Mu} (I : G4.Env → Mu → Prop) (Q : Fl → Prop) (x : XD) : Go I Q (some (.ex x ρ μ)) = Q (.ex x ρ μ) := rfl
@[simp] theorem Then_ex {ρ : G4.Env} {μ : Mu} (Q : Fl → Prop) (k : Sv) (x : XD) : Then Q k (.ex x ρ μ) = Q (.ex x ρ μ) := rfl
@[simp] theorem Mid_ex {ρ : G4.Env} {μ : Mu} (I : G4.Env → Mu → Prop) (Q : Fl → Prop) (x : XD) : Mid I Q (.ex x ρ μ) = Q (.ex x ρ μ) := rfl
@[simp] theorem ends_ex0 {ρ : G4.Env} {μ : Mu} (n : Nat) (c : Str) : ends n (some (.ex ⟨c, []⟩ ρ μ)) = some (.exc ⟨c, []⟩ (μ.take n)) := rfl
@[simp] theorem drops_exc {ρ : G4.Env} {μ : Mu} (x : XD) : drops (some (.exc x μ)) ρ = some (.ex x ρ μ) := rfl
@[simp] theorem sets_exc {ρ : G4.Env} {μ : Mu} (i : Nat) (x : XD) : sets i (some (.exc x μ)) ρ = some (.ex x ρ μ) := rfl
@[simp] theorem rets_exc {ρ : G4.Env} {μ : Mu} (x : XD) : rets (some (.exc x μ)) ρ = some (.ex x ρ μ) := rfl
theorem tryAs_nx {names : List Str} {i : Nat} {body : Sv} {suite : Addr → Str → Sv} {ρ ρ' : G4.Env} {μ μ' : Mu} (h : body ρ μ = some (.nx ρ' μ')) : sTryAs names i body suite ρ μ = some (.nx ρ' μ') := by
  unfold sTryAs; rw [h]
theorem tryAs_rt {names : List Str} {i : Nat} {body : Sv} {suite : Addr → Str → Sv} {ρ : G4.Env} {μ μ' : Mu} {d : D} (h : body ρ μ = some (.rt d μ')) : sTryAs names i body suite ρ μ = some (.rt d μ') := by
  unfold sTryAs; rw [h]
theorem tryAs_ex {names : List Str} {i : Nat} {body : Sv} {suite : Addr → Str → Sv} {ρ ρ' : G4.Env} {μ μ' : Mu} {c : Str} {fl : Fl} (h : body ρ μ = some (.ex ⟨c, []⟩ ρ' μ')) (hc : c ∈ names) (hs : ∀ a, (suite a c (ρ'.set i (some (.exn a))) μ').bind (clr i) = some fl) : sTryAs names i body suite ρ μ = some fl := by
  unfold sTryAs; rw [h]
  simp only
  rw [if_pos ⟨hc, rfl⟩]
  exact suiteR_ok hs
@[simp] theorem clr_rt (i : Nat) (d : D) (μ : Mu) : clr i (.rt d μ) = some (.rt d μ) := rfl
@[simp] theorem clr_nx (i : Nat) (ρ : G4.Env) (μ : Mu) : clr i (.nx ρ μ) = some (.nx (ρ.set i none) μ) := rfl

/-! X2: comprehensions over typed items. -/
/-- any target, a test, nothing changes -/
theorem comps_gmap {α : Type} {ρ : G4.Env} {μ : Mu} {mk : List D → Mu → Ro D} {tg : Tv} {tt : Ev Bool} {te : Ev D} (e : α → D) (ρ' : α → G4.Env) (p : α → Bool) (g : α → D) {xs : List α} (hk : ∀ x ∈ xs, tg (e x) ρ μ = some (.ok (ρ' x) μ)) (ht : ∀ x ∈ xs, tt (ρ' x) μ = some (.ok (p x) μ)) (hg : ∀ x ∈ xs, p x = true → te (ρ' x) μ = some (.ok (g x) μ)) :
    comps mk (some (.ok (.its (xs.map e)) μ)) tg tt te ρ = mk ((xs.filter p).map g) μ := by
  obtain ⟨ys, μ', e', rfl, rfl⟩ := comps_rule (mk := mk) (tg := tg) (tt := tt) (te := te) (ρ := ρ) (ds := xs.map e) (μ := μ) (fun i μ' acc => μ' = μ ∧ acc = ((xs.take i).filter p).map g) ⟨rfl, by simp⟩ (by
    rintro i d μ' acc hd ⟨rfl, rfl⟩
    rw [List.getElem?_map] at hd
    cases hx : xs[i]? with
    | none => rw [hx] at hd; exact absurd hd (by simp)
    | some x =>
      rw [hx] at hd
      obtain rfl : e x = d := by simpa using hd
      have hm := List.mem_of_getElem? hx
      have tk : xs.take (i + 1) = xs.take i ++ [x] := by rw [List.take_add_one, hx]; rfl
      refine ⟨_, _, p x, _, hk x hm, ht x hm, fun hb => ⟨_, _, hg x hm hb, rfl, ?_⟩, fun hb => ⟨rfl, ?_⟩⟩
      · rw [tk, List.filter_append]
        simp [hb]
      · rw [tk, List.filter_append]
        simp [hb])
  rw [e', List.length_map, List.take_length]
/-- one name, no test -/
theorem comps_tmap {α : Type} {ρ : G4.Env} {μ : Mu} {mk : List D → Mu → Ro D} {k : Nat} {te : Ev D} (e : α → D) (g : α → D) {xs : List α} (hg : ∀ x ∈ xs, te (ρ.set k (some (e x))) μ = some (.ok (g x) μ)) :
    comps mk (some (.ok (.its (xs.map e)) μ)) (tName k) eYes te ρ = mk (xs.map g) μ := by
  have := comps_gmap (mk := mk) (tg := tName k) (tt := eYes) (te := te) (ρ := ρ) (μ := μ) e (fun x => ρ.set k (some (e x))) (fun _ => true) g (xs := xs) (fun _ _ => rfl) (fun _ _ => rfl) (fun x hx _ => hg x hx)
  rw [this, List.filter_eq_self.mpr fun _ _ => rfl]
/-- no name, any target -/
theorem comps_umap {α : Type} {ρ : G4.Env} {μ : Mu} {mk : List D → Mu → Ro D} {tg : Tv} {te : Ev D} (e : α → D) (ρ' : α → G4.Env) (g : α → D) {xs : List α} (hk : ∀ x ∈ xs, tg (e x) ρ μ = some (.ok (ρ' x) μ)) (hg : ∀ x ∈ xs, te (ρ' x) μ = some (.ok (g x) μ)) :
    comps mk (some (.ok (.its (xs.map e)) μ)) tg eYes te ρ = mk (xs.map g) μ := by
  have := comps_gmap (mk := mk) (tg := tg) (tt := eYes) (te := te) (ρ := ρ) (μ := μ) e ρ' (fun _ => true) g (xs := xs) hk (fun _ _ => rfl) (fun x hx _ => hg x hx)
  rw [this, List.filter_eq_self.mpr fun _ _ => rfl]
theorem pairs_map {α : Type} (e : α → D) (z : α) : ∀ (xs : List α) (k : Nat), pairs k (xs.map e) = (List.range xs.length).map fun j => D.tup [.int ((k + j : Nat) : Int), e (xs.getD j z)]
  | [], k => rfl
  | x :: xs, k => by
    rw [List.map_cons, pairs, pairs_map e z xs (k + 1), List.length_cons, List.range_succ_eq_map, List.map_cons, List.map_map]
    congr 1
    apply List.map_congr_left
    intro j _
    simp [Nat.add_comm, Nat.add_left_comm]
theorem pairs0 {α : Type} (e : α → D) (z : α) (xs : List α) : pairs 0 (xs.map e) = (List.range xs.length).map fun (j : Nat) => D.tup [.int (j : Int), e (xs.getD j z)] := by
  rw [pairs_map e z xs 0]
  simp
/-- any(..) over items that are taken apart -/
theorem gens_anyU {α : Type} {ρ : G4.Env} {μ : Mu} {tg : Tv} {te : Ev D} {src : Src} {xs : List α} (e : α → D) (ρ' : α → G4.Env) (f : α → Bool) (hc : src.cur μ = some (xs.map e)) (hk : ∀ x ∈ xs, tg (e x) ρ μ = some (.ok (ρ' x) μ)) (h : ∀ x ∈ xs, te (ρ' x) μ = some (.ok (.bl (f x)) μ)) :
    gens (some (.ok src μ)) tg eYes (bY true te) ρ true = some (.ok (.bl (xs.any f)) μ) := by
  have := gens_run (stop := true) (gRun_map (tg := tg) (tt := eYes) (body := bY true te) (ρ := ρ) e (fun _ => true) f hc fun x hx => ⟨ρ' x, hk x hx, rfl, fun _ => by
    show Ro.bnd _ _ = _
    rw [h x hx]
    show some (Rs.ok (f x == true) μ) = _
    simp⟩)
  rw [this]
  have e1 : (xs.any fun x => true && f x) = xs.any f := by congr 1
  rw [e1]
  cases xs.any f <;> rfl
/-- .. all(..) -/
theorem gens_allU {α : Type} {ρ : G4.Env} {μ : Mu} {tg : Tv} {te : Ev D} {src : Src} {xs : List α} (e : α → D) (ρ' : α → G4.Env) (f : α → Bool) (hc : src.cur μ = some (xs.map e)) (hk : ∀ x ∈ xs, tg (e x) ρ μ = some (.ok (ρ' x) μ)) (h : ∀ x ∈ xs, te (ρ' x) μ = some (.ok (.bl (f x)) μ)) :
    gens (some (.ok src μ)) tg eYes (bY false te) ρ false = some (.ok (.bl (xs.all f)) μ) := by
  have := gens_run (stop := false) (gRun_map (tg := tg) (tt := eYes) (body := bY false te) (ρ := ρ) e (fun _ => true) (fun x => !f x) hc fun x hx => ⟨ρ' x, hk x hx, rfl, fun _ => by
    show Ro.bnd _ _ = _
    rw [h x hx]
    show some (Rs.ok (f x == false) μ) = _
    cases f x <;> rfl⟩)
  rw [this]
  have e1 : (xs.any fun x => true && !f x) = !(xs.all f) := by
    rw [List.not_all_eq_any_not]
    congr 1
  rw [e1]
  cases xs.all f <;> rfl

/-! X3: data is equal to itself; nice data of whole numbers. -/
mutual
theorem eqv_self : ∀ d : D, d.pure = true → d.eqv d = true
  | .non, _ => rfl
  | .bl b, _ => by cases b <;> rfl
  | .int i, _ => by show (i == i) = true; simp
  | .str x, _ => by show (x == x) = true; simp
  | .tup xs, h => eqvs_self xs (by simpa [D.pure] using h)
  | .lst xs, h => eqvs_self xs (by simpa [D.pure] using h)
  | .scr xs, h => eqvs_self xs (by simpa [D.pure] using h)
  | .cell _, h => by simp [D.pure] at h
  | .exn _, h => by simp [D.pure] at h
theorem eqvs_self : ∀ ds : List D, pures ds = true → PyData.eqvAll (pys ds) (pys ds) = true
  | [], _ => rfl
  | d :: ds, h => by
    simp only [pures, Bool.and_eq_true] at h
    have h1 := eqv_self d h.1
    have h2 := eqvs_self ds h.2
    simp only [D.eqv] at h1
    simp only [pys, PyData.eqvAll, h1, h2, Bool.and_self]
end
theorem val_pure {d : D} (h : d.pure = true) (μ : Mu) : val μ d = d := by cases d <;> first | rfl | simp [D.pure] at h
theorem oNe_self {d : D} (h : d.nice 60 = true) (μ : Mu) : oNe d d μ = some (.ok (.bl false) μ) := by
  have hp := (nice_py h).1
  rw [oNe_ok (by rw [val_pure hp]; exact h) (by rw [val_pure hp]; exact h), val_pure hp, eqv_self d hp]
  rfl
theorem oEq_self {d : D} (h : d.nice 60 = true) (μ : Mu) : oEq d d μ = some (.ok (.bl true) μ) := by
  have hp := (nice_py h).1
  rw [oEq_ok (by rw [val_pure hp]; exact h) (by rw [val_pure hp]; exact h), val_pure hp, eqv_self d hp]
theorem nice_intsT (n : Nat) (ls : List Int) : (intsT ls).nice (n + 1) = true := nices_ints n ls
theorem nice_intsL (n : Nat) (ls : List Int) : (intsL ls).nice (n + 1) = true := nices_ints n ls
theorem nice_rowT (n : Nat) (ls : List Int) : (rowT ls).nice (n + 1) = true := nices_ints n ls
theorem nice_map {α : Type} {n : Nat} {e : α → D} (h : ∀ x, (e x).nice n = true) (xs : List α) : nices n (xs.map e) = true := by
  rw [nices_iff]
  intro d hd
  obtain ⟨x, _, rfl⟩ := List.mem_map.mp hd
  exact h x
theorem nice_tabD (n : Nat) (T : List (List Int)) : (tabD T).nice (n + 2) = true := nice_map (fun r => nice_rowT n r) T
theorem nice_sgD (n : Nat) (T : List (List Int)) (ls : List Int) : (sgD T ls).nice (n + 3) = true := by
  show nices (n + 2) [tabD T, intsT ls] = true
  simp only [nices, nice_tabD, nice_intsT, Bool.and_self]

/-! EDa: words_below; list comprehensions with two fors. -/
theorem comp2_map {α β : Type} {f fi : Ev Src} {fe : Ev D} {ρ : G4.Env} {μ : Mu} {i j : Nat} {vs vs1 : List Nat} (e : α → D) (e1 : β → D) (xs : List α) (ys : α → List β) (g : α → β → D)
    (hf : f ρ μ = some (.ok (.its (xs.map e)) μ)) (hi : ∀ x ∈ xs, fi ((wipeE ρ vs).set i (some (e x))) μ = some (.ok (.its ((ys x).map e1)) μ))
    (he : ∀ x ∈ xs, ∀ y ∈ ys x, fe ((wipeE ((wipeE ρ vs).set i (some (e x))) vs1).set j (some (e1 y))) μ = some (.ok (g x y) μ)) :
    eComp2 f (tName i) eYes fi (tName j) eYes fe vs vs1 ρ μ = newL (xs.flatMap fun x => (ys x).map (g x)) μ := by
  have inner : ∀ (ρ2 : G4.Env) (h : β → D) (zs : List β), (∀ y ∈ zs, fe (ρ2.set j (some (e1 y))) μ = some (.ok (h y) μ)) → compL (tName j) eYes fe ρ2 (zs.map e1) μ = some (.ok (zs.map h) μ) := by
    intro ρ2 h zs
    induction zs with
    | nil => intro _; rfl
    | cons y zs ih =>
      intro hz
      have e1' := hz y (List.mem_cons_self ..)
      have e2 := ih fun z hz' => hz z (List.mem_cons_of_mem _ hz')
      show stepC (tName j) eYes fe ρ2 (e1 y) μ (compL (tName j) eYes fe ρ2 (zs.map e1)) = _
      unfold stepC
      have et : tName j (e1 y) ρ2 μ = some (.ok (ρ2.set j (some (e1 y))) μ) := rfl
      simp only [et, eYes, e1', e2]
      rfl
  have outer : ∀ zs : List α, (∀ x ∈ zs, x ∈ xs) → compL2 (tName i) eYes fi (tName j) eYes fe vs1 (wipeE ρ vs) (zs.map e) μ = some (.ok (zs.flatMap fun x => (ys x).map (g x)) μ) := by
    intro zs
    induction zs with
    | nil => intro _; rfl
    | cons x zs ih =>
      intro hz
      have hx := hz x (List.mem_cons_self ..)
      have e2 := ih fun z hz' => hz z (List.mem_cons_of_mem _ hz')
      have e3 := inner _ (g x) (ys x) (he x hx)
      have e4 := hi x hx
      show stepC2 (tName i) eYes fi (tName j) eYes fe vs1 (wipeE ρ vs) (e x) μ (compL2 (tName i) eYes fi (tName j) eYes fe vs1 (wipeE ρ vs) (zs.map e)) = _
      unfold stepC2
      have et : tName i (e x) (wipeE ρ vs) μ = some (.ok ((wipeE ρ vs).set i (some (e x))) μ) := rfl
      simp only [et, eYes, e4, e3, e2]
      rfl
  show (f ρ μ).bnd _ = _
  rw [hf]
  show (match compL2 (tName i) eYes fi (tName j) eYes fe vs1 (wipeE ρ vs) (xs.map e) μ with | some (.ok ys μ2) => newL ys μ2 | _ => none) = _
  rw [outer xs fun _ h => h]
def wb (q s : Nat) : List (List Int) := (List.range s).flatMap (lev q)
theorem wb_succ (q s : Nat) : wb q (s + 1) = wb q s ++ lev q s := by simp [wb, List.range_succ, List.flatMap_append]
theorem pow_le3 {q : Nat} (hq : q ≤ 3) : ∀ k, q ^ k ≤ 3 ^ k := fun k => Nat.pow_le_pow_left hq k
theorem wb_len {q : Nat} (hq : q ≤ 3) : ∀ s, (wb q s).length ≤ 3 ^ s
  | 0 => by simp [wb]
  | s + 1 => by
    have := wb_len hq s
    have h2 := pow_le3 hq s
    rw [wb_succ, List.length_append, lev_len, Nat.pow_succ]
    omega
theorem lev_step (q k : Nat) : lev q (k + 1) = (lev q k).flatMap fun w => (List.range q).map fun (c : Nat) => w ++ [(c : Int)] := rfl
def WbI (q s : Nat) (μ : Mu) : Nat → G4.Env → Mu → Prop := fun i ρ μ' => ∃ z, ρ = [some (.int q), some (.int s), some (.lst ((wb q (i + 1)).map wdD)), some (.lst ((lev q i).map wdD)), z, none, none] ∧ μ' = μ
theorem words_below_spec {q s : Nat} (hq : q ≤ 3) (hs : s ≤ 7) (μ : Mu) : m_words_below [.int q, .int s] μ = some (.ok (.lst ((wb q s).map wdD)) μ) := EqQ.out (by
  refine Rn.run ?_
  have hr : rOk ((s : Int) - 1) = true := rOk_of (by omega) (by omega)
  have hrq : rOk (q : Int) = true := rOk_of (by omega) (by omega)
  have l0 : newL [D.lst []] μ = some (.ok (.lst [D.lst []]) μ) := newL_ok (by simp)
  simp [b_words_below, l0]
  rw [rng1_ok hr]
  simp only [fors_its]
  refine Sk.seq_loop (WbI q s μ) ⟨none, by simp [wb, lev, wdD], rfl⟩ ?_ ?_
  · rintro i d ρ μ' hd ⟨z, rfl, rfl⟩
    obtain ⟨hi, rfl⟩ := rng_get hd
    rw [turn1_name]
    refine Go.of ?_
    have p3 : (3 : Nat) ^ (i + 1) ≤ 3 ^ 7 := Nat.pow_le_pow_right (by decide) (by omega)
    have p4 : (3 : Nat) ^ 7 = 2187 := by decide
    have ll : (lev q (i + 1)).length ≤ 3 ^ (i + 1) := by rw [lev_len]; exact pow_le3 hq _
    have wl := wb_len hq (i + 1)
    have e := comp2_map (f := iAnyD (eVar 3)) (fi := iRg1 (aCons (eVar 0) aNil)) (fe := eOp oPlus (eVar 5) (eLst (aCons (eVar 6) aNil))) (ρ := [some (.int q), some (.int s), some (.lst ((wb q (i + 1)).map wdD)), some (.lst ((lev q i).map wdD)), some (.int (i : Int)), none, none]) (μ := μ') (i := 5) (j := 6) (vs := [5, 6]) (vs1 := [6]) wdD (fun c : Nat => D.int (c : Int)) (lev q i) (fun _ => List.range q) (fun w c => wdD (w ++ [(c : Int)]))
      (by simp) (fun w hw => by simp; rw [rng1_ok hrq]; simp [rngD]) (fun w hw c hc => by
        have hwl := ((lev_mem i).mp hw).1
        have n1 : newL [D.int (c : Int)] μ' = some (.ok (.lst [D.int (c : Int)]) μ') := newL_ok (by simp)
        simp [wdD, n1]
        rw [newL_ok (by simp; omega)])
    have fm : ((lev q i).flatMap fun w => (List.range q).map fun (c : Nat) => wdD (w ++ [(c : Int)])) = (lev q (i + 1)).map wdD := by
      rw [lev_step, List.map_flatMap]
      simp [Function.comp_def]
    rw [fm, newL_ok (by rw [List.length_map]; omega)] at e
    simp [e]
    have w2 := wb_len hq (i + 1 + 1)
    have p5 : (3 : Nat) ^ (i + 1 + 1) ≤ 3 ^ 8 := Nat.pow_le_pow_right (by decide) (by omega)
    have p6 : (3 : Nat) ^ 8 = 6561 := by decide
    rw [← List.map_append, ← wb_succ, newL_ok (by rw [List.length_map]; omega)]
    simp
    exact ⟨_, rfl, rfl⟩
  · rintro ρ μ' ⟨z, rfl, rfl⟩
    rw [rngD_length]
    by_cases h : 0 < s
    · have e1 : ((s : Int) - 1).toNat + 1 = s := by omega
      rw [e1]
      have e2 : decide ((s : Int) > 0) = true := by simp; omega
      simp [h]
      have hp : (D.lst ((wb q s).map wdD)).pure = true := by simpa [D.pure] using pures_W (wb q s)
      rw [leave_pure hp]
      simp
      exact ⟨rfl, rfl⟩
    · obtain rfl : s = 0 := by omega
      simp
      have hp : (D.lst []).pure = true := rfl
      rw [leave_pure hp]
      simp
      exact ⟨by simp [wb], rfl⟩)

/-! EDb: ends_of. -/
section
variable {n : Nat} {T : List (List Int)} {ls : List Int}
def pD (p : List Int × List Int) : D := .tup [intsT p.1, intsT p.2]
def okA (T : List (List Int)) (ls U : List Int) (s : Nat) (w : List Int) : Bool := decide (max s 1 ≤ w.length) && decide (vw T ls w ∈ U)
def cutP (s : Nat) (w : List Int) : List Int × List Int := (w.take s, w.drop (w.length - s))
def endsA (T : List (List Int)) (ls U : List Int) (s : Nat) : List (List Int × List Int) := ((wb ls.length (2 * s)).filter (okA T ls U s)).map (cutP s)
def midW (T : List (List Int)) (ls : List Int) : List (List Int) := [] :: (fk T ls 4).map Prod.snd
def hds (q s : Nat) : List (List Int) := (wb q (s + 1)).filter fun w => decide (w.length = s)
def hitM (T : List (List Int)) (ls U : List Int) (h t : List Int) : Bool := (midW T ls).any fun m => !(h ++ m ++ t).isEmpty && decide (vw T ls (h ++ m ++ t) ∈ U)
def rowB (T : List (List Int)) (ls U : List Int) (H : List (List Int)) (h : List Int) : List (List Int × List Int) := (H.filter (hitM T ls U h)).map fun t => (h, t)
def endsB (T : List (List Int)) (ls U : List Int) (s : Nat) : List (List Int × List Int) := (hds ls.length s).flatMap (rowB T ls U (hds ls.length s))
def endsL (T : List (List Int)) (ls U : List Int) (s : Nat) : List (List Int × List Int) := endsA T ls U s ++ endsB T ls U s
theorem mem_wb {q s : Nat} {w : List Int} : w ∈ wb q s ↔ w.length < s ∧ InW q w := by
  unfold wb
  rw [List.mem_flatMap]
  constructor
  · rintro ⟨k, hk, hw⟩
    have := (lev_mem k).mp hw
    have hk := List.mem_range.mp hk
    exact ⟨by omega, this.2⟩
  · rintro ⟨h1, h2⟩
    exact ⟨w.length, List.mem_range.mpr h1, (lev_mem _).mpr ⟨rfl, h2⟩⟩
theorem mem_hds {q s : Nat} {w : List Int} : w ∈ hds q s ↔ w.length = s ∧ InW q w := by
  unfold hds
  rw [List.mem_filter, mem_wb, decide_eq_true_eq]
  constructor
  · rintro ⟨⟨_, h2⟩, h3⟩; exact ⟨h3, h2⟩
  · rintro ⟨h3, h2⟩; exact ⟨⟨by omega, h2⟩, h3⟩
theorem fk_word {p : Int × List Int} (h : p ∈ fk T ls 4) : p.2 ≠ [] ∧ InW ls.length p.2 ∧ p.2.length ≤ 4 ∧ p.1 = vw T ls p.2 := by
  obtain ⟨i, hi, hl, e⟩ := fk_mem 4 p h
  have hm := (lev_mem (i + 1)).mp hl
  exact ⟨fun z => (by rw [z] at hm; simp at hm), hm.2, by omega, e⟩
theorem mem_midW {m : List Int} (h : m ∈ midW T ls) : InW ls.length m ∧ m.length ≤ 4 := by
  rcases List.mem_cons.mp h with z | z
  · subst z; exact ⟨fun x hx => (by simp at hx), by simp⟩
  · obtain ⟨p, hp, rfl⟩ := List.mem_map.mp z
    have := fk_word hp
    exact ⟨this.2.1, this.2.2.1⟩
theorem InW.app {q : Nat} {a b : List Int} (ha : InW q a) (hb : InW q b) : InW q (a ++ b) := fun x hx => (List.mem_append.mp hx).elim (ha x) (hb x)
theorem hds_lev (q s : Nat) : hds q s = lev q s := by
  unfold hds
  rw [wb_succ, List.filter_append]
  have e1 : (wb q s).filter (fun w => decide (w.length = s)) = [] := by
    rw [List.filter_eq_nil_iff]
    intro w hw
    have := (mem_wb.mp hw).1
    simp
    omega
  have e2 : (lev q s).filter (fun w => decide (w.length = s)) = lev q s := by
    rw [List.filter_eq_self]
    intro w hw
    have := ((lev_mem s).mp hw).1
    simpa using this
  rw [e1, e2, List.nil_append]
theorem endsL_len {U : List Int} {s : Nat} (hq : ls.length ≤ 3) (hs : s ≤ 3) : (endsL T ls U s).length ≤ 1200 := by
  unfold endsL
  rw [List.length_append]
  have a : (endsA T ls U s).length ≤ 3 ^ (2 * s) := by
    unfold endsA
    rw [List.length_map]
    exact Nat.le_trans (List.length_filter_le _ _) (wb_len hq _)
  have a2 : (endsA T ls U s).length ≤ 400 := by
    have p6 : (wb ls.length (2 * s)).length ≤ 364 := by
      have e : ∀ k, k ≤ 6 → 2 * (wb ls.length k).length + 1 ≤ 3 ^ k := by
        intro k hk
        induction k with
        | zero => simp [wb]
        | succ k ih =>
          have := ih (by omega)
          have h2 := pow_le3 hq k
          rw [wb_succ, List.length_append, lev_len, Nat.pow_succ]
          omega
      have := e (2 * s) (by omega)
      have p7 : (3 : Nat) ^ (2 * s) ≤ 3 ^ 6 := Nat.pow_le_pow_right (by decide) (by omega)
      have p8 : (3 : Nat) ^ 6 = 729 := by decide
      omega
    unfold endsA
    rw [List.length_map]
    have := List.length_filter_le (okA T ls U s) (wb ls.length (2 * s))
    omega
  have hl : (hds ls.length s).length ≤ 27 := by
    rw [hds_lev, lev_len]
    have h2 := pow_le3 hq s
    have p7 : (3 : Nat) ^ s ≤ 3 ^ 3 := Nat.pow_le_pow_right (by decide) hs
    omega
  have b : (endsB T ls U s).length ≤ 27 * 27 := by
    unfold endsB
    generalize hds ls.length s = H at hl
    have g : ∀ R : List (List Int), (R.flatMap (rowB T ls U H)).length ≤ R.length * 27 := by
      intro R
      induction R with
      | nil => simp
      | cons h R ih =>
        rw [List.flatMap_cons, List.length_append, List.length_cons]
        have : (rowB T ls U H h).length ≤ 27 := by
          unfold rowB
          rw [List.length_map]
          exact Nat.le_trans (List.length_filter_le _ _) hl
        omega
    have := g H
    have : H.length * 27 ≤ 27 * 27 := Nat.mul_le_mul_right _ hl
    omega
  omega
/-! the walk -/
def EA1 (T : List (List Int)) (ls U : List Int) (s : Nat) (μ : Mu) : Nat → G4.Env → Mu → Prop := fun i ρ μ' => ∃ z5, ρ = [some (sgD T ls), some (intsT U), some (.int s), some (.int ls.length), some (.cell μ.length), z5, none, none, none, none, none, none] ∧
  μ' = μ ++ [some (.lst (((((wb ls.length (2 * s)).take i).filter (okA T ls U s)).map (cutP s)).map pD))]
def EA2 (T : List (List Int)) (ls U : List Int) (s : Nat) (z5 : Option D) (μ : Mu) : Nat → G4.Env → Mu → Prop := fun i ρ μ' => ∃ z8 z9, ρ = [some (sgD T ls), some (intsT U), some (.int s), some (.int ls.length), some (.cell μ.length), z5, some (.lst ((midW T ls).map wdD)), some (.lst ((hds ls.length s).map wdD)), z8, z9, none, none] ∧
  μ' = μ ++ [some (.lst ((endsA T ls U s ++ ((hds ls.length s).take i).flatMap (rowB T ls U (hds ls.length s))).map pD))]
def EA3 (T : List (List Int)) (ls U : List Int) (s : Nat) (z5 : Option D) (P : List (List Int × List Int)) (h : List Int) (μ : Mu) : Nat → G4.Env → Mu → Prop := fun i ρ μ' => ∃ z9, ρ = [some (sgD T ls), some (intsT U), some (.int s), some (.int ls.length), some (.cell μ.length), z5, some (.lst ((midW T ls).map wdD)), some (.lst ((hds ls.length s).map wdD)), some (wdD h), z9, none, none] ∧
  μ' = μ ++ [some (.lst ((P ++ rowB T ls U ((hds ls.length s).take i) h).map pD))]
theorem take_snoc {α : Type} {l : List α} {i : Nat} {x : α} (h : l[i]? = some x) : l.take (i + 1) = l.take i ++ [x] := by rw [List.take_add_one, h]; rfl
theorem pure_pD (p : List Int × List Int) : (pD p).pure = true := by simp [pD, D.pure, pures, pure_intsT]
theorem pures_pD (P : List (List Int × List Int)) : pures (P.map pD) = true := by
  rw [pures_iff]
  intro d hd
  obtain ⟨p, _, rfl⟩ := List.mem_map.mp hd
  exact pure_pD p
end

/-! EDc: ends_of, the walk. -/
theorem gens_anyT {α : Type} {ρ : G4.Env} {μ : Mu} {tg : Tv} {tt : Ev Bool} {te : Ev D} {src : Src} {xs : List α} (e : α → D) (ρ' : α → G4.Env) (p f : α → Bool) (hc : src.cur μ = some (xs.map e)) (hk : ∀ x ∈ xs, tg (e x) ρ μ = some (.ok (ρ' x) μ)) (ht : ∀ x ∈ xs, tt (ρ' x) μ = some (.ok (p x) μ))
    (h : ∀ x ∈ xs, p x = true → te (ρ' x) μ = some (.ok (.bl (f x)) μ)) :
    gens (some (.ok src μ)) tg tt (bY true te) ρ true = some (.ok (.bl (xs.any fun x => p x && f x)) μ) := by
  have := gens_run (stop := true) (gRun_map (tg := tg) (tt := tt) (body := bY true te) (ρ := ρ) e p f hc fun x hx => ⟨ρ' x, hk x hx, ht x hx, fun hp => by
    show Ro.bnd _ _ = _
    rw [h x hx hp]
    show some (Rs.ok (f x == true) μ) = _
    simp⟩)
  rw [this]
  cases xs.any fun x => p x && f x <;> rfl
theorem push_ok {k : Mu → Ro (List D)} {X : List D} {d : D} (μ : Mu) (e : k (μ ++ [some (.lst X)]) = some (.ok [d] (μ ++ [some (.lst X)]))) (h : X.length < 16777216) :
    mt1 (oAppend μ.length) (some (.ok (.cell μ.length) (μ ++ [some (.lst X)]))) k = some (.ok .non (μ ++ [some (.lst (X ++ [d]))])) := by
  have gl := get_last μ (some (M.lst X))
  rw [mt1_ok gl e gl, oAppend_ok h (by simp), set_last]
theorem len_take {α : Type} (l : List α) (i : Nat) : (l.take i).length ≤ l.length := by rw [List.length_take]; omega
section
variable {n : Nat} {T : List (List Int)} {ls : List Int}
theorem hit_ok (S : Sgr n T ls) {U h t : List Int} (hh : InW ls.length h ∧ h.length ≤ 1000) (ht : InW ls.length t ∧ t.length ≤ 1000) {ρ : G4.Env} {μ : Mu} (r0 : ρ[0]? = some (some (sgD T ls))) (r1 : ρ[1]? = some (some (intsT U))) (r6 : ρ[6]? = some (some (.lst ((midW T ls).map wdD)))) (r8 : ρ[8]? = some (some (wdD h))) (r9 : ρ[9]? = some (some (wdD t))) (rl : ρ.length = 12) :
    eGen (iAnyD (eVar 6)) (tName 11) (eTru (eOp oPlus (eOp oPlus (eVar 8) (eVar 11)) (eVar 9))) (bY true (eOp oIn (eCall m_value_of (aCons (eVar 0) (aCons (eOp oPlus (eOp oPlus (eVar 8) (eVar 11)) (eVar 9)) aNil))) (eVar 1))) [11] true ρ μ = some (.ok (.bl (hitM T ls U h t)) μ) := by
  simp only [eGen_ap]
  have i1 : iAnyD (eVar 6) ρ μ = some (.ok (.its ((midW T ls).map wdD)) μ) := by simp [iAnyD, eVar, r6, srcOf]
  rw [i1]
  have w0 : (wipeE ρ [11])[0]? = some (some (sgD T ls)) := by simp [wipeE, List.getElem?_set, r0]
  have w1 : (wipeE ρ [11])[1]? = some (some (intsT U)) := by simp [wipeE, List.getElem?_set, r1]
  have w8 : (wipeE ρ [11])[8]? = some (some (wdD h)) := by simp [wipeE, List.getElem?_set, r8]
  have w9 : (wipeE ρ [11])[9]? = some (some (wdD t)) := by simp [wipeE, List.getElem?_set, r9]
  have wl : (wipeE ρ [11]).length = 12 := by rw [wipeE_length]; exact rl
  generalize wipeE ρ [11] = ρ1 at w0 w1 w8 w9 wl
  have pl : ∀ m ∈ midW T ls, ∀ μ, eOp oPlus (eOp oPlus (eVar 8) (eVar 11)) (eVar 9) (ρ1.set 11 (some (wdD m))) μ = some (.ok (wdD (h ++ m ++ t)) μ) := fun m hm μ => by
    have z8 : (ρ1.set 11 (some (wdD m)))[8]? = some (some (wdD h)) := by rw [List.getElem?_set_ne (by decide)]; exact w8
    have z9 : (ρ1.set 11 (some (wdD m)))[9]? = some (some (wdD t)) := by rw [List.getElem?_set_ne (by decide)]; exact w9
    have z11 : (ρ1.set 11 (some (wdD m)))[11]? = some (some (wdD m)) := List.getElem?_set_self (by omega)
    have lm := (mem_midW hm).2
    have p1 : ∀ a b : List Int, a.length + b.length ≤ 10000 → ∀ μ, oPlus (wdD a) (wdD b) μ = some (.ok (wdD (a ++ b)) μ) := fun a b hab μ => by
      simp only [wdD, oPlus_lst]
      rw [newL_ok (by simp; omega), List.map_append]
    have l1 := hh.2
    have l2 := ht.2
    simp [z8, z9, z11, p1 h m (by omega), p1 (h ++ m) t (by simp; omega)]
  rw [gens_anyT wdD (fun m => ρ1.set 11 (some (wdD m))) (fun m => !(h ++ m ++ t).isEmpty) (fun m => decide (vw T ls (h ++ m ++ t) ∈ U)) (xs := midW T ls) rfl (fun m _ => rfl) (fun m hm => by
    have := pl m hm μ
    simp only [eTru_ap, this]
    generalize h ++ m ++ t = w
    cases w <;> rfl) (fun m hm hp => by
    have z0 : (ρ1.set 11 (some (wdD m)))[0]? = some (some (sgD T ls)) := by rw [List.getElem?_set_ne (by decide)]; exact w0
    have z1 : (ρ1.set 11 (some (wdD m)))[1]? = some (some (intsT U)) := by rw [List.getElem?_set_ne (by decide)]; exact w1
    have e1 := pl m hm
    have hne : h ++ m ++ t ≠ [] := fun z => by rw [z] at hp; simp at hp
    have e2 := value_of_spec S ((hh.1.app (mem_midW hm).1).app ht.1) μ
    rw [vw_some hne] at e2
    have e2 : m_value_of [sgD T ls, wdD (h ++ m ++ t)] μ = some (.ok (.int (vw T ls (h ++ m ++ t))) μ) := e2
    generalize h ++ m ++ t = w at *
    generalize eOp oPlus (eOp oPlus (eVar 8) (eVar 11)) (eVar 9) = E at *
    simp [z0, z1, e1, call1_ok e2, oIn_T])]
  rfl
theorem ends_of_spec (S : Sgr n T ls) {s : Nat} (hs : s ≤ 3) (U : List Int) (μ : Mu) : m_ends_of [sgD T ls, intsT U, .int s] μ = some (.ok (.lst ((endsL T ls U s).map pD)) μ) := EqQ.out (by
  refine Rn.run ?_
  have l3 := S.l3
  have s1 : ∀ {μ : Mu}, oIx (sgD T ls) (.int 1) μ = some (.ok (intsT ls) μ) := fun {_} => rfl
  have ln : ∀ μ, oLen [intsT ls] μ = some (.ok (.int ls.length) μ) := fun μ => by simp [intsT]
  have c2 : cMul 2 (s : Int) = true := cMul_l (by decide) (by decide)
  have w1 : ∀ μ, m_words_below [.int ls.length, .int (2 * (s : Int))] μ = some (.ok (.lst ((wb ls.length (2 * s)).map wdD)) μ) := fun μ => by
    have := words_below_spec (q := ls.length) (s := 2 * s) l3 (by omega) μ
    simpa using this
  have w2 : ∀ μ, m_words_below [.int ls.length, .int ((s : Int) + 1)] μ = some (.ok (.lst ((wb ls.length (s + 1)).map wdD)) μ) := fun μ => by
    have := words_below_spec (q := ls.length) (s := s + 1) l3 (by omega) μ
    simpa using this
  have L1200 := endsL_len (T := T) (ls := ls) (U := U) (s := s) l3 hs
  have nA : newC [] μ = some (.ok (.cell μ.length) (μ ++ [some (.lst [])])) := newC_ok (by simp)
  simp [b_ends_of, s1, ln, c2, nA, call1_ok (w1 _)]
  have vl : ∀ {w : List Int}, w ≠ [] → InW ls.length w → ∀ μ, m_value_of [sgD T ls, wdD w] μ = some (.ok (.int (vw T ls w)) μ) := fun {w} hne hw μ => by
    have := value_of_spec S hw μ
    rw [vw_some hne] at this
    exact this
  refine Sk.seq_loop (EA1 T ls U s μ) ⟨none, by simp, by simp⟩ ?_ ?_
  · rintro i d ρ μ' hd ⟨z5, rfl, rfl⟩
    rw [turn1_name]
    refine Go.of ?_
    rw [List.getElem?_map] at hd
    obtain ⟨w, hw, rfl⟩ := Option.map_eq_some_iff.1 hd
    have hm := mem_wb.mp (List.mem_of_getElem? hw)
    have tk := take_snoc hw
    have lw : ∀ μ, oLen [wdD w] μ = some (.ok (.int w.length) μ) := fun μ => by simp [wdD]
    generalize hX : ((((wb ls.length (2 * s)).take i).filter (okA T ls U s)).map (cutP s)).map pD = X
    have gl := get_last μ (some (M.lst X))
    have lX : X.length ≤ 2000 := by
      rw [← hX, List.length_map, List.length_map]
      have h1 := List.length_filter_le (okA T ls U s) ((wb ls.length (2 * s)).take i)
      have h2 := len_take (wb ls.length (2 * s)) i
      have h3 := wb_len l3 (2 * s)
      have p7 : (3 : Nat) ^ (2 * s) ≤ 3 ^ 6 := Nat.pow_le_pow_right (by decide) (by omega)
      have p8 : (3 : Nat) ^ 6 = 729 := by decide
      omega
    have stay : okA T ls U s w = false → EA1 T ls U s μ (i + 1) [some (sgD T ls), some (intsT U), some (.int s), some (.int ls.length), some (.cell μ.length), some (wdD w), none, none, none, none, none, none] (μ ++ [some (.lst X)]) := fun ok =>
      ⟨_, rfl, by rw [tk, List.filter_append, List.filter_cons_of_neg (by rw [ok]; decide), List.filter_nil, List.append_nil, hX]⟩
    by_cases h1 : max s 1 ≤ w.length
    · have hne : w ≠ [] := fun z => by rw [z] at h1; simp at h1
      have v1 := vl hne hm.2
      have g1 : (if (s : Int) < 1 then (1 : Int) else (s : Int)) ≤ (w.length : Int) := by split <;> omega
      by_cases h2 : vw T ls w ∈ U
      · have ok : okA T ls U s w = true := by simp [okA, h1, h2]
        have sub : (w.length : Int) - (s : Int) = ((w.length - s : Nat) : Int) := by omega
        have ct := cut_to (w.map D.int) (i := (s : Int)) (by omega)
        have cf := cut_from (w.map D.int) (i := ((w.length - s : Nat) : Int)) (by omega)
        rw [Int.toNat_natCast] at ct cf
        simp [lw, g1, call1_ok (v1 _), oIn_T, h2]
        rw [push_ok μ (d := pD (cutP s w)) (by
          simp only [wdD] at lw
          simp [wdD, ct, lw, sub, cf]
          simp [pD, cutP, intsT, List.map_take, List.map_drop]) (by omega)]
        simp
        refine ⟨_, rfl, ?_⟩
        rw [tk, List.filter_append, List.filter_cons_of_pos ok, List.filter_nil, List.map_append, List.map_append, hX]
        rfl
      · have ok : okA T ls U s w = false := by simp [okA, h2]
        simp [lw, g1, call1_ok (v1 _), oIn_T, h2]
        exact stay ok
    · have ok : okA T ls U s w = false := by simp [okA, h1]
      have g1 : ¬ ((if (s : Int) < 1 then (1 : Int) else (s : Int)) ≤ (w.length : Int)) := by split <;> omega
      simp [lw, g1]
      exact stay ok
  · rintro ρ μ' ⟨z5, rfl, rfl⟩
    rw [List.length_map, List.take_length]
    have eA : ((wb ls.length (2 * s)).filter (okA T ls U s)).map (cutP s) = endsA T ls U s := rfl
    rw [eA]
    have fw := first_words_spec S
    have l0 : ∀ μ, newL [D.lst []] μ = some (.ok (.lst [D.lst []]) μ) := fun μ => newL_ok (by simp)
    have flen := fk_len S 4
    have n4 := S.n4
    simp [call1_ok (fw _), l0]
    rw [comps_gmap fwD (fun p => [some (sgD T ls), some (intsT U), some (.int s), some (.int ls.length), some (.cell μ.length), some (wdD p.2), none, none, none, none, some (.int p.1), none]) (fun _ => true) (fun p => wdD p.2) (fun p _ => rfl) (fun _ _ => rfl) (fun p _ _ => rfl), List.filter_eq_self.mpr (fun _ _ => rfl), newL_ok (by rw [List.length_map]; omega)]
    simp
    have em : D.lst [] :: (fk T ls 4).map (fun p => wdD p.2) = (midW T ls).map wdD := by simp [midW, wdD, Function.comp_def]
    rw [em, newL_ok (by simp [midW]; omega)]
    have wl3 := wb_len l3 (s + 1)
    have p7 : (3 : Nat) ^ (s + 1) ≤ 3 ^ 4 := Nat.pow_le_pow_right (by decide) (by omega)
    have p8 : (3 : Nat) ^ 4 = 81 := by decide
    have hdl := List.length_filter_le (fun w : List Int => decide (w.length = s)) (wb ls.length (s + 1))
    simp [call1_ok (w2 _)]
    rw [comps_gmap wdD (fun w => [some (sgD T ls), some (intsT U), some (.int s), some (.int ls.length), some (.cell μ.length), some (wdD w), some (.lst ((midW T ls).map wdD)), none, none, none, none, none]) (fun w => decide (w.length = s)) wdD (fun w _ => rfl) (fun w _ => by
      have lw : ∀ μ, oLen [wdD w] μ = some (.ok (.int w.length) μ) := fun μ => by simp [wdD]
      simp [lw]
      rw [Bool.eq_iff_iff]
      simp
      omega) (fun w _ _ => rfl), newL_ok (by rw [List.length_map]; omega)]
    have eh : (wb ls.length (s + 1)).filter (fun w => decide (w.length = s)) = hds ls.length s := rfl
    rw [eh] at hdl ⊢
    have mh : ∀ h ∈ hds ls.length s, InW ls.length h ∧ h.length ≤ 1000 := fun h hh => by
      have := mem_hds.mp hh
      exact ⟨this.2, by omega⟩
    have EL : endsA T ls U s ++ (hds ls.length s).flatMap (rowB T ls U (hds ls.length s)) = endsL T ls U s := rfl
    have bound : ∀ (i j : Nat) (h : List Int), (hds ls.length s)[i]? = some h → ((endsA T ls U s ++ ((hds ls.length s).take i).flatMap (rowB T ls U (hds ls.length s))) ++ rowB T ls U ((hds ls.length s).take j) h).length ≤ 100000 := fun i j h hi => by
      have e1 := congrArg List.length EL
      have hs2 : (hds ls.length s) = (hds ls.length s).take i ++ (hds ls.length s).drop i := (List.take_append_drop _ _).symm
      have e2 : ((hds ls.length s).flatMap (rowB T ls U (hds ls.length s))).length = (((hds ls.length s).take i).flatMap (rowB T ls U (hds ls.length s))).length + (((hds ls.length s).drop i).flatMap (rowB T ls U (hds ls.length s))).length := by
        conv => lhs; rw [hs2, List.flatMap_append, List.length_append]
        rw [← hs2]
      have e3 : (rowB T ls U ((hds ls.length s).take j) h).length ≤ 81 := by
        unfold rowB
        rw [List.length_map]
        have a1 := List.length_filter_le (hitM T ls U h) ((hds ls.length s).take j)
        have a2 := len_take (hds ls.length s) j
        omega
      rw [List.length_append] at e1
      rw [List.length_append, List.length_append]
      omega
    simp
    refine Sk.seq_loop (EA2 T ls U s z5 μ) ⟨none, none, rfl, by simp⟩ ?_ ?_
    · rintro i d ρ μ' hd ⟨z8, z9, rfl, rfl⟩
      rw [turn1_name]
      refine Go.of ?_
      rw [List.getElem?_map] at hd
      obtain ⟨h, hh, rfl⟩ := Option.map_eq_some_iff.1 hd
      have tk := take_snoc hh
      have mm := mh h (List.mem_of_getElem? hh)
      have bd := fun j => bound i j h hh
      generalize hP : endsA T ls U s ++ ((hds ls.length s).take i).flatMap (rowB T ls U (hds ls.length s)) = P at bd ⊢
      simp
      refine Sk.loop (EA3 T ls U s z5 P h μ) ⟨z9, rfl, by simp [rowB]⟩ ?_ ?_
      · rintro j d ρ μ' hd ⟨z9, rfl, rfl⟩
        rw [turn1_name]
        refine Go.of ?_
        rw [List.getElem?_map] at hd
        obtain ⟨t, ht, rfl⟩ := Option.map_eq_some_iff.1 hd
        have tk2 := take_snoc ht
        have mt := mh t (List.mem_of_getElem? ht)
        have bj := bd j
        generalize hX : (P ++ rowB T ls U ((hds ls.length s).take j) h).map pD = X
        have lX : X.length ≤ 100000 := by rw [← hX, List.length_map]; exact bj
        have hit := hit_ok S (U := U) mm mt (ρ := [some (sgD T ls), some (intsT U), some (.int s), some (.int ls.length), some (.cell μ.length), z5, some (.lst ((midW T ls).map wdD)), some (.lst ((hds ls.length s).map wdD)), some (wdD h), some (wdD t), none, none]) (μ := μ ++ [some (.lst X)]) rfl rfl rfl rfl rfl rfl
        generalize eGen (iAnyD (eVar 6)) (tName 11) (eTru (eOp oPlus (eOp oPlus (eVar 8) (eVar 11)) (eVar 9))) (bY true (eOp oIn (eCall m_value_of (aCons (eVar 0) (aCons (eOp oPlus (eOp oPlus (eVar 8) (eVar 11)) (eVar 9)) aNil))) (eVar 1))) [11] true = E at hit ⊢
        by_cases c : hitM T ls U h t = true
        · rw [c] at hit
          simp [hit]
          rw [push_ok μ (d := pD (h, t)) (by simp [wdD, pD, intsT]) (by omega)]
          simp
          refine ⟨_, rfl, ?_⟩
          unfold rowB at hX ⊢
          rw [tk2, ← hX]
          simp [c]
        · have c : hitM T ls U h t = false := by simpa using c
          rw [c] at hit
          simp [hit]
          refine ⟨_, rfl, ?_⟩
          unfold rowB at hX ⊢
          rw [tk2, List.filter_append, List.filter_cons_of_neg (by rw [c]; decide), List.filter_nil, List.append_nil, hX]
      · rintro ρ μ' ⟨z9, rfl, rfl⟩
        refine ⟨some (wdD h), z9, rfl, ?_⟩
        rw [List.length_map, List.take_length, tk, List.flatMap_append]
        rw [← hP]
        simp
    · rintro ρ μ' ⟨z8, z9, rfl, rfl⟩
      rw [List.length_map, List.take_length, EL]
      have fz := frz1_cell (get_last μ (some (M.lst ((endsL T ls U s).map pD)))) (pures_pD _)
      rw [set_last] at fz
      have hp : (D.lst ((endsL T ls U s).map pD)).pure = true := by simpa [D.pure] using pures_pD (endsL T ls U s)
      generalize (endsL T ls U s).map pD = Y at fz hp ⊢
      simp [fz]
      rw [leave_pure hp]
      simp
      exact ⟨rfl, rfl⟩)
end

/-! EDd: tells_apart, stayers, middle_for, rounds_of. -/
section
variable {n : Nat} {T : List (List Int)} {ls : List Int}
def kI (l : List Int) : NestedKey := .tup (l.map NestedKey.num)
def kD (p : List Int × List Int) : NestedKey := .tup [kI p.1, kI p.2]
theorem nks_numD : ∀ l : List Int, nksOf (l.map D.int) = some (l.map NestedKey.num)
  | [] => rfl
  | x :: l => by
    show (match nkOf (.int x), nksOf (l.map D.int) with | some k, some ks => some (k :: ks) | _, _ => none) = _
    rw [nks_numD l]
    rfl
theorem nk_I (l : List Int) : nkOf (intsT l) = some (kI l) := by
  show (nksOf (l.map D.int)).map NestedKey.tup = _
  rw [nks_numD]
  rfl
theorem nk_pD (p : List Int × List Int) : nkOf (pD p) = some (kD p) := by
  show (match nkOf (intsT p.1), (match nkOf (intsT p.2), some [] with | some k, some ks => some (k :: ks) | _, _ => none) with | some k, some ks => some (k :: ks) | _, _ => none).map NestedKey.tup = _
  rw [nk_I, nk_I]
  rfl
theorem depth_nums : ∀ l : List Int, NestedKey.depthAll (l.map NestedKey.num) = 0
  | [] => rfl
  | x :: l => by simp [NestedKey.depthAll, NestedKey.depth, depth_nums l]
theorem keyN_pD (p : List Int × List Int) : keyN (pD p) = some (kD p) := by
  have e := nk_pD p
  have d : (kD p).depth ≤ 8 := by simp [kD, kI, NestedKey.depth, NestedKey.depthAll, depth_nums]
  have g : ∀ (d : D), (∃ xs, d = .tup xs) → ∀ k, nkOf d = some k → k.depth ≤ 8 → keyN d = some k := by
    rintro _ ⟨xs, rfl⟩ k h1 h2
    unfold keyN
    rw [h1]
    simp [h2]
  exact g (pD p) ⟨_, rfl⟩ _ e d
theorem keysN_pD : ∀ P : List (List Int × List Int), keysN (P.map pD) = some (P.map kD)
  | [] => rfl
  | p :: P => by
    show (match keyN (pD p), keysN (P.map pD) with | some k, some ks => some (k :: ks) | _, _ => none) = _
    rw [keyN_pD, keysN_pD P]
    rfl
theorem kI_inj {a b : List Int} (h : kI a = kI b) : a = b := by
  unfold kI at h
  injection h with h
  have g : ∀ a b : List Int, a.map NestedKey.num = b.map NestedKey.num → a = b := by
    intro a
    induction a with
    | nil => intro b h; cases b with
      | nil => rfl
      | cons y b => cases h
    | cons x a ih => intro b h; cases b with
      | nil => cases h
      | cons y b =>
        rw [List.map_cons, List.map_cons] at h
        injection h with h1 h2
        injection h1 with h1
        rw [h1, ih b h2]
  exact g a b h
theorem kD_inj {p q : List Int × List Int} (h : kD p = kD q) : p = q := by
  unfold kD at h
  injection h with h
  injection h with h1 h2
  injection h2 with h2
  exact Prod.ext (kI_inj h1) (kI_inj h2)
theorem mem_kD {p : List Int × List Int} {P : List (List Int × List Int)} : kD p ∈ P.map kD ↔ p ∈ P := by
  rw [List.mem_map]
  exact ⟨fun ⟨q, hq, e⟩ => kD_inj e ▸ hq, fun h => ⟨p, h, rfl⟩⟩
/-- no pair of ends is shared -/
def apT (T : List (List Int)) (ls U V : List Int) (s : Nat) : Bool := (endsL T ls U s).all fun p => !decide (p ∈ endsL T ls V s)
theorem tells_apart_spec (S : Sgr n T ls) {s : Nat} (hs : s ≤ 3) (U V : List Int) (μ : Mu) : m_tells_apart [sgD T ls, intsT U, intsT V, .int s] μ = some (.ok (.bl (apT T ls U V s)) μ) := EqQ.out (by
  refine Rn.run ?_
  have eU := ends_of_spec S hs U
  have eV := ends_of_spec S hs V
  have l1 := endsL_len (T := T) (ls := ls) (U := V) (s := s) S.l3 hs
  have hset : ∀ μ, oHSL [.lst ((endsL T ls V s).map pD)] μ = some (.ok (.cell μ.length) (μ ++ [some (.hs ((endsL T ls V s).map kD))])) := fun μ => by
    show hsL (.lst ((endsL T ls V s).map pD)) μ = _
    unfold hsL
    show (match keysN ((endsL T ls V s).map pD) with | some ks => if ks.length ≤ 1200 then some (Rs.ok (D.cell μ.length) (μ ++ [some (M.hs ks)])) else none | none => none) = _
    rw [keysN_pD]
    exact if_pos (by rw [List.length_map]; exact l1)
  simp [b_tells_apart, call1_ok (eV _), hset, call1_ok (eU _)]
  rw [gens_all pD (fun p => !decide (p ∈ endsL T ls V s)) (xs := endsL T ls U s) rfl (fun p _ => by
    have hin : oHIn true (pD p) (.cell μ.length) (μ ++ [some (.hs ((endsL T ls V s).map kD))]) = some (.ok (.bl (!decide (p ∈ endsL T ls V s))) (μ ++ [some (.hs ((endsL T ls V s).map kD))])) := by
      unfold oHIn
      rw [keyN_pD]
      simp only [get_last]
      rw [show decide (kD p ∈ (endsL T ls V s).map kD) = decide (p ∈ endsL T ls V s) from decide_eq_decide.2 mem_kD]
      simp
    simp [hin])]
  simp
  exact ⟨rfl, rfl⟩)
/-! stayers -/
def stV (T : List (List Int)) (ahead : Bool) (p q : Int × List Int) : Int := if ahead then at2 T q.1 p.1 else at2 T p.1 q.1
def stP (T : List (List Int)) (ahead : Bool) (p q : Int × List Int) : Bool := decide (stV T ahead p q = p.1)
def stay1 (T : List (List Int)) (ahead : Bool) (F : List (Int × List Int)) (p : Int × List Int) : List (Int × List Int × List Int) := match F.find? (stP T ahead p) with
  | some q => [(p.1, p.2, q.2)]
  | none => []
def stays (T : List (List Int)) (ahead : Bool) (F : List (Int × List Int)) : List (Int × List Int × List Int) := F.flatMap (stay1 T ahead F)
def t3D (t : Int × List Int × List Int) : D := .tup [.int t.1, wdD t.2.1, wdD t.2.2]
def StA (T : List (List Int)) (ls : List Int) (ahead : Bool) (F : List (Int × List Int)) (μ : Mu) : Nat → G4.Env → Mu → Prop := fun i ρ μ' => ∃ z5 z6 z7 z8 z9, ρ = [some (sgD T ls), some (.bl ahead), some (tabD T), some (.lst (F.map fwD)), some (.cell μ.length), z5, z6, z7, z8, z9] ∧ μ' = μ ++ [some (.lst (((F.take i).flatMap (stay1 T ahead F)).map t3D))]
def StB (T : List (List Int)) (ls : List Int) (ahead : Bool) (F : List (Int × List Int)) (p : Int × List Int) (X : List D) (μ : Mu) : Nat → G4.Env → Mu → Prop := fun i ρ μ' => (∃ z7 z8 z9, ρ = [some (sgD T ls), some (.bl ahead), some (tabD T), some (.lst (F.map fwD)), some (.cell μ.length), some (.int p.1), some (wdD p.2), z7, z8, z9] ∧ μ' = μ ++ [some (.lst X)]) ∧
  (F.take i).find? (stP T ahead p) = none
theorem stay_len (ahead : Bool) (F : List (Int × List Int)) : ∀ R : List (Int × List Int), (R.flatMap (stay1 T ahead F)).length ≤ R.length
  | [] => by simp
  | p :: R => by
    have := stay_len ahead F R
    have h2 : (stay1 T ahead F p).length ≤ 1 := by unfold stay1; split <;> simp
    rw [List.flatMap_cons, List.length_append, List.length_cons]
    omega
theorem pures_t3 (R : List (Int × List Int × List Int)) : pures (R.map t3D) = true := by
  rw [pures_iff]
  intro d hd
  obtain ⟨t, _, rfl⟩ := List.mem_map.mp hd
  have h1 : ∀ l : List Int, pures (l.map D.int) = true := pures_ints
  simp [t3D, wdD, D.pure, pures, h1]
theorem tab_at (S : Sgr n T ls) {a b : Int} (a0 : 0 ≤ a ∧ a < n) (b0 : 0 ≤ b ∧ b < n) : (∃ R : D, (∀ μ, oIx (tabD T) (.int a) μ = some (.ok R μ)) ∧ ∀ μ, oIx R (.int b) μ = some (.ok (.int (at2 T a b)) μ)) ∧ 0 ≤ at2 T a b ∧ at2 T a b < n := by
  obtain ⟨r, q1, q2, q3, q4⟩ := S.tab.toGrid.get2 a0.1 a0.2 b0.1 b0.2
  exact ⟨⟨rowT r, fun μ => by simp [tabD, atI_T a0.1 q1], fun μ => by simp [oIx_rowT, atI_ints b0.1 q2]⟩, q3, q4⟩
theorem stayers_spec (S : Sgr n T ls) (ahead : Bool) (μ : Mu) : m_stayers [sgD T ls, .bl ahead] μ = some (.ok (.lst ((stays T ahead (fk T ls 4)).map t3D)) μ) := EqQ.out (by
  refine Rn.run ?_
  have fw := first_words_spec S
  have fl := fk_len S 4
  have n4 := S.n4
  have rg := fk_rg S 4
  have s0 : ∀ {μ : Mu}, oIx (sgD T ls) (.int 0) μ = some (.ok (tabD T) μ) := fun {_} => rfl
  have nA : newC [] μ = some (.ok (.cell μ.length) (μ ++ [some (.lst [])])) := newC_ok (by simp)
  simp [b_stayers, s0, call1_ok (fw _), nA]
  generalize fk T ls 4 = F at *
  refine Sk.seq_loop (StA T ls ahead F μ) ⟨none, none, none, none, none, rfl, by simp⟩ ?_ ?_
  · rintro i d ρ μ' hd ⟨z5, z6, z7, z8, z9, rfl, rfl⟩
    rw [List.getElem?_map] at hd
    obtain ⟨p, hp, rfl⟩ := Option.map_eq_some_iff.1 hd
    have tk := take_snoc hp
    have lX := stay_len (T := T) ahead F (F.take i)
    have lt := len_take F i
    have hp1 := rg p.1 (List.mem_map.mpr ⟨p, List.mem_of_getElem? hp, rfl⟩)
    refine Go.of ?_
    have tp : ∀ {u : Tvs} {p : Int × List Int} {ρ : G4.Env} {μ : Mu}, tTupT 2 u (fwD p) ρ μ = u [.int p.1, wdD p.2] ρ μ := fun {_ _ _ _} => rfl
    generalize hX : ((F.take i).flatMap (stay1 T ahead F)).map t3D = X
    have lX2 : X.length ≤ 4 := by rw [← hX, List.length_map]; omega
    simp [turn1, tp]
    have nxt : ∀ (Y : List D), Y = X ++ (stay1 T ahead F p).map t3D → ∀ z7 z8 z9, StA T ls ahead F μ (i + 1) [some (sgD T ls), some (.bl ahead), some (tabD T), some (.lst (F.map fwD)), some (.cell μ.length), some (.int p.1), some (wdD p.2), z7, z8, z9] (μ ++ [some (.lst Y)]) := fun Y hY z7 z8 z9 =>
      ⟨_, _, z7, z8, z9, rfl, by rw [hY, ← hX, tk]; simp⟩
    refine Sk.loop (StB T ls ahead F p X μ) ⟨⟨z7, z8, z9, rfl, rfl⟩, rfl⟩ ?_ ?_
    · rintro j d ρ μ' hd ⟨⟨z7, z8, z9, rfl, rfl⟩, hn⟩
      rw [List.getElem?_map] at hd
      obtain ⟨q, hq, rfl⟩ := Option.map_eq_some_iff.1 hd
      have tk2 := take_snoc hq
      have hq1 := rg q.1 (List.mem_map.mpr ⟨q, List.mem_of_getElem? hq, rfl⟩)
      obtain ⟨⟨R1, a1, a2⟩, _⟩ := tab_at S hq1 hp1
      obtain ⟨⟨R2, b1, b2⟩, _⟩ := tab_at S hp1 hq1
      refine Go.of ?_
      have spl : F = F.take j ++ (q :: F.drop (j + 1)) := by
        have h1 := (List.getElem?_eq_some_iff.mp hq)
        rw [← h1.2, ← List.drop_eq_getElem_cons h1.1, List.take_append_drop]
      have fnd : F.find? (stP T ahead p) = if stP T ahead p q = true then some q else (F.drop (j + 1)).find? (stP T ahead p) := by
        conv => lhs; rw [spl]
        rw [List.find?_append, hn, Option.none_or, List.find?_cons]
        cases stP T ahead p q <;> rfl
      have val : eIf (eTru (eVar 1)) (eOp oIx (eOp oIx (eVar 2) (eVar 7)) (eVar 5)) (eOp oIx (eOp oIx (eVar 2) (eVar 5)) (eVar 7)) [some (sgD T ls), some (.bl ahead), some (tabD T), some (.lst (F.map fwD)), some (.cell μ.length), some (.int p.1), some (wdD p.2), some (.int q.1), some (wdD q.2), z9] (μ ++ [some (.lst X)]) = some (.ok (.int (stV T ahead p q)) (μ ++ [some (.lst X)])) := by
        cases ahead <;> simp [a1, a2, b1, b2, stV]
      generalize eIf (eTru (eVar 1)) (eOp oIx (eOp oIx (eVar 2) (eVar 7)) (eVar 5)) (eOp oIx (eOp oIx (eVar 2) (eVar 5)) (eVar 7)) = E at val ⊢
      simp [turn1, tp, val]
      by_cases c : stP T ahead p q = true
      · have c2 : stV T ahead p q = p.1 := of_decide_eq_true c
        rw [if_pos c] at fnd
        simp [c2]
        rw [push_ok μ (d := t3D (p.1, p.2, q.2)) (by simp [t3D]) (by omega)]
        have nx := nxt (X ++ [t3D (p.1, p.2, q.2)]) (by unfold stay1; rw [fnd]; rfl) (some (.int q.1)) (some (wdD q.2)) (some (.int p.1))
        simp
        exact nx
      · have c2 : (stV T ahead p q == p.1) = false := beq_eq_false_iff_ne.mpr fun e => c (decide_eq_true e)
        simp [c2]
        exact ⟨⟨_, _, _, rfl, rfl⟩, by rw [tk2, List.find?_append, hn]; simp [c]⟩
    · rintro ρ μ' ⟨⟨z7, z8, z9, rfl, rfl⟩, hn⟩
      rw [List.length_map, List.take_length] at hn
      exact nxt X (by unfold stay1; rw [hn]; simp) z7 z8 z9
  · rintro ρ μ' ⟨z5, z6, z7, z8, z9, rfl, rfl⟩
    rw [List.length_map, List.take_length]
    have fz := frz1_cell (get_last μ (some (M.lst ((F.flatMap (stay1 T ahead F)).map t3D)))) (pures_t3 _)
    rw [set_last] at fz
    have hp : (D.lst ((F.flatMap (stay1 T ahead F)).map t3D)).pure = true := by simpa [D.pure] using pures_t3 (F.flatMap (stay1 T ahead F))
    show Sk _ fun fl => Rn (ends (List.length μ) (some fl)) (EqQ (D.lst (List.map t3D (F.flatMap (stay1 T ahead F)))) μ)
    generalize (F.flatMap (stay1 T ahead F)).map t3D = Y at fz hp ⊢
    simp [fz]
    rw [leave_pure hp]
    simp
    exact ⟨rfl, rfl⟩)
/-! middle_for -/
def oL : Option (List Int) → D
  | none => .non
  | some w => wdD w
def miP (T : List (List Int)) (U : List Int) (h t : Int) (p : Int × List Int) : Bool := decide (at2 T (at2 T h p.1) t ∈ U)
def midF (T : List (List Int)) (F : List (Int × List Int)) (U : List Int) (h t : Int) : Option (List Int) := if at2 T h t ∈ U then some [] else (F.find? (miP T U h t)).map Prod.snd
def MfI (T : List (List Int)) (ls : List Int) (F : List (Int × List Int)) (U : List Int) (h t : Int) (μ : Mu) : Nat → G4.Env → Mu → Prop := fun i ρ μ' => (∃ z5 z6, ρ = [some (sgD T ls), some (.int h), some (.int t), some (intsT U), some (tabD T), z5, z6] ∧ μ' = μ) ∧ (F.take i).find? (miP T U h t) = none
theorem leave_wd (k : Nat) (w : List Int) (μ : Mu) : leave k (wdD w) μ = some (.ok (wdD w) (μ.take k)) := leave_pure (by simpa [wdD, D.pure] using pures_ints w)
theorem middle_for_spec (S : Sgr n T ls) (U : List Int) {h t : Int} (hh : 0 ≤ h ∧ h < n) (ht : 0 ≤ t ∧ t < n) (μ : Mu) : m_middle_for [sgD T ls, .int h, .int t, intsT U] μ = some (.ok (oL (midF T (fk T ls 4) U h t)) μ) := EqQ.out (by
  refine Rn.run ?_
  have fw := first_words_spec S
  have rg := fk_rg S 4
  have s0 : ∀ {μ : Mu}, oIx (sgD T ls) (.int 0) μ = some (.ok (tabD T) μ) := fun {_} => rfl
  obtain ⟨⟨R1, a1, a2⟩, _⟩ := tab_at S hh ht
  by_cases c : at2 T h t ∈ U
  · simp [b_middle_for, s0, a1, a2, oIn_T, c]
    have e : midF T (fk T ls 4) U h t = some [] := if_pos c
    rw [e]
    have := leave_wd μ.length [] μ
    simp only [wdD, List.map_nil] at this
    simp [this]
    exact ⟨rfl, rfl⟩
  · simp [b_middle_for, s0, a1, a2, oIn_T, c, call1_ok (fw _)]
    have e : midF T (fk T ls 4) U h t = ((fk T ls 4).find? (miP T U h t)).map Prod.snd := if_neg c
    rw [e]
    generalize fk T ls 4 = F at *
    refine Sk.seq_loop (MfI T ls F U h t μ) ⟨⟨none, none, rfl, rfl⟩, rfl⟩ ?_ ?_
    · rintro i d ρ μ' hd ⟨⟨z5, z6, rfl, rfl⟩, hn⟩
      rw [List.getElem?_map] at hd
      obtain ⟨p, hp, rfl⟩ := Option.map_eq_some_iff.1 hd
      have tk := take_snoc hp
      have hp1 := rg p.1 (List.mem_map.mpr ⟨p, List.mem_of_getElem? hp, rfl⟩)
      obtain ⟨⟨R2, b1, b2⟩, r0⟩ := tab_at S hh hp1
      obtain ⟨⟨R3, d1, d2⟩, _⟩ := tab_at S r0 ht
      have spl : F = F.take i ++ (p :: F.drop (i + 1)) := by
        have h1 := (List.getElem?_eq_some_iff.mp hp)
        rw [← h1.2, ← List.drop_eq_getElem_cons h1.1, List.take_append_drop]
      have tp : ∀ {u : Tvs} {p : Int × List Int} {ρ : G4.Env} {μ : Mu}, tTupT 2 u (fwD p) ρ μ = u [.int p.1, wdD p.2] ρ μ := fun {_ _ _ _} => rfl
      refine Go.of ?_
      by_cases q : at2 T (at2 T h p.1) t ∈ U
      · have mp : miP T U h t p = true := decide_eq_true q
        have f : F.find? (miP T U h t) = some p := by
          rw [spl, List.find?_append, hn, Option.none_or, List.find?_cons, mp]
        rw [f]
        simp [turn1, tp, b1, b2, d1, d2, oIn_T, q, leave_wd]
        exact ⟨rfl, rfl⟩
      · have mp : miP T U h t p = false := decide_eq_false q
        simp [turn1, tp, b1, b2, d1, d2, oIn_T, q]
        exact ⟨⟨_, _, rfl, rfl⟩, by rw [tk, List.find?_append, hn]; simp [mp]⟩
    · rintro ρ μ' ⟨⟨z5, z6, rfl, rfl⟩, hn⟩
      rw [List.length_map, List.take_length] at hn
      rw [hn]
      simp
      exact ⟨rfl, rfl⟩)
/-! rounds_of -/
def oR : Option (List (List Int)) → D
  | none => .non
  | some R => .tup (R.map wdD)
abbrev T3 := Int × List Int × List Int
def rnd1 (T : List (List Int)) (F : List (Int × List Int)) (U V : List Int) (a b : T3) : Option (List (List Int)) := match midF T F U a.1 b.1, midF T F V a.1 b.1 with
  | some l, some r => some [a.2.1, a.2.2, l, r, b.2.2, b.2.1]
  | _, _ => none
def rndF (T : List (List Int)) (F : List (Int × List Int)) (U V : List Int) : Option (List (List Int)) := (stays T false F).findSome? fun a => (stays T true F).findSome? (rnd1 T F U V a)
theorem stays_mem {ahead : Bool} {F : List (Int × List Int)} {t : T3} (h : t ∈ stays T ahead F) : ∃ p q, p ∈ F ∧ q ∈ F ∧ t = (p.1, p.2, q.2) ∧ stV T ahead p q = p.1 := by
  unfold stays at h
  obtain ⟨p, hp, ht⟩ := List.mem_flatMap.mp h
  unfold stay1 at ht
  cases e : F.find? (stP T ahead p) with
  | none => rw [e] at ht; simp at ht
  | some q =>
    rw [e] at ht
    have h1 := List.mem_of_find?_eq_some e
    have h2 := List.find?_some e
    exact ⟨p, q, hp, h1, by simpa using ht, of_decide_eq_true h2⟩
def RoA (T : List (List Int)) (ls : List Int) (F : List (Int × List Int)) (U V : List Int) (μ : Mu) : Nat → G4.Env → Mu → Prop := fun i ρ μ' => (∃ z3 z4 z5 z6 z7 z8 z9 z10, ρ = [some (sgD T ls), some (intsT U), some (intsT V), z3, z4, z5, z6, z7, z8, z9, z10] ∧ μ' = μ) ∧ ((stays T false F).take i).findSome? (fun a => (stays T true F).findSome? (rnd1 T F U V a)) = none
def RoB (T : List (List Int)) (ls : List Int) (F : List (Int × List Int)) (U V : List Int) (a : T3) (μ : Mu) : Nat → G4.Env → Mu → Prop := fun i ρ μ' => (∃ z6 z7 z8 z9 z10, ρ = [some (sgD T ls), some (intsT U), some (intsT V), some (.int a.1), some (wdD a.2.1), some (wdD a.2.2), z6, z7, z8, z9, z10] ∧ μ' = μ) ∧ ((stays T true F).take i).findSome? (rnd1 T F U V a) = none
theorem find_split {α β : Type} {l : List α} {f : α → Option β} {i : Nat} {x : α} (h : l[i]? = some x) (hn : (l.take i).findSome? f = none) : (∀ y, f x = some y → l.findSome? f = some y) ∧ (f x = none → (l.take (i + 1)).findSome? f = none) := by
  have spl : l = l.take i ++ (x :: l.drop (i + 1)) := by
    have h1 := (List.getElem?_eq_some_iff.mp h)
    rw [← h1.2, ← List.drop_eq_getElem_cons h1.1, List.take_append_drop]
  constructor
  · intro y hy
    rw [spl, List.findSome?_append, hn, Option.none_or, List.findSome?_cons, hy]
  · intro hy
    rw [take_snoc h, List.findSome?_append, hn, Option.none_or, List.findSome?_cons, hy]
    rfl
theorem pure_oR (R : List (List Int)) : (D.tup (R.map wdD)).pure = true := by simpa [D.pure] using pures_W R
theorem rounds_of_spec (S : Sgr n T ls) (U V : List Int) (μ : Mu) : m_rounds_of [sgD T ls, intsT U, intsT V] μ = some (.ok (oR (rndF T (fk T ls 4) U V)) μ) := EqQ.out (by
  refine Rn.run ?_
  have st := stayers_spec S
  have md := fun (U : List Int) {h t : Int} (hh : 0 ≤ h ∧ h < (n : Int)) (ht : 0 ≤ t ∧ t < (n : Int)) => middle_for_spec S U hh ht
  have rg := fk_rg S 4
  simp [b_rounds_of, call1_ok (st _ _)]
  unfold rndF
  generalize fk T ls 4 = F at *
  have rgs : ∀ {ahead : Bool} {t : T3}, t ∈ stays T ahead F → 0 ≤ t.1 ∧ t.1 < (n : Int) := fun {ahead t} h => by
    obtain ⟨p, q, hp, _, rfl, _⟩ := stays_mem h
    exact rg p.1 (List.mem_map.mpr ⟨p, hp, rfl⟩)
  have nw : ∀ w : List Int, (wdD w).isNon = false := fun _ => rfl
  have tp : ∀ {u : Tvs} {p : T3} {ρ : G4.Env} {μ : Mu}, tTupT 3 u (t3D p) ρ μ = u [.int p.1, wdD p.2.1, wdD p.2.2] ρ μ := fun {_ _ _ _} => rfl
  refine Sk.seq_loop (RoA T ls F U V μ) ⟨⟨none, none, none, none, none, none, none, none, rfl, rfl⟩, rfl⟩ ?_ ?_
  · rintro i d ρ μ' hd ⟨⟨z3, z4, z5, z6, z7, z8, z9, z10, rfl, rfl⟩, hn⟩
    rw [List.getElem?_map] at hd
    obtain ⟨a, ha, rfl⟩ := Option.map_eq_some_iff.1 hd
    obtain ⟨f1, f2⟩ := find_split ha hn
    have ra := rgs (List.mem_of_getElem? ha)
    refine Go.of ?_
    simp [turn1, tp, call1_ok (st _ _)]
    refine Sk.loop (RoB T ls F U V a μ') ⟨⟨z6, z7, z8, z9, z10, rfl, rfl⟩, rfl⟩ ?_ ?_
    · rintro j d ρ μ' hd ⟨⟨z6, z7, z8, z9, z10, rfl, rfl⟩, hn2⟩
      rw [List.getElem?_map] at hd
      obtain ⟨b, hb, rfl⟩ := Option.map_eq_some_iff.1 hd
      obtain ⟨g1, g2⟩ := find_split hb hn2
      have rb := rgs (List.mem_of_getElem? hb)
      refine Go.of ?_
      simp [turn1, tp, call1_ok (md U ra rb _), call1_ok (md V ra rb _)]
      cases e1 : midF T F U a.1 b.1 with
      | none =>
        simp [oL]
        exact ⟨⟨_, _, _, _, _, rfl, rfl⟩, g2 (by simp [rnd1, e1])⟩
      | some l =>
        cases e2 : midF T F V a.1 b.1 with
        | none =>
          simp [oL, nw]
          exact ⟨⟨_, _, _, _, _, rfl, rfl⟩, g2 (by simp [rnd1, e1, e2])⟩
        | some r =>
          have g3 := f1 _ (g1 _ (show rnd1 T F U V a b = some [a.2.1, a.2.2, l, r, b.2.2, b.2.1] by simp [rnd1, e1, e2]))
          rw [g3]
          have lp := fun (k : Nat) (μ : Mu) => leave_pure (n := k) (μ := μ) (pure_oR [a.2.1, a.2.2, l, r, b.2.2, b.2.1])
          simp only [List.map_cons, List.map_nil] at lp
          simp [oL, nw]
          rw [newT_ok (by simp)]
          simp [lp]
          exact ⟨rfl, rfl⟩
    · rintro ρ μ' ⟨⟨z6, z7, z8, z9, z10, rfl, rfl⟩, hn2⟩
      rw [List.length_map, List.take_length] at hn2
      exact ⟨⟨_, _, _, z6, z7, z8, z9, z10, rfl, rfl⟩, f2 hn2⟩
  · rintro ρ μ' ⟨⟨z3, z4, z5, z6, z7, z8, z9, z10, rfl, rfl⟩, hn⟩
    rw [List.length_map, List.take_length] at hn
    rw [hn]
    simp
    exact ⟨rfl, rfl⟩)
end

/-! EDe: ends_apart, what the law is told. -/
section
variable {n : Nat} {T : List (List Int)} {ls : List Int}
def boP (U V : List Int) (p : Int × List Int) : Bool := decide (p.1 ∈ U) && decide (p.1 ∈ V)
def noL : XD := ⟨"NoLength", []⟩
inductive Ea where
  | word (w : List Int)
  | rounds (R : List (List Int))
  | apart (s : Nat)
  | none
def eaOf (T : List (List Int)) (ls U V : List Int) (most : Nat) : Ea := match (fk T ls 4).find? (boP U V) with
  | some p => .word p.2
  | none => match rndF T (fk T ls 4) U V with
    | some R => .rounds R
    | none => match (List.range (most + 1)).find? (apT T ls U V) with
      | some s => .apart s
      | none => .none
def Ea.rs (μ : Mu) : Ea → Rs D
  | .word w => .ok (.tup [.str "word", wdD w]) μ
  | .rounds R => .ok (.tup [.str "rounds", .tup (R.map wdD)]) μ
  | .apart s => .ok (.tup [.str "apart", .int s]) μ
  | .none => .exc noL μ
theorem snoc_find {α : Type} {l : List α} {f : α → Bool} {i : Nat} {x : α} (h : l[i]? = some x) (hn : (l.take i).find? f = none) : (f x = true → l.find? f = some x) ∧ (f x = false → (l.take (i + 1)).find? f = none) := by
  have spl : l = l.take i ++ (x :: l.drop (i + 1)) := by
    have h1 := (List.getElem?_eq_some_iff.mp h)
    rw [← h1.2, ← List.drop_eq_getElem_cons h1.1, List.take_append_drop]
  constructor
  · intro hy
    rw [spl, List.find?_append, hn, Option.none_or, List.find?_cons, hy]
  · intro hy
    rw [take_snoc h, List.find?_append, hn, Option.none_or, List.find?_cons, hy]
    rfl
def EaA (T : List (List Int)) (ls U V : List Int) (most : Nat) (μ : Mu) : Nat → G4.Env → Mu → Prop := fun i ρ μ' => (∃ z6 z7, ρ = [some (sgD T ls), some (intsT U), some (intsT V), some (.int most), none, none, z6, z7] ∧ μ' = μ) ∧ ((fk T ls 4).take i).find? (boP U V) = none
def EaB (T : List (List Int)) (ls U V : List Int) (most : Nat) (z6 z7 : Option D) (μ : Mu) : Nat → G4.Env → Mu → Prop := fun i ρ μ' => (∃ z5, ρ = [some (sgD T ls), some (intsT U), some (intsT V), some (.int most), some .non, z5, z6, z7] ∧ μ' = μ) ∧ ((List.range (most + 1)).take i).find? (apT T ls U V) = none
theorem ends_apart_spec (S : Sgr n T ls) {U V : List Int} (hU : Rg n U ∧ U.Pairwise (· < ·)) (hV : Rg n V ∧ V.Pairwise (· < ·)) {most : Nat} (hm : most ≤ 3) (μ : Mu) : m_ends_apart [sgD T ls, intsT U, intsT V, .int most] μ = some ((eaOf T ls U V most).rs μ) := by
  have key : Rt (m_ends_apart [sgD T ls, intsT U, intsT V, .int most] μ) fun q => q = (eaOf T ls U V most).rs μ := by
    refine Rt.run ?_
    have fw := first_words_spec S
    have rd := rounds_of_spec S U V
    have ck := check_sets_spec S hU hV
    have nl : ∀ μ, newL [intsT U, intsT V] μ = some (.ok (.lst [intsT U, intsT V]) μ) := fun μ => newL_ok (by simp)
    have tp : ∀ {u : Tvs} {p : Int × List Int} {ρ : G4.Env} {μ : Mu}, tTupT 2 u (fwD p) ρ μ = u [.int p.1, wdD p.2] ρ μ := fun {_ _ _ _} => rfl
    have t2 : ∀ (a b : D) (μ : Mu), newT [a, b] μ = some (.ok (.tup [a, b]) μ) := fun a b μ => newT_ok (by simp)
    have pw : ∀ w : List Int, (wdD w).pure = true := fun w => by simpa [wdD, D.pure] using pures_ints w
    simp [b_ends_apart, nl, call1_ok (ck _), call1_ok (fw _)]
    refine Sk.seq_loop (EaA T ls U V most μ) ⟨⟨none, none, rfl, rfl⟩, rfl⟩ ?_ ?_
    · rintro i d ρ μ' hd ⟨⟨z6, z7, rfl, rfl⟩, hn⟩
      rw [List.getElem?_map] at hd
      obtain ⟨p, hp, rfl⟩ := Option.map_eq_some_iff.1 hd
      obtain ⟨f1, f2⟩ := snoc_find hp hn
      refine Go.of ?_
      by_cases c1 : p.1 ∈ U
      · by_cases c2 : p.1 ∈ V
        · have e : eaOf T ls U V most = .word p.2 := by unfold eaOf; rw [f1 (by simp [boP, c1, c2])]
          simp [turn1, tp, oIn_T, c1, c2, t2]
          rw [leave_pure (by simp [D.pure, pures, pw]), e, List.take_length]
          exact ⟨_, rfl, rfl⟩
        · simp [turn1, tp, oIn_T, c1, c2]
          exact ⟨⟨_, _, rfl, rfl⟩, f2 (by simp [boP, c2])⟩
      · simp [turn1, tp, oIn_T, c1]
        exact ⟨⟨_, _, rfl, rfl⟩, f2 (by simp [boP, c1])⟩
    · rintro ρ μ' ⟨⟨z6, z7, rfl, rfl⟩, hn⟩
      rw [List.length_map, List.take_length] at hn
      simp [call1_ok (rd _)]
      cases e1 : rndF T (fk T ls 4) U V with
      | some R =>
        have e : eaOf T ls U V most = .rounds R := by unfold eaOf; rw [hn]; simp only [e1]
        have nr : (D.tup (R.map wdD)).isNon = false := rfl
        simp [oR, nr, t2]
        rw [leave_pure (by have := pures_W R; simp [D.pure, pures, this]), e, List.take_length]
        exact ⟨_, rfl, rfl⟩
      | none =>
        have hr : rOk ((most : Int) + 1) = true := rOk_of (by omega) (by omega)
        simp [oR]
        rw [rng1_ok hr]
        simp only [fors_its]
        refine Sk.seq_loop (EaB T ls U V most z6 z7 μ') ⟨⟨none, rfl, rfl⟩, rfl⟩ ?_ ?_
        · rintro i d ρ μ' hd ⟨⟨z5, rfl, rfl⟩, hn2⟩
          obtain ⟨hi, rfl⟩ := rng_get hd
          rw [Int.zero_add]
          have hi : i < most + 1 := by omega
          obtain ⟨g1, g2⟩ := snoc_find (l := List.range (most + 1)) (i := i) (x := i) (by simp [hi]) hn2
          have ta := tells_apart_spec S (s := i) (by omega) U V
          rw [turn1_name]
          refine Go.of ?_
          cases c : apT T ls U V i with
          | true =>
            have e : eaOf T ls U V most = .apart i := by unfold eaOf; rw [hn]; simp only [e1]; rw [g1 c]
            simp [call1_ok (ta _), c, t2]
            rw [leave_pure (by simp [D.pure, pures]), e, List.take_length]
            exact ⟨_, rfl, rfl⟩
          | false =>
            simp [call1_ok (ta _), c]
            exact ⟨⟨_, rfl, rfl⟩, g2 c⟩
        · rintro ρ μ' ⟨⟨z5, rfl, rfl⟩, hn2⟩
          have ll : (rngD 0 ((most : Int) + 1).toNat).length = most + 1 := by rw [rngD_length]; omega
          rw [ll] at hn2
          have tk : (List.range (most + 1)).take (most + 1) = List.range (most + 1) := by
            have := List.take_length (l := List.range (most + 1))
            rwa [List.length_range] at this
          rw [tk] at hn2
          have e : eaOf T ls U V most = .none := by unfold eaOf; rw [hn]; simp only [e1]; rw [hn2]
          have sz : (most : Int).natAbs.log2 < 1000 := by
            rw [Int.natAbs_natCast]
            rcases (show most = 0 ∨ most = 1 ∨ most = 2 ∨ most = 3 by omega) with z | z | z | z <;> subst z <;> decide
          have fs := fun μ => fs3_ok (m := "no length up to ") (m2 := " tells them apart") (i := (most : Int)) (μ := μ) sz (by decide +kernel) (by decide +kernel)
          simp [fs]
          rw [e]
          rfl
  obtain ⟨q, e, rfl⟩ := key
  exact e
def refD : Ea → D
  | .word w => .lst [.str "told", .tup [.str "word", wdD w]]
  | .rounds R => .lst [.str "told", .tup [.str "rounds", .tup (R.map wdD)]]
  | .apart s => .lst [.str "told", .tup [.str "apart", .int s]]
  | .none => .lst [.str "refused", .bl true]
theorem pure_refD (e : Ea) : (refD e).pure = true := by
  have pw : ∀ w : List Int, (wdD w).pure = true := fun w => by simpa [wdD, D.pure] using pures_ints w
  cases e with
  | word w => simp [refD, D.pure, pures, pw]
  | rounds R => have := pures_W R; simp [refD, D.pure, pures, this]
  | apart s => simp [refD, D.pure, pures]
  | none => simp [refD, D.pure, pures]
theorem refused_spec (S : Sgr n T ls) {U V : List Int} (hU : Rg n U ∧ U.Pairwise (· < ·)) (hV : Rg n V ∧ V.Pairwise (· < ·)) {most : Nat} (hm : most ≤ 3) (μ : Mu) : m__law_refused [sgD T ls, intsT U, intsT V, .int most] μ = some (.ok (refD (eaOf T ls U V most)) μ) := EqQ.out (by
  refine Rn.run ?_
  have ea := ends_apart_spec S hU hV hm μ
  have l2 : ∀ (a b : D) (μ : Mu), newL [a, b] μ = some (.ok (.lst [a, b]) μ) := fun a b μ => newL_ok (by simp)
  have lv := leave_pure (n := μ.length) (μ := μ) (pure_refD (eaOf T ls U V most))
  generalize eaOf T ls U V most = r at *
  cases r with
  | none =>
    have ea : m_ends_apart [sgD T ls, intsT U, intsT V, .int most] μ = some (.exc ⟨"NoLength", []⟩ μ) := ea
    simp only [b__law_refused]
    have hb : sRet (eLst (aCons (eC (.str "told")) (aCons (eCallX m_ends_apart (aCons (eVar 0) (aCons (eVar 1) (aCons (eVar 2) (aCons (eVar 3) aNil))))) aNil))) [some (sgD T ls), some (intsT U), some (intsT V), some (.int most), none] μ = some (.ex ⟨"NoLength", []⟩ [some (sgD T ls), some (intsT U), some (intsT V), some (.int most), none] μ) := by
      simp [eCallX_ap, ea]
      rfl
    show Sk (sTryAs _ _ _ _ [some (sgD T ls), some (intsT U), some (intsT V), some (.int most), none] μ) _
    rw [tryAs_ex (fl := .rt (refD .none) μ) hb (by simp) (fun a => by simp [l2]; rfl)]
    simp [lv]
    exact ⟨rfl, rfl⟩
  | _ =>
    simp only [Ea.rs] at ea
    simp only [b__law_refused]
    show Sk (sTryAs _ _ _ _ [some (sgD T ls), some (intsT U), some (intsT V), some (.int most), none] μ) _
    simp only [refD] at lv ⊢
    rw [tryAs_rt (by simp [eCallX_ap, ea, l2]; exact ⟨rfl, rfl⟩)]
    simp [lv]
    exact ⟨rfl, rfl⟩)
end

/-! EFb: texts compared; what is due. -/
theorem oEq_str {s t : Str} (hs : PyData.strOk s = true) (ht : PyData.strOk t = true) (μ : Mu) : oEq (.str s) (.str t) μ = some (.ok (.bl (s == t)) μ) := by
  simp [oEq, val, D.nice, hs, ht, D.eqv, D.py, PyData.eqv]
theorem oNe_str {s t : Str} (hs : PyData.strOk s = true) (ht : PyData.strOk t = true) (μ : Mu) : oNe (.str s) (.str t) μ = some (.ok (.bl (!(s == t))) μ) := by
  simp [oNe, val, D.nice, hs, ht, D.eqv, D.py, PyData.eqv]
theorem ok_told : PyData.strOk (Str.ofString "told") = true := by decide +kernel
theorem ok_word : PyData.strOk (Str.ofString "word") = true := by decide +kernel
theorem ok_rounds : PyData.strOk (Str.ofString "rounds") = true := by decide +kernel
theorem ok_apart : PyData.strOk (Str.ofString "apart") = true := by decide +kernel
theorem ok_refused : PyData.strOk (Str.ofString "refused") = true := by decide +kernel
theorem ne_tr : (Str.ofString "told" == Str.ofString "refused") = false := by decide +kernel
theorem ne_ra : (Str.ofString "rounds" == Str.ofString "apart") = false := by decide +kernel
theorem ne_ar : (Str.ofString "apart" == Str.ofString "rounds") = false := by decide +kernel
theorem nice_wd (k : Nat) (w : List Int) : (wdD w).nice (k + 1) = true := nice_intsL k w
theorem nice_wds (k : Nat) (W : List (List Int)) : nices (k + 1) (W.map wdD) = true := nice_map (fun w => nice_wd k w) W
theorem nice_str (k : Nat) {s : Str} (h : PyData.strOk s = true) : (D.str s).nice k = true := by cases k <;> simpa [D.nice] using h
theorem nice_cons {k : Nat} {d : D} {ds : List D} (h : d.nice k = true) (t : nices k ds = true) : nices k (d :: ds) = true := by simp [nices, h, t]
theorem nice_refD (e : Ea) : (refD e).nice 60 = true := by
  cases e with
  | word w => exact nice_cons (k := 59) (nice_str _ ok_told) (nice_cons (d := .tup [.str "word", wdD w]) (nice_cons (k := 58) (nice_str _ ok_word) (nice_cons (nice_wd _ w) rfl)) rfl)
  | rounds R => exact nice_cons (k := 59) (nice_str _ ok_told) (nice_cons (d := .tup [.str "rounds", .tup (R.map wdD)]) (nice_cons (k := 58) (nice_str _ ok_rounds) (nice_cons (d := .tup (R.map wdD)) (nice_wds 56 R) rfl)) rfl)
  | apart s => exact nice_cons (k := 59) (nice_str _ ok_told) (nice_cons (d := .tup [.str "apart", .int s]) (nice_cons (k := 58) (nice_str _ ok_apart) (nice_cons (nice_int _ _) rfl)) rfl)
  | none => exact nice_cons (k := 59) (nice_str _ ok_refused) (nice_cons (nice_bl _ _) rfl)
def TrQ : D → Mu → Prop := fun d _ => d = .bl true

/-! EFc: values of words put together; partners, middles, rounds, second sets of the law. -/
section
variable {n : Nat} {T : List (List Int)} {ls : List Int}
theorem vw_app (S : Sgr n T ls) {u : List Int} (hu : u ≠ []) (iu : InW ls.length u) : ∀ (k : Nat) {v : List Int}, v.length = k + 1 → InW ls.length v → vw T ls (u ++ v) = at2 T (vw T ls u) (vw T ls v)
  | 0, v, hv, iv => by
    match v, hv with
    | [x], _ =>
      rw [vw_snoc hu]
      rfl
  | k + 1, v, hv, iv => by
    have hne : v ≠ [] := fun z => by rw [z] at hv; simp at hv
    obtain ⟨w, x, rfl⟩ : ∃ w x, v = w ++ [x] := ⟨v.dropLast, v.getLast hne, (List.dropLast_concat_getLast hne).symm⟩
    have wl : w.length = k + 1 := by simpa using hv
    have wne : w ≠ [] := fun z => by rw [z] at wl; simp at wl
    have iw : InW ls.length w := fun y hy => iv y (List.mem_append_left _ hy)
    have ih := vw_app S hu iu k wl iw
    have hx := iv x (by simp)
    have lx := (S.ltr hx.1 hx.2).2
    have r1 := vw_rg S hu iu
    have r2 := vw_rg S wne iw
    rw [← List.append_assoc, vw_snoc (by simp [hu]), ih, vw_snoc wne]
    exact S.tab.assoc _ _ _ r1.1 r1.2 r2.1 r2.2 lx.1 lx.2
theorem vw_cat (S : Sgr n T ls) {u v : List Int} (hu : u ≠ []) (hv : v ≠ []) (iu : InW ls.length u) (iv : InW ls.length v) : vw T ls (u ++ v) = at2 T (vw T ls u) (vw T ls v) :=
  vw_app S hu iu (v.length - 1) (by have := List.length_pos_iff.mpr hv; omega) iv
theorem plus_wd {a b : List Int} (h : a.length + b.length ≤ 100000) (μ : Mu) : oPlus (wdD a) (wdD b) μ = some (.ok (wdD (a ++ b)) μ) := by
  simp only [wdD, oPlus_lst]
  rw [newL_ok (by simp; omega), List.map_append]
end

/-! KG: the law's test by the definition; its draws. -/
theorem eq_lists (u v : List Int) (μ : Mu) : oEq (.lst (u.map D.int)) (.lst (v.map D.int)) μ = some (.ok (.bl (decide (u = v))) μ) := by
  have h1 : (val μ (.lst (u.map D.int))).nice 60 = true := nice_lst_ints 59 u
  have h2 : (val μ (.lst (v.map D.int))).nice 60 = true := nice_lst_ints 59 v
  rw [oEq_ok h1 h2]
  rw [show val μ (.lst (u.map D.int)) = .lst (u.map D.int) from rfl, show val μ (.lst (v.map D.int)) = .lst (v.map D.int) from rfl, eqv_lst_ints]
/-! EFe: what ends tell; the law's same_ends; a second set without common values. -/
section
variable {n : Nat} {T : List (List Int)} {ls : List Int}
theorem vw_left (S : Sgr n T ls) {m m' : List Int} (hm : m ≠ [] ∧ InW ls.length m) (hm' : m' ≠ [] ∧ InW ls.length m') (e : vw T ls m = vw T ls m') {t : List Int} (ht : InW ls.length t) : vw T ls (m ++ t) = vw T ls (m' ++ t) := by
  by_cases c : t = []
  · subst c; simpa using e
  · rw [vw_cat S hm.1 c hm.2 ht, vw_cat S hm'.1 c hm'.2 ht, e]
theorem vw_mid (S : Sgr n T ls) {h m m' t : List Int} (ih : InW ls.length h) (it : InW ls.length t) (hm : m ≠ [] ∧ InW ls.length m) (hm' : m' ≠ [] ∧ InW ls.length m') (e : vw T ls m = vw T ls m') : vw T ls (h ++ m ++ t) = vw T ls (h ++ m' ++ t) := by
  refine vw_left S ⟨by simp [hm.1], ih.app hm.2⟩ ⟨by simp [hm'.1], ih.app hm'.2⟩ ?_ it
  by_cases c : h = []
  · subst c; simpa using e
  · rw [vw_cat S c hm.1 ih hm.2, vw_cat S c hm'.1 ih hm'.2, e]
theorem InW.take {q : Nat} {w : List Int} (h : InW q w) (k : Nat) : InW q (w.take k) := fun x hx => h x (List.mem_of_mem_take hx)
theorem InW.drop {q : Nat} {w : List Int} (h : InW q w) (k : Nat) : InW q (w.drop k) := fun x hx => h x (List.mem_of_mem_drop hx)
/-- each word's ends are found -/
theorem ends_mem (S : Sgr n T ls) {s : Nat} {U w : List Int} (hne : w ≠ []) (iw : InW ls.length w) (hl : s ≤ w.length) (hv : vw T ls w ∈ U) : cutP s w ∈ endsL T ls U s := by
  unfold endsL
  rw [List.mem_append]
  have wp := List.length_pos_iff.mpr hne
  by_cases c : w.length < 2 * s
  · left
    unfold endsA
    refine List.mem_map.mpr ⟨w, List.mem_filter.mpr ⟨mem_wb.mpr ⟨c, iw⟩, ?_⟩, rfl⟩
    simp only [okA, Bool.and_eq_true, decide_eq_true_eq]
    exact ⟨by omega, hv⟩
  · right
    have hs : w = w.take s ++ ((w.drop s).take (w.length - 2 * s)) ++ w.drop (w.length - s) := by
      have e1 : w.drop s = (w.drop s).take (w.length - 2 * s) ++ (w.drop s).drop (w.length - 2 * s) := (List.take_append_drop _ _).symm
      rw [List.drop_drop, show s + (w.length - 2 * s) = w.length - s by omega] at e1
      conv => lhs; rw [← List.take_append_drop s w, e1]
      rw [List.append_assoc]
    have ml : ((w.drop s).take (w.length - 2 * s)).length = w.length - 2 * s := by rw [List.length_take, List.length_drop]; omega
    have im : InW ls.length ((w.drop s).take (w.length - 2 * s)) := (iw.drop s).take _
    generalize (w.drop s).take (w.length - 2 * s) = m at *
    unfold endsB
    refine List.mem_flatMap.mpr ⟨w.take s, mem_hds.mpr ⟨by rw [List.length_take]; omega, iw.take s⟩, ?_⟩
    unfold rowB
    refine List.mem_map.mpr ⟨w.drop (w.length - s), List.mem_filter.mpr ⟨mem_hds.mpr ⟨by rw [List.length_drop]; omega, iw.drop _⟩, ?_⟩, rfl⟩
    unfold hitM
    rw [List.any_eq_true]
    by_cases cm : m = []
    · refine ⟨[], List.mem_cons_self .., ?_⟩
      rw [cm] at hs
      rw [← hs]
      simp [hne, hv]
    · have := closed4 S cm im
      obtain ⟨p, hp, e⟩ := List.mem_map.mp this
      have pw := fk_word hp
      refine ⟨p.2, List.mem_cons_of_mem _ (List.mem_map.mpr ⟨p, hp, rfl⟩), ?_⟩
      have ev := vw_mid S (h := w.take s) (t := w.drop (w.length - s)) (iw.take s) (iw.drop _) ⟨pw.1, pw.2.1⟩ ⟨cm, im⟩ (by rw [← pw.2.2.2, e])
      rw [← hs] at ev
      simp only [Bool.and_eq_true, decide_eq_true_eq]
      exact ⟨by simp [pw.1], by rw [ev]; exact hv⟩
def samE (a b : List Int) (s : Nat) : Bool := decide (a = b) || (decide (s ≤ a.length) && decide (s ≤ b.length) && (decide (a.take s = b.take s) && decide (a.drop (a.length - s) = b.drop (b.length - s))))
theorem samE_comm (a b : List Int) (s : Nat) : samE a b s = samE b a s := by
  unfold samE
  rw [show decide (a = b) = decide (b = a) from decide_eq_decide.2 eq_comm, show decide (a.take s = b.take s) = decide (b.take s = a.take s) from decide_eq_decide.2 eq_comm, show decide (a.drop (a.length - s) = b.drop (b.length - s)) = decide (b.drop (b.length - s) = a.drop (a.length - s)) from decide_eq_decide.2 eq_comm, Bool.and_comm (decide (s ≤ a.length))]
theorem apt_sound (S : Sgr n T ls) {U V : List Int} {s : Nat} (dis : ∀ v ∈ V, v ∉ U) (ap : apT T ls U V s = true) {a b : List Int} (ha : a ≠ [] ∧ InW ls.length a) (hb : b ≠ [] ∧ InW ls.length b) (va : vw T ls a ∈ U) (vb : vw T ls b ∈ V) : samE a b s = false := by
  cases c : samE a b s with
  | false => rfl
  | true =>
    exfalso
    unfold samE at c
    simp only [Bool.or_eq_true, Bool.and_eq_true, decide_eq_true_eq] at c
    rcases c with c | ⟨⟨l1, l2⟩, e1, e2⟩
    · subst c; exact dis _ vb va
    · have m1 := ends_mem S (s := s) ha.1 ha.2 l1 va
      have m2 := ends_mem S (s := s) hb.1 hb.2 l2 vb
      have e : cutP s a = cutP s b := by unfold cutP; rw [e1, e2]
      unfold apT at ap
      rw [List.all_eq_true] at ap
      have := ap _ m1
      rw [e] at this
      simp [m2] at this
theorem same_ends_spec (a b : List Int) (s : Nat) (ha : a.length ≤ 100000) (hb : b.length ≤ 100000) (μ : Mu) : m__law_same_ends [wdD a, wdD b, .int s] μ = some (.ok (.bl (samE a b s)) μ) := EqQ.out (by
  refine Rn.run ?_
  have q : ∀ (u v : List Int) (μ : Mu), oEq (.lst (u.map D.int)) (.lst (v.map D.int)) μ = some (.ok (.bl (decide (u = v))) μ) := eq_lists
  have la : ∀ (w : List Int) μ, oLen [wdD w] μ = some (.ok (.int w.length) μ) := fun w μ => by simp [wdD]
  have la2 : ∀ (w : List Int) μ, oLen [.lst (w.map D.int)] μ = some (.ok (.int w.length) μ) := fun w μ => by simp
  by_cases c : a = b
  · have e : samE a b s = true := by simp [samE, c]
    rw [e]
    simp [b__law_same_ends, wdD, q, c]
    exact ⟨rfl, rfl⟩
  · by_cases l1 : s ≤ a.length
    · by_cases l2 : s ≤ b.length
      · have n1 : ¬ ((a.length : Int) < (s : Int)) := by omega
        have n2 : ¬ ((b.length : Int) < (s : Int)) := by omega
        have s1 : (a.length : Int) - (s : Int) = ((a.length - s : Nat) : Int) := by omega
        have s2 : (b.length : Int) - (s : Int) = ((b.length - s : Nat) : Int) := by omega
        have ct := fun w : List Int => cut_to (w.map D.int) (i := (s : Int)) (by omega)
        have cf := fun (w : List Int) (k : Nat) => cut_from (w.map D.int) (i := (k : Int)) (by omega)
        simp only [Int.toNat_natCast] at ct cf
        have q1 : ∀ μ, oEq (.lst ((a.map D.int).take s)) (.lst ((b.map D.int).take s)) μ = some (.ok (.bl (decide (a.take s = b.take s))) μ) := fun μ => by
          rw [← List.map_take, ← List.map_take]; exact q _ _ μ
        have q2 : ∀ μ, oEq (.lst ((a.map D.int).drop (a.length - s))) (.lst ((b.map D.int).drop (b.length - s))) μ = some (.ok (.bl (decide (a.drop (a.length - s) = b.drop (b.length - s)))) μ) := fun μ => by
          rw [← List.map_drop, ← List.map_drop]; exact q _ _ μ
        have e : samE a b s = (decide (a.take s = b.take s) && decide (a.drop (a.length - s) = b.drop (b.length - s))) := by simp [samE, c, l1, l2]
        rw [e]
        by_cases t : a.take s = b.take s
        · simp [b__law_same_ends, wdD, q, c, n1, n2, ct, cf, s1, s2, q1, q2, t]
          exact ⟨rfl, rfl⟩
        · simp [b__law_same_ends, wdD, q, c, n1, n2, ct, cf, s1, s2, q1, t]
          exact ⟨rfl, rfl⟩
      · have n1 : ¬ ((a.length : Int) < (s : Int)) := by omega
        have n2 : ((b.length : Int) < (s : Int)) := by omega
        have e : samE a b s = false := by simp [samE, c, l2]
        rw [e]
        simp [b__law_same_ends, wdD, q, c, n1, n2]
        exact ⟨rfl, rfl⟩
    · have n1 : ((a.length : Int) < (s : Int)) := by omega
      have e : samE a b s = false := by simp [samE, c, l1]
      rw [e]
      simp [b__law_same_ends, wdD, q, c, n1]
      exact ⟨rfl, rfl⟩)
theorem oNotIn_T (x : Int) (A : List Int) (μ : Mu) : oNotIn (.int x) (intsT A) μ = some (.ok (.bl (!decide (x ∈ A))) μ) := by
  have := oIn_T x A μ
  unfold oIn at this
  unfold oNotIn
  unfold inD at this ⊢
  simp only [intsT] at this ⊢
  split at this
  · rename_i hc
    rw [if_pos hc]
    injection this with this
    injection this with this
    injection this with this
    rw [Bool.false_xor] at this
    rw [this, Bool.true_xor]
  · cases this
end

/-! law k39 -/
def LkI (ns : List Int) (T : List (List Int)) (ls U V : List Int) (s : Nat) (told : D) : Nat → G4.Env → Mu → Prop := fun _ ρ μ => ∃ z8 z9 z10 z11 B, ρ = [some (.scr (ns.map D.int)), some (.cell 0), some (sgD T ls), some (intsT U), some (intsT V), some told, some (.int s), some (.int ls.length), z8, z9, z10, z11] ∧ μ = [some B] ∧ BoxOk B
def LmI (ns : List Int) (T : List (List Int)) (ls U V : List Int) (s : Nat) (told : D) (a : List Int) : G4.Env → Mu → Prop := fun ρ μ => ∃ z8 b z11 B, ρ = [some (.scr (ns.map D.int)), some (.cell 0), some (sgD T ls), some (intsT U), some (intsT V), some told, some (.int s), some (.int ls.length), z8, some (wdD a), some (wdD b), z11] ∧ μ = [some B] ∧ BoxOk B ∧ (b ≠ [] ∧ InW ls.length b ∧ b.length ≤ 1000)
theorem math (ns : List Int) (h : ns.length ≤ 63) : ∃ μ, m_law [.scr (ns.map D.int)] [] = some (.ok (.bl true) μ) := by
  have key : Rn (m_law [.scr (ns.map D.int)] []) TrQ := by
    refine Rn.run ?_
    obtain ⟨B0, hB0, e0⟩ := box_spec ns h
    obtain ⟨n, T, ls, B1, S, _, hB1, e1⟩ := semigroup_spec hB0 [] (most := 4) (by decide) (by decide)
    have e1 : m__law_semigroup [.cell 0, .int 4] [some B0] = _ := e1
    have n4 := S.n4
    have l3 := S.l3
    have l0 := S.l0
    have ln : ∀ μ, oLen [tabD T] μ = some (.ok (.int n) μ) := fun μ => by simp [tabD, S.tab.toGrid.len]
    have ll : ∀ μ, oLen [intsT ls] μ = some (.ok (.int ls.length) μ) := fun μ => by simp [intsT]
    have s0 : ∀ {μ : Mu}, oIx (sgD T ls) (.int 0) μ = some (.ok (tabD T) μ) := fun {_} => rfl
    have s1 : ∀ {μ : Mu}, oIx (sgD T ls) (.int 1) μ = some (.ok (intsT ls) μ) := fun {_} => rfl
    obtain ⟨U, B2, hU, hB2, e2⟩ := subset_spec hB1 [] (n := n) (by omega)
    obtain ⟨W, B3, hW, hB3, e3⟩ := subset_spec hB2 [] (n := n) (by omega)
    obtain ⟨r5, B4, r0, r1, hB4, e5⟩ := next_spec hB3 [] (m := 4) (by decide)
    obtain ⟨most, rfl⟩ : ∃ m : Nat, r5 = (m : Int) := ⟨r5.toNat, by omega⟩
    have hU : Rg n U ∧ U.Pairwise (· < ·) := ⟨hU.1.2, hU.2⟩
    obtain ⟨V, hVd⟩ : ∃ V, V = W.filter fun x => !decide (x ∈ U) := ⟨_, rfl⟩
    have hV : Rg n V ∧ V.Pairwise (· < ·) := by
      rw [hVd]
      exact ⟨fun x hx => hW.1.2 x (List.mem_filter.mp hx).1, hW.2.filter _⟩
    have dis : ∀ v ∈ V, v ∉ U := fun v hv => by
      rw [hVd] at hv
      simpa using (List.mem_filter.mp hv).2
    have vlen : (W.filter fun x => !decide (x ∈ U)).length ≤ 16777216 := by
      have := List.length_filter_le (fun x => !decide (x ∈ U)) W
      have := hW.1.1
      omega
    have e6 := refused_spec S hU hV (most := most) (by omega)
    have nb : (fk T ls 4).find? (boP U V) = none := by
      rw [List.find?_eq_none]
      intro p hp c
      simp only [boP, Bool.and_eq_true, decide_eq_true_eq] at c
      exact dis p.1 c.2 c.1
    have ee : eaOf T ls U V most = match rndF T (fk T ls 4) U V with
        | some R => .rounds R
        | none => match (List.range (most + 1)).find? (apT T ls U V) with
          | some s => .apart s
          | none => .none := by unfold eaOf; rw [nb] <;> rfl
    have it : ∀ μ, any1 (some (.ok (intsT W) μ)) = some (.ok (.its (W.map D.int)) μ) := fun μ => rfl
    simp [b_law, call1_ok e0]
    simp [call1_ok e1]
    simp [s0, ln, call1_ok e2]
    simp [s0, ln, call1_ok e3, it]
    rw [comps_gmap D.int (fun x => [some (.scr (ns.map D.int)), some (.cell 0), some (sgD T ls), some (intsT U), none, none, none, none, some (.int x), none, none, none]) (fun x => !decide (x ∈ U)) D.int (fun x _ => rfl) (fun x _ => by simp [oNotIn_T]) (fun x _ _ => rfl), newL_ok (by rw [List.length_map]; exact vlen), ← hVd]
    have iT : D.tup (V.map D.int) = intsT V := rfl
    simp
    rw [iT]
    simp [call1_ok e5, call1_ok (e6 _)]
    rw [ee]
    have i1 : ∀ (a b : D) μ, oIx (.lst [a, b]) (.int 1) μ = some (.ok b μ) := fun _ _ _ => rfl
    have i0 : ∀ (a b : D) μ, oIx (.lst [a, b]) (.int 0) μ = some (.ok a μ) := fun _ _ _ => rfl
    have t0 : ∀ (a b : D) μ, oIx (.tup [a, b]) (.int 0) μ = some (.ok a μ) := fun _ _ _ => rfl
    have t1 : ∀ (a b : D) μ, oIx (.tup [a, b]) (.int 1) μ = some (.ok b μ) := fun _ _ _ => rfl
    cases rndF T (fk T ls 4) U V with
    | some R =>
      simp only [refD]
      simp [i0, i1, t0, oEq_str ok_told ok_refused, ne_tr, oNe_str ok_rounds ok_apart, ne_ra, oEq_str ok_rounds ok_rounds]
      exact rfl
    | none =>
      cases ef : (List.range (most + 1)).find? (apT T ls U V) with
      | none =>
        simp only [refD]
        simp [i0, i1, oEq_str ok_refused ok_refused]
        exact rfl
      | some s =>
        have ap := List.find?_some ef
        have sm := List.mem_range.mp (List.mem_of_find?_eq_some ef)
        simp only [refD]
        have lv := fun {w : List Int} (hne : w ≠ []) (iw : InW ls.length w) (μ : Mu) => (show m__law_value [sgD T ls, wdD w] μ = some (.ok (.int (vw T ls w)) μ) by
          have := law_value_spec S (w := w) iw μ
          rw [vw_some hne] at this
          exact this)
        have r6 : rOk 6 = true := rOk_of (by decide) (by decide)
        simp [i0, i1, t0, t1, oEq_str ok_told ok_refused, ne_tr, oNe_str ok_apart ok_apart, s1, ll]
        generalize D.lst [D.str "told", D.tup [D.str "apart", D.int s]] = told
        rw [rng1_ok r6]
        simp only [fors_its]
        refine Sk.seq_loop (LkI ns T ls U V s told) ⟨none, none, none, none, B4, rfl, rfl, hB4⟩ ?_ ?_
        · rintro i d ρ μ hd ⟨z8, z9, z10, z11, B, rfl, rfl, hB⟩
          rw [turn1_name]
          refine Go.of ?_
          obtain ⟨q1, C1, q2, q3, hC1, g1⟩ := next_spec hB [] (m := 9) (by decide)
          obtain ⟨c, hc⟩ : ∃ c : Nat, 1 + q1 = (c : Int) := ⟨(1 + q1).toNat, by omega⟩
          have hk : rOk (c : Int) = true := rOk_of (by omega) (by omega)
          simp [call1_ok g1, hc]
          rw [rng1_ok hk, Int.toNat_natCast]
          obtain ⟨a, C2, al, ar, hC2, g2⟩ := comps_draw hC1 [] (mk := newL) (ρ := [some (.scr (ns.map D.int)), some (.cell 0), some (sgD T ls), some (intsT U), some (intsT V), some told, some (.int s), some (.int ls.length), some d, z9, z10, none]) (k := 11) (bi := 1) (fe := eVar 7) (m := (ls.length : Int)) (by omega) c (fun _ => rfl) (fun _ _ => rfl)
          rw [g2, newL_ok (by rw [List.length_map]; omega)]
          obtain ⟨q4, C3, q5, q6, hC3, g3⟩ := next_spec hC2 [] (m := 9) (by decide)
          obtain ⟨e, he⟩ : ∃ e : Nat, 1 + q4 = (e : Int) := ⟨(1 + q4).toNat, by omega⟩
          have hk2 : rOk (e : Int) = true := rOk_of (by omega) (by omega)
          simp [call1_ok g3, he]
          rw [rng1_ok hk2, Int.toNat_natCast]
          obtain ⟨b, C4, bl, br, hC4, g4⟩ := comps_draw hC3 [] (mk := newL) (ρ := [some (.scr (ns.map D.int)), some (.cell 0), some (sgD T ls), some (intsT U), some (intsT V), some told, some (.int s), some (.int ls.length), some d, some (.lst (a.map D.int)), z10, none]) (k := 11) (bi := 1) (fe := eVar 7) (m := (ls.length : Int)) (by omega) e (fun _ => rfl) (fun _ _ => rfl)
          rw [g4, newL_ok (by rw [List.length_map]; omega)]
          obtain ⟨q7, C5, _, _, hC5, g5⟩ := next_spec hC4 [] (m := 2) (by decide)
          have ane : a ≠ [] := fun z => by rw [z] at al; simp at al; omega
          have bne : b ≠ [] := fun z => by rw [z] at bl; simp at bl; omega
          have la : ∀ μ, oLen [wdD a] μ = some (.ok (.int a.length) μ) := fun μ => by simp [wdD]
          have wa : D.lst (a.map D.int) = wdD a := rfl
          have wb' : D.lst (b.map D.int) = wdD b := rfl
          rw [wa, wb']
          simp [call1_ok g5]
          refine Sk.cut (LmI ns T ls U V s told a) ?_ ?_
          · refine Sk.ifs (fun h => ?_) fun h => ?_
            · have mx : (if (a.length : Int) - (s : Int) < 0 then (0 : Int) else (a.length : Int) - (s : Int)) = ((a.length - s : Nat) : Int) := by split <;> omega
              have mx2 : (if s < a.length then (a.length : Int) - (s : Int) else (0 : Int)) = ((a.length - s : Nat) : Int) := by split <;> omega
              have sa1 : ∀ μ, slL (wdD a) none (some (s : Int)) μ = some (.ok (wdD (a.take s)) μ) := fun μ => by
                simp only [wdD, slL_lst]
                rw [cut_to _ (by omega), Int.toNat_natCast, List.map_take]
              have sa2 : ∀ μ, slL (wdD a) (some ((a.length - s : Nat) : Int)) none μ = some (.ok (wdD (a.drop (a.length - s))) μ) := fun μ => by
                simp only [wdD, slL_lst]
                rw [cut_from _ (by omega), Int.toNat_natCast, List.map_drop]
              have p1 := fun μ => plus_wd (a := a.take s) (b := b) (by rw [List.length_take]; omega) μ
              have p2 := fun μ => plus_wd (a := a.take s ++ b) (b := a.drop (a.length - s)) (by rw [List.length_append, List.length_take, List.length_drop]; omega) μ
              generalize hw : a.take s ++ b ++ a.drop (a.length - s) = w at p2
              simp [la, mx, mx2, sa1, sa2, p1, p2]
              refine ⟨_, w, _, C5, rfl, rfl, hC5, ?_, ?_, ?_⟩
              · rw [← hw]; simp [bne]
              · rw [← hw]; exact ((InW.take ar s).app br).app (InW.drop ar _)
              · rw [← hw, List.length_append, List.length_append, List.length_take, List.length_drop]; omega
            · simp
              exact ⟨_, b, _, C5, rfl, rfl, hC5, bne, br, by omega⟩
          · rintro ρ μ ⟨z8, b, z11, B, rfl, rfl, hB, bne, br, bl⟩
            have v1 := fun μ => lv ane ar μ
            have v2 := fun μ => lv bne br μ
            have se := same_ends_spec a b s (by omega) (by omega)
            have fin : LkI ns T ls U V s told (i + 1) [some (.scr (ns.map D.int)), some (.cell 0), some (sgD T ls), some (intsT U), some (intsT V), some told, some (.int s), some (.int ls.length), z8, some (wdD a), some (wdD b), z11] [some B] := ⟨_, _, _, _, B, rfl, rfl, hB⟩
            have f1 : vw T ls a ∈ U → vw T ls b ∈ V → samE a b s = false := fun x y => apt_sound S dis ap ⟨ane, ar⟩ ⟨bne, br⟩ x y
            have f2 : vw T ls a ∈ V → vw T ls b ∈ U → samE a b s = false := fun x y => by rw [samE_comm]; exact apt_sound S dis ap ⟨bne, br⟩ ⟨ane, ar⟩ y x
            by_cases c1 : vw T ls a ∈ U
            · by_cases c2 : vw T ls b ∈ V
              · rw [f1 c1 c2] at se
                have c3 : vw T ls a ∉ V := fun z => dis _ z c1
                simp [call1_ok (v1 _), call1_ok (v2 _), oIn_T, c1, c2, c3, call1_ok (se _)]
                exact fin
              · by_cases c3 : vw T ls a ∈ V
                · exact absurd c1 (dis _ c3)
                · simp [call1_ok (v1 _), call1_ok (v2 _), oIn_T, c1, c2, c3]
                  exact fin
            · by_cases c3 : vw T ls a ∈ V
              · by_cases c4 : vw T ls b ∈ U
                · rw [f2 c3 c4] at se
                  simp [call1_ok (v1 _), call1_ok (v2 _), oIn_T, c1, c3, c4, call1_ok (se _)]
                  exact fin
                · simp [call1_ok (v1 _), call1_ok (v2 _), oIn_T, c1, c3, c4]
                  exact fin
              · simp [call1_ok (v1 _), call1_ok (v2 _), oIn_T, c1, c3]
                exact fin
        · rintro ρ μ ⟨z8, z9, z10, z11, B, rfl, rfl, hB⟩
          simp
          exact rfl
  obtain ⟨d, μ', e, rfl⟩ := key
  exact ⟨μ', e⟩

end Law
open PySem PySem.W PyProof.Rows
set_option maxRecDepth 100000 in
set_option maxHeartbeats 0 in
theorem PySem.Challenge.cw_partfilter_k39_whole_beginnings_and_ends_holds : PySem.Challenge.rw_partfilter_k39_whole_beginnings_and_ends.Holds := by
  w_on; o_law; k_head; (case hw => w_witness2)
  k_fill
  refine G4.walk_tabs (l := PySem.Challenge.rw_partfilter_k39_whole_beginnings_and_ends) (k := 8) (x := "_law_script") rfl rfl ⟨rfl, by decide, by decide⟩ (fun w h Y => PySem.W.kIn_of Y) (["is_associative", "fault_of", "is_value_set", "check_sets", "ends_of", "tells_apart"] : List Str) (by decide +kernel) ?F
  case F =>
    intro w mg fa h KX G hmg tabs
    refine' Law.all_mk Law.math KX G hmg tabs ?a0 ?l0 ?c0 ?k0 ?a1 ?l1 ?c1 ?k1 ?a2 ?l2 ?c2 ?k2 ?a3 ?l3 ?c3 ?k3 ?a4 ?l4 ?c4 ?k4 ?a5 ?l5 ?c5 ?k5 ?a6 ?l6 ?c6 ?k6 ?a7 ?l7 ?c7 ?k7 ?a8 ?l8 ?c8 ?k8 ?q8 ?p8 ?r8 ?a9 ?l9 ?c9 ?k9 ?q9 ?p9 ?r9 ?a10 ?l10 ?c10 ?k10 ?a11 ?l11 ?c11 ?k11 ?q11 ?p11 ?r11 ?a12 ?l12 ?c12 ?k12 ?q12 ?p12 ?r12 ?a13 ?l13 ?c13 ?k13 ?a14 ?l14 ?c14 ?k14 ?a15 ?l15 ?c15 ?k15 ?a16 ?l16 ?c16 ?k16 ?a17 ?l17 ?c17 ?k17 ?a18 ?l18 ?c18 ?k18 ?a19 ?l19 ?c19 ?k19 ?q19 ?p19 ?r19 ?a20 ?l20 ?c20 ?k20 ?q20 ?p20 ?r20 ?a21 ?l21 ?c21 ?k21 ?a22 ?l22 ?c22 ?k22 ?a23 ?l23 ?c23 ?k23 ?a24 ?l24 ?c24 ?k24 ?a25 ?l25 ?c25 ?k25 ?xa_NoLength ?xx_NoLength ?xk_NoLength ?xe1_NoLength ?xe2_NoLength ?xe5_NoLength ?xe8_NoLength ?xb_NoLength ?xt_NoLength ?xe4_NoLength ?xa_FilterError ?xc_FilterError ?xd_FilterError ?xe6 ?xe7 ?xs_NoLength_NoLength ?xq_NoLength_FilterError ?xr0_NoLength ?z_all ?z_any ?z_enumerate ?z_int ?z_isinstance ?z_len ?z_list ?z_max ?z_min ?z_range ?z_set ?z_tuple ?y_MOST_LETTERS ?y_MOST_VALUES
    (case xa_NoLength => k_is)
    (case xa_FilterError => k_is)
    (case a0 => k_is)
    (case l0 => k_is)
    (case c0 => k_is)
    (case k0 => k_is)
    (case a1 => k_is)
    (case l1 => k_is)
    (case c1 => k_is)
    (case k1 => k_is)
    (case a2 => k_is)
    (case l2 => k_is)
    (case c2 => k_is)
    (case k2 => k_is)
    (case a3 => k_is)
    (case l3 => k_is)
    (case c3 => k_is)
    (case k3 => k_is)
    (case a4 => k_is)
    (case l4 => k_is)
    (case c4 => k_is)
    (case k4 => k_is)
    (case a5 => k_is)
    (case l5 => k_is)
    (case c5 => k_is)
    (case k5 => k_is)
    (case a6 => k_is)
    (case l6 => k_is)
    (case c6 => k_is)
    (case k6 => k_is)
    (case a7 => k_is)
    (case l7 => k_is)
    (case c7 => k_is)
    (case k7 => k_is)
    (case a8 => k_is)
    (case l8 => k_is)
    (case c8 => k_is)
    (case k8 => k_is)
    (case q8 => k_is)
    (case p8 => rfl)
    (case r8 => rfl)
    (case a9 => k_is)
    (case l9 => k_is)
    (case c9 => k_is)
    (case k9 => k_is)
    (case q9 => k_is)
    (case p9 => rfl)
    (case r9 => rfl)
    (case a10 => k_is)
    (case l10 => k_is)
    (case c10 => k_is)
    (case k10 => k_is)
    (case a11 => k_is)
    (case l11 => k_is)
    (case c11 => k_is)
    (case k11 => k_is)
    (case q11 => k_is)
    (case p11 => rfl)
    (case r11 => rfl)
    (case a12 => k_is)
    (case l12 => k_is)
    (case c12 => k_is)
    (case k12 => k_is)
    (case q12 => k_is)
    (case p12 => rfl)
    (case r12 => rfl)
    (case a13 => k_is)
    (case l13 => k_is)
    (case c13 => k_is)
    (case k13 => k_is)
    (case a14 => k_is)
    (case l14 => k_is)
    (case c14 => k_is)
    (case k14 => k_is)
    (case a15 => k_is)
    (case l15 => k_is)
    (case c15 => k_is)
    (case k15 => k_is)
    (case a16 => k_is)
    (case l16 => k_is)
    (case c16 => k_is)
    (case k16 => k_is)
    (case a17 => k_is)
    (case l17 => k_is)
    (case c17 => k_is)
    (case k17 => k_is)
    (case a18 => k_is)
    (case l18 => k_is)
    (case c18 => k_is)
    (case k18 => k_is)
    (case a19 => k_is)
    (case l19 => k_is)
    (case c19 => k_is)
    (case k19 => k_is)
    (case q19 => k_is)
    (case p19 => rfl)
    (case r19 => rfl)
    (case a20 => k_is)
    (case l20 => k_is)
    (case c20 => k_is)
    (case k20 => k_is)
    (case q20 => k_is)
    (case p20 => rfl)
    (case r20 => rfl)
    (case a21 => k_is)
    (case l21 => k_is)
    (case c21 => k_is)
    (case k21 => k_is)
    (case a22 => k_is)
    (case l22 => k_is)
    (case c22 => k_is)
    (case k22 => k_is)
    (case a23 => k_is)
    (case l23 => k_is)
    (case c23 => k_is)
    (case k23 => k_is)
    (case a24 => k_is)
    (case l24 => k_is)
    (case c24 => k_is)
    (case k24 => k_is)
    (case a25 => k_is)
    (case l25 => k_is)
    (case c25 => k_is)
    (case k25 => k_is)
    (case xx_NoLength => k_exc)
    (case xk_NoLength => k_is)
    (case xe1_NoLength => k_is)
    (case xe2_NoLength => k_is)
    (case xe5_NoLength => k_is)
    (case xe8_NoLength => k_is)
    (case xb_NoLength => k_is)
    (case xt_NoLength => k_is)
    (case xe4_NoLength => k_is)
    (case xc_FilterError => k_is)
    (case xd_FilterError => k_is)
    (case xe6 => k_is)
    (case xe7 => k_is)
    (case xs_NoLength_NoLength => k_is)
    (case xq_NoLength_FilterError => k_is)
    (case xr0_NoLength => k_is)
    (case z_all => k_is)
    (case z_any => k_is)
    (case z_enumerate => k_is)
    (case z_int => k_is)
    (case z_isinstance => k_is)
    (case z_len => k_is)
    (case z_list => k_is)
    (case z_max => k_is)
    (case z_min => k_is)
    (case z_range => k_is)
    (case z_set => k_is)
    (case z_tuple => k_is)
    (case y_MOST_LETTERS => k_is)
    (case y_MOST_VALUES => k_is)
